import Derived.Test.YtpolojoeabmhdaaMYcoreb
import Derived.Test.YtpolojoeabmhdaaMYcored
import Derived.Test.YtpolojoeabmhdaaMYcoref
import Derived.Test.YtpolojoeabmhdaaMYcoreg
import Derived.Below
import Derived.ChangeOld
import Derived.ChangeSame
import Derived.ChangeSlices
import Derived.Deep.Fields
import Derived.Deep.Slices
import Derived.Lib.SmallJoins
import Derived.OpenShut
import Derived.ProofKit
import Derived.ShutString
import Derived.SizedLaws
import Derived.WalkKit
set_option linter.unusedVariables false
set_option linter.unusedSimpArgs false
/- grow and solve answer as the plain passes do. -/
namespace Go.Proofs.Ytpolojoeabmhdaa.A
open Go.RowKit Go.Proofs.YtpolojoeabmhdaaW.PrintWords Go.Proofs.YtpolojoeabmhdaaW.PrintLast Go.Proofs.YtpolojoeabmhdaaW.PrintMore
theorem wrap_id {x : Int} (h0 : -9223372036854775808 <= x) (h1 : x < 9223372036854775808) : wrap64 x = x := by
 unfold wrap64
 omega
theorem Ev.shift {α : Type} {g h : Nat -> Option α} {r : α} (a : Nat) (hg : ∀ f, g (f + a) = h f) (hh : Ev h r) : Ev g r := by
 obtain ⟨K, hK⟩ := hh
 refine ⟨K + a, fun k hk => ?_⟩
 obtain ⟨f, rfl⟩ : ∃ f, k = f + a := ⟨k - a, by omega⟩
 rw [hg]
 exact hK f (by omega)
theorem Ev.pos {α : Type} {c : Prop} [inst : Decidable c] {f g : Nat -> Option α} {r : α} (h : c) (k : Ev f r) : Ev (fun n => if c then f n else g n) r :=
 Ev.congr (fun n => if_pos h) k
theorem Ev.neg {α : Type} {c : Prop} [inst : Decidable c] {f g : Nat -> Option α} {r : α} (h : ¬ c) (k : Ev g r) : Ev (fun n => if c then f n else g n) r :=
 Ev.congr (fun n => if_neg h) k
section
variable {n : Nat} {L : List S39} {src : Int -> Prop}
theorem grow_l2 (hE : EdgesOk n L) {b : Int} (hb : 0 <= b) (hbm : b + L.length <= 4294967296) : ∀ (q : Nat) (k c : Int) (s : Sg) (T : Int -> Int) (f : Nat), (q : Int) + k = L.length -> 0 <= k -> Bf n L src b k s T ->
  d_grow.l2 (f + 2 * q) L c L L.length k s.lo s.ha s.la = d_grow.l2 f L (pass (L.drop k.toNat) k c s).1 L L.length L.length (pass (L.drop k.toNat) k c s).2.lo (pass (L.drop k.toNat) k c s).2.ha (pass (L.drop k.toNat) k c s).2.la
 | 0, k, c, s, T, f, hq, h0, h => by
  have hk : k = L.length := by omega
  rw [List.drop_eq_nil_of_le (by omega), hk]
  rfl
 | q + 1, k, c, s, T, f, hq, h0, h => by
  have hk : k < (L.length : Int) := by omega
  have hd := hE k h0 hk
  have l1 := h.l1
  have l2 := h.l2
  have l3 := h.l3
  rw [rT39_drop L k h0 hk, show f + 2 * (q + 1) = (f + 2 * q) + 1 + 1 from by omega]
  have hw := h.w _ hd.a hd.b
  have he := hd.e
  have hf := hd.f
  have hwr : wrap64 (rd s.lo (rT39 L k).f0 + (rT39 L k).f2) = rd s.lo (rT39 L k).f0 + (rT39 L k).f2 := wrap_id (by omega) (by omega)
  have hk1 : wrap64 (k + 1) = k + 1 := wrap_id (by omega) (by omega)
  unfold pass
  simp only [d_grow.l2]
  rw [if_pos hk, if_pos h0, if_pos hk, if_pos hd.a, if_pos (show (rT39 L k).f0 < (s.ha.length : Int) from by rw [l2]; exact hd.b)]
  have hnext : ∀ y, d_grow.j3 (f + 2 * q + 1) L c k L L.length k y s.lo s.ha s.la (rT39 L k).f0 (rT39 L k).f1 (rT39 L k).f2 = if y = true then d_grow.l2 (f + 2 * q) L (rT39 L k).f1 L L.length (k + 1) (s.put (rT39 L k) k).lo (s.put (rT39 L k) k).ha (s.put (rT39 L k) k).la else d_grow.l2 (f + 2 * q) L c L L.length (k + 1) s.lo s.ha s.la := by
   intro y
   simp only [d_grow.j3]
   rw [if_pos hd.a, if_pos (show (rT39 L k).f0 < (s.lo.length : Int) from by rw [l1]; exact hd.b), if_pos hd.c, if_pos (show (rT39 L k).f1 < (s.lo.length : Int) from by rw [l1]; exact hd.g), if_pos (show (rT39 L k).f1 < (s.ha.length : Int) from by rw [l2]; exact hd.g), if_pos (show (rT39 L k).f1 < (s.la.length : Int) from by rw [l3]; exact hd.g), hk1, hwr]
   rfl
  by_cases hu : rdOf false s.ha (rT39 L k).f0 = true
  .rw [if_pos hu, if_pos hd.c, if_pos (show (rT39 L k).f1 < (s.ha.length : Int) from by rw [l2]; exact hd.g)]
   by_cases hv : rdOf false s.ha (rT39 L k).f1 = true
   .rw [if_pos hv, if_pos (show (rT39 L k).f0 < (s.lo.length : Int) from by rw [l1]; exact hd.b), if_pos (show (rT39 L k).f1 < (s.lo.length : Int) from by rw [l1]; exact hd.g), hnext, hwr]
    by_cases hy : rd s.lo (rT39 L k).f0 + (rT39 L k).f2 < rd s.lo (rT39 L k).f1
    .have hbt : s.better (rT39 L k) = true := by rw [better_iff]; exact ⟨hu, Or.inr hy⟩
     rw [if_pos (decide_eq_true hy), if_pos hbt]
     exact grow_l2 hE hb hbm q (k + 1) _ _ _ f (by omega) (by omega) (h.step hE h0 hk hb hbt)
    .have hbt : ¬ s.better (rT39 L k) = true := by
      rw [better_iff]; rintro ⟨_, h2 | h2⟩
      .exact h2 hv
      .exact hy h2
     rw [if_neg (by simpa using hy), if_neg hbt]
     exact grow_l2 hE hb hbm q (k + 1) c s T f (by omega) (by omega) (h.skip hE h0 hk hb hbt)
   .have hbt : s.better (rT39 L k) = true := by rw [better_iff]; exact ⟨hu, Or.inl hv⟩
    rw [if_neg hv, hnext, if_pos rfl, if_pos hbt]
    exact grow_l2 hE hb hbm q (k + 1) _ _ _ f (by omega) (by omega) (h.step hE h0 hk hb hbt)
  .have hbt : ¬ s.better (rT39 L k) = true := by
    rw [better_iff]; rintro ⟨h2, _⟩
    exact hu h2
   rw [if_neg hu, hnext, if_neg (by simp), if_neg hbt]
   exact grow_l2 hE hb hbm q (k + 1) c s T f (by omega) (by omega) (h.skip hE h0 hk hb hbt)
theorem looped_l0 (hE : EdgesOk n L) (hn : n <= 65536) {b k : Int} {s : Sg} {T : Int -> Int} (h : Bf n L src b k s T) : ∀ (j : Nat) (i v : Int) (f : Nat), (j : Int) + i = n -> 0 <= i -> 0 <= v -> v < n ->
  d_tree_looped.l0 (f + j + 1) L v n i s.lo s.ha s.la = some (loopedL L s.la j v)
 | 0, i, v, f, hj, hi, h0, h1 => by
  simp only [d_tree_looped.l0]
  rw [if_neg (by omega)]
  rfl
 | j + 1, i, v, f, hj, hi, h0, h1 => by
  rw [show f + (j + 1) + 1 = (f + j + 1) + 1 from by omega]
  have l3 := h.l3
  simp only [d_tree_looped.l0]
  rw [if_pos (by omega), if_pos h0, if_pos (by omega)]
  unfold loopedL
  by_cases hl : rd s.la v < 0
  .rw [if_pos hl, if_pos hl]
  .have hp := h.p v h0 h1 (h.la_pos h0 h1 (by omega))
   have hb := h.bk_node hE h0 h1 (by omega)
   rw [if_neg hl, if_neg hl, if_pos (by omega), if_pos hp.2.1, wrap_id (by omega) (by omega)]
   exact looped_l0 hE hn h j (i + 1) _ f (by omega) (by omega) hb.1 hb.2
theorem grow_l1 (hE : EdgesOk n L) (hn : n <= 65536) (hm : (n : Int) * L.length <= 4294967296) : ∀ (r q : Nat) (s : Sg) (T : Int -> Int) (s' : Sg) (bad : Int), q + r = n -> Bf n L src ((q : Int) * L.length) 0 s T -> growP L n r s = some (s', bad) ->
  Ev (fun k => d_grow.l1 k L s.lo s.ha s.la) (s'.lo, s'.ha, s'.la, bad)
 | 0, q, s, T, s', bad, hq, h, hg => by simp [growP] at hg
 | r + 1, q, s, T, s', bad, hq, h, hg => by
  have hpos : (0 : Int) <= (q : Int) * L.length := Int.mul_nonneg (by omega) (by omega)
  have hb1 : ((q : Int) + 1) * L.length = (q : Int) * L.length + L.length := by rw [Int.add_mul, Int.one_mul]
  have hb2 : (q : Int) * L.length + L.length <= (n : Int) * L.length := by
   rw [<- hb1]; exact Int.mul_le_mul_of_nonneg_right (by omega) (by omega)
  obtain ⟨T', h', hc⟩ := pass_bf hE hpos L.length 0 (-1) s T (by omega) (by omega) h (Or.inl rfl)
  have e2 := fun f => grow_l2 hE hpos (by omega) L.length 0 (-1) s T f (by omega) (by omega) h
  simp only [show (0 : Int).toNat = 0 from rfl, List.drop_zero] at h' hc e2
  refine Ev.shift (2 * L.length + 2) (h := fun f => if (pass L 0 (-1) s).1 < 0 then some ((pass L 0 (-1) s).2.lo, (pass L 0 (-1) s).2.ha, (pass L 0 (-1) s).2.la, (-1)) else ((d_tree_looped.f f (pass L 0 (-1) s).2.lo (pass L 0 (-1) s).2.ha (pass L 0 (-1) s).2.la L (pass L 0 (-1) s).1).bind fun t => if t >= 0 then some ((pass L 0 (-1) s).2.lo, (pass L 0 (-1) s).2.ha, (pass L 0 (-1) s).2.la, t) else d_grow.l1 f L (pass L 0 (-1) s).2.lo (pass L 0 (-1) s).2.ha (pass L 0 (-1) s).2.la)) (fun f => ?_) ?_
  .rw [show f + (2 * L.length + 2) = ((f + 1) + 2 * L.length) + 1 from by omega]
   simp only [d_grow.l1]
   rw [e2 (f + 1)]
   simp only [d_grow.l2]
   rw [if_neg (by omega)]
  .unfold growP at hg
   rcases hc with ⟨c1, c2, c3, c4⟩ | hc
   .have hneg : (pass L 0 (-1) s).1 < 0 := by omega
    rw [if_pos hneg] at hg
    simp only [if_pos hneg]
    simp only [Option.some.injEq, Prod.mk.injEq] at hg
    obtain ⟨rfl, rfl⟩ := hg
    exact Ev.now _
   .have hneg : ¬ (pass L 0 (-1) s).1 < 0 := by have := hc.1; omega
    rw [if_neg hneg] at hg
    simp only [if_neg hneg]
    have hl : Ev (fun f => d_tree_looped.f f (pass L 0 (-1) s).2.lo (pass L 0 (-1) s).2.ha (pass L 0 (-1) s).2.la L (pass L 0 (-1) s).1) (loopedL L (pass L 0 (-1) s).2.la n (pass L 0 (-1) s).1) := ⟨n + 1, fun k hk => by
     obtain ⟨f, rfl⟩ : ∃ f, k = f + n + 1 := ⟨k - (n + 1), by omega⟩
     have := looped_l0 hE hn h' n 0 _ f (by omega) (by omega) hc.1 hc.2.1
     unfold d_tree_looped.f
     rw [h'.l3]
     exact this⟩
    refine hl.bind ?_
    by_cases hlo : loopedL L (pass L 0 (-1) s).2.la n (pass L 0 (-1) s).1 >= 0
    .rw [if_pos hlo] at hg
     simp only [if_pos hlo]
     simp only [Option.some.injEq, Prod.mk.injEq] at hg
     obtain ⟨rfl, rfl⟩ := hg
     exact Ev.now _
    .rw [if_neg hlo] at hg
     simp only [if_neg hlo]
     have h'' := h'.next
     rw [<- hb1] at h''
     exact grow_l1 hE hn hm r (q + 1) _ T' s' bad (by omega) (by push_cast; exact h'') hg
theorem grow_l0 {L : List S39} (n : Nat) (lo la : List Int) : ∀ (q : Nat) (i : Int) (from_ : List Int) (ha : List Bool) (f : Nat), (q : Int) + i = from_.length -> 0 <= i -> from_.length <= 4294967296 -> ha.length = n -> (∀ x ∈ from_, 0 <= x /\ x < (n : Int)) ->
  d_grow.l0 (f + q + 1) L from_ from_.length i lo ha la = d_grow.l1 f L lo ((from_.drop i.toNat).foldl (fun h x => h.set x.toNat true) ha) la
 | 0, i, from_, ha, f, hq, hi, hl, hh, hf => by
  simp only [d_grow.l0]
  rw [if_neg (by omega), List.drop_eq_nil_of_le (by omega)]
  rfl
 | q + 1, i, from_, ha, f, hq, hi, hl, hh, hf => by
  rw [show f + (q + 1) + 1 = (f + q + 1) + 1 from by omega]
  have hlt : i < (from_.length : Int) := by omega
  have hmem : rd from_ i ∈ from_ := by
   unfold rd
   rw [List.getD_eq_getElem?_getD, List.getElem?_eq_getElem (by omega)]; exact List.getElem_mem _
  have hx := hf _ hmem
  rw [d_grow.l0, if_pos hlt, if_pos hi, if_pos hlt, if_pos hx.1, if_pos (by rw [hh]; exact hx.2), wrap_id (by omega) (by omega), grow_l0 n lo la q (i + 1) from_ _ f (by omega) (by omega) hl (by simpa using hh) hf]
  congr 1
  have e : from_.drop i.toNat = rd from_ i :: from_.drop (i + 1).toNat := by
   rw [show (i + 1).toNat = i.toNat + 1 from by omega, List.drop_eq_getElem_cons (by omega)]
   congr 1
   unfold rd
   rw [List.getD_eq_getElem?_getD, List.getElem?_eq_getElem (by omega)]; rfl
  rw [e, List.foldl_cons]
theorem grow_ev (hn0 : 0 < n) (hn : n <= 65536) (hE : EdgesOk n L) (hm : (n : Int) * L.length <= 4294967296) {from_ : List Int} (hl : from_.length <= 4294967296) (hf : ∀ i ∈ from_, 0 <= i /\ i < (n : Int)) :
  ∃ s bad, growP L n n (sg0 n from_) = some (s, bad) /\ GrowPost n L (fun v => v ∈ from_) s bad /\ Ev (fun k => d_grow.f k n L from_) (s.lo, s.ha, s.la, bad) := by
 obtain ⟨s, bad, h1, h2⟩ := grow_all hn0 hE hf
 refine ⟨s, bad, h1, h2, ?_⟩
 have h3 := grow_l1 hE hn hm n 0 (sg0 n from_) (fun _ => 0) s bad (by omega) (by simpa using sg0_bf hf) h1
 refine Ev.shift (from_.length + 1) (h := fun f => d_grow.l1 f L (sg0 n from_).lo (sg0 n from_).ha (sg0 n from_).la) (fun f => ?_) h3
 unfold d_grow.f d_plain_nodes.f s_Repeat_int_int.f
 simp only [Option.bind_some]
 rw [if_pos (by omega), if_pos (by omega), if_pos (by omega), if_pos (by omega), if_pos (by omega), if_pos (by omega)]
 simp only [Option.bind_some]
 have := grow_l0 (L := L) n (List.replicate n 0) (List.replicate n (-1)) from_.length 0 from_ (List.replicate n false) f (by omega) (by omega) hl (by simp) hf
 simp only [Int.toNat_natCast]
 exact this
end
end Go.Proofs.Ytpolojoeabmhdaa.A
/- solve, Check, asked: what they answer. -/
namespace Go.Proofs.Ytpolojoeabmhdaa.A
open Go.RowKit Go.Proofs.YtpolojoeabmhdaaW.PrintWords Go.Proofs.YtpolojoeabmhdaaW.PrintLast Go.Proofs.YtpolojoeabmhdaaW.PrintMore
def allL (n : Nat) : List Int := (List.range n).map fun (i : Nat) => (i : Int)
theorem mem_allL {n : Nat} {v : Int} : v ∈ allL n <-> 0 <= v /\ v < (n : Int) := by
 unfold allL
 rw [List.mem_map]
 constructor
 .rintro ⟨i, hi, rfl⟩
  have := List.mem_range.1 hi
  omega
 .intro h
  exact ⟨v.toNat, List.mem_range.2 (by omega), by omega⟩
theorem all_l0 (n : Nat) (hn : n <= 65536) : ∀ (q i f : Nat), q + i = n -> d_all.l0 (f + q + 1) (allL i) n i = some (allL n)
 | 0, i, f, hq => by
  rw [d_all.l0, if_neg (by omega), show i = n from by omega]
 | q + 1, i, f, hq => by
  rw [show f + (q + 1) + 1 = (f + q + 1) + 1 from by omega, d_all.l0, if_pos (by omega), if_pos (by unfold allL; simp; omega), wrap_id (by omega) (by omega)]
  have := all_l0 n hn q (i + 1) f (by omega)
  rw [show allL (i + 1) = allL i ++ [(i : Int)] from by unfold allL; rw [List.range_succ, List.map_append]; rfl] at this
  exact this
theorem all_ev (n : Nat) (hn : n <= 65536) (L : List S39) : Ev (fun k => d_all.f k n L) (allL n) :=
 Ev.shift (n + 1) (h := fun _ => some (allL n)) (fun f => by
  unfold d_all.f d_plain_nodes.f
  simp only [Option.bind_some]
  have := all_l0 n hn n 0 f (by omega)
  rw [show ((0 : Nat) : Int) = 0 from rfl] at this
  exact this) (Ev.now _)
theorem solve_l0 (lo : List Int) (ha : List Bool) (la : List Int) (hl : ∀ v, 0 <= v -> v < (lo.length : Int) -> -2305843009213693952 <= rd lo v /\ rd lo v <= 2305843009213693952) (hl2 : lo.length <= 65536) : ∀ (q : Nat) (i : Int) (x : List Int) (f : Nat), (q : Int) + i = lo.length -> 0 <= i -> x.length = lo.length -> (∀ v, 0 <= v -> v < (lo.length : Int) -> rd x v = if v < i then rd lo v - rd lo 0 else rd lo v) ->
  ∃ y, d_solve.l0 (f + q + 1) x lo.length i lo ha la = some (y, lo, ha, la, -1) /\ y.length = lo.length /\ ∀ v, 0 <= v -> v < (lo.length : Int) -> rd y v = rd lo v - rd lo 0
 | 0, i, x, f, hq, hi, hx, hv => by
  refine ⟨x, ?_, hx, fun v h0 h1 => by rw [hv v h0 h1, if_pos (by omega)]⟩
  rw [d_solve.l0, if_neg (by omega)]
 | q + 1, i, x, f, hq, hi, hx, hv => by
  have hlt : i < (lo.length : Int) := by omega
  have b0 := hl 0 (by omega) (by omega)
  have b1 := hl i hi hlt
  have e : rd x i = rd lo i := by rw [hv i hi hlt, if_neg (by omega)]
  rw [show f + (q + 1) + 1 = (f + q + 1) + 1 from by omega, d_solve.l0, if_pos hlt, if_pos hi, if_pos (by rw [hx]; exact hlt), if_pos (by omega), e, wrap_id (by omega) (by omega), wrap_id (by omega) (by omega)]
  refine solve_l0 lo ha la hl hl2 q (i + 1) _ f (by omega) (by omega) (by rw [List.length_set]; exact hx) (fun v h0 h1 => ?_)
  rw [rd_set _ _ _ _ hi (by omega) h0]
  by_cases ev : v = i
  .rw [if_pos ev, if_pos (by omega), ev]
  .rw [if_neg ev, hv v h0 h1]
   by_cases h2 : v < i
   .rw [if_pos h2, if_pos (by omega)]
   .rw [if_neg h2, if_neg (by omega)]
section
variable {n : Nat} {L : List S39}
theorem solve_ev (hn0 : 0 < n) (hn : n <= 65536) (hE : EdgesOk n L) (hm : (n : Int) * L.length <= 1048576) :
  ∃ x s bad, growP L n n (sg0 n (allL n)) = some (s, bad) /\ GrowPost n L (fun v => v ∈ allL n) s bad /\ Ev (fun k => d_solve.f k n L) (x, s.lo, s.ha, s.la, bad) /\ (bad = -1 -> (x.length = n /\ ∀ v, 0 <= v -> v < (n : Int) -> rd x v = rd s.lo v - rd s.lo 0)) /\ (0 <= bad -> x = []) := by
 obtain ⟨s, bad, h1, h2, h3⟩ := grow_ev hn0 hn hE (by omega) (from_ := allL n) (by unfold allL; simp; omega) (fun i hi => mem_allL.1 hi)
 obtain ⟨b, T, hb, hb2, hB⟩ := h2.bf
 have hl1 := hB.l1
 have hbd : ∀ v, 0 <= v -> v < (s.lo.length : Int) -> -2305843009213693952 <= rd s.lo v /\ rd s.lo v <= 2305843009213693952 := fun v h0 h1 => by
  have := h2.bounds h0 (by omega); omega
 rcases h2.res with ⟨e, _⟩ | ⟨e, _⟩
 .subst e
  obtain ⟨y, hy1, hy2, hy3⟩ : ∃ y, (∀ f, d_solve.l0 (f + n + 1) s.lo s.lo.length 0 s.lo s.ha s.la = some (y, s.lo, s.ha, s.la, -1)) /\ y.length = s.lo.length /\ ∀ v, 0 <= v -> v < (s.lo.length : Int) -> rd y v = rd s.lo v - rd s.lo 0 := by
   obtain ⟨y, a, b, c⟩ := solve_l0 s.lo s.ha s.la hbd (by omega) n 0 s.lo 0 (by omega) (by omega) rfl (fun v h0 h1 => by rw [if_neg (by omega)])
   refine ⟨y, fun f => ?_, b, c⟩
   obtain ⟨y', a', b', c'⟩ := solve_l0 s.lo s.ha s.la hbd (by omega) n 0 s.lo f (by omega) (by omega) rfl (fun v h0 h1 => by rw [if_neg (by omega)])
   rw [a']
   have e2 : y' = y := List.ext_getElem (by omega) (fun i h1 h2 => by
    have p := c' i (by omega) (by omega)
    have q := c i (by omega) (by omega)
    unfold rd at p q
    rw [List.getD_eq_getElem?_getD, Int.toNat_natCast, List.getElem?_eq_getElem (by omega)] at p q
    simp only [Option.getD_some] at p q
    rw [p, q])
   rw [e2]
  refine ⟨y, s, -1, h1, h2, ?_, fun _ => ⟨by omega, fun v h0 h1 => hy3 v h0 (by omega)⟩, fun h => by omega⟩
  unfold d_solve.f
  refine (all_ev n hn L).bind (h3.bind ?_)
  simp only [ge_iff_le, if_neg (show ¬ (0 : Int) <= -1 from by omega)]
  unfold s_Clone_int_int.f
  rw [if_pos (by omega)]
  simp only [Option.bind_some]
  exact Ev.shift (n + 1) (h := fun _ => some _) hy1 (Ev.now _)
 .refine ⟨[], s, bad, h1, h2, ?_, fun h => by omega, fun _ => rfl⟩
  unfold d_solve.f
  refine (all_ev n hn L).bind (h3.bind ?_)
  simp only [ge_iff_le, if_pos e]
  exact Ev.now _
end
def edgeB (n : Int) (d : S39) : Bool := decide (0 <= d.f0) && decide (d.f0 < n) && decide (0 <= d.f1) && decide (d.f1 < n) && decide (-1073741824 <= d.f2) && decide (d.f2 <= 1073741824)
theorem edgeB_iff {n : Int} {d : S39} : edgeB n d = true <-> EdgeOk n d := by
 simp only [edgeB, Bool.and_eq_true, decide_eq_true_eq]
 exact ⟨fun h => ⟨h.1.1.1.1.1, h.1.1.1.1.2, h.1.1.1.2, h.1.1.2, h.1.2, h.2⟩, fun h => ⟨⟨⟨⟨⟨h.a, h.b⟩, h.c⟩, h.g⟩, h.e⟩, h.f⟩⟩
def validB (n : Int) (L : List S39) : Bool := decide (1 <= n) && decide (n <= 256) && decide (L.length <= 4096) && L.all (edgeB n)
structure Valid (n : Int) (L : List S39) : Prop where
 n1 : 1 <= n
 n2 : n <= 256
 l : L.length <= 4096
 e : EdgesOk n L
theorem all_edges {n : Int} {L : List S39} : L.all (edgeB n) = true <-> EdgesOk n L := by
 rw [List.all_eq_true]
 constructor
 .intro h k h0 h1
  refine edgeB_iff.1 (h _ ?_)
  unfold rT39
  rw [List.getD_eq_getElem?_getD, List.getElem?_eq_getElem (by omega)]; exact List.getElem_mem _
 .intro h d hd
  obtain ⟨i, hi, rfl⟩ := List.getElem_of_mem hd
  have := h i (by omega) (by omega)
  unfold rT39 at this
  rw [List.getD_eq_getElem?_getD, Int.toNat_natCast, List.getElem?_eq_getElem (by omega)] at this
  exact edgeB_iff.2 this
theorem validB_iff {n : Int} {L : List S39} : validB n L = true <-> Valid n L := by
 simp only [validB, Bool.and_eq_true, decide_eq_true_eq, all_edges]
 exact ⟨fun h => ⟨h.1.1.1, h.1.1.2, h.1.2, h.2⟩, fun h => ⟨⟨⟨h.n1, h.n2⟩, h.l⟩, h.e⟩⟩
theorem in_some (a lo hi : Int) : d_in.f a lo hi = some (decide (lo <= a) && decide (a <= hi)) := by
 unfold d_in.f
 by_cases h : a >= lo
 .rw [if_pos h]; simp [show lo <= a from h]
 .rw [if_neg h]; simp [show ¬ lo <= a from h]
theorem right_some (d : S39) (n : Int) (h1 : 1 <= n) (h2 : n <= 256) : d_right.f d.f0 d.f1 d.f2 n = some (edgeB n d) := by
 unfold d_right.f
 rw [wrap_id (by omega) (by omega)]
 simp only [in_some, Option.bind_some]
 have ea : decide (d.f0 <= n - 1) = decide (d.f0 < n) := by congr 1; exact propext (by omega)
 have eb : decide (d.f1 <= n - 1) = decide (d.f1 < n) := by congr 1; exact propext (by omega)
 rw [ea, eb]
 unfold edgeB
 by_cases c1 : (decide (0 <= d.f0) && decide (d.f0 < n)) = true
 .rw [if_pos c1, c1]
  by_cases c2 : (decide (0 <= d.f1) && decide (d.f1 < n)) = true
  .rw [if_pos c2]
   simp only [Bool.true_and, c2]
  .rw [if_neg c2]
   rw [Bool.not_eq_true] at c2
   simp only [Bool.true_and, c2, Bool.false_and]
 .rw [if_neg c1]
  rw [Bool.not_eq_true] at c1
  simp only [c1, Bool.false_and]
theorem check_l0 (n : Int) (L : List S39) (h1 : 1 <= n) (h2 : n <= 256) (hl : L.length <= 4096) (M : List S39) : ∀ (q : Nat) (i : Int) (f : Nat), (q : Int) + i = L.length -> 0 <= i ->
  d_Check.l0 (f + q + 1) L L.length i n M = some (if (L.drop i.toNat).all (edgeB n) = true then 0 else 40)
 | 0, i, f, hq, hi => by
  rw [d_Check.l0, if_neg (by omega), List.drop_eq_nil_of_le (by omega)]
  rfl
 | q + 1, i, f, hq, hi => by
  have hlt : i < (L.length : Int) := by omega
  rw [show f + (q + 1) + 1 = (f + q + 1) + 1 from by omega, d_Check.l0, if_pos hlt, if_pos hi, if_pos hlt, right_some _ n h1 h2, rT39_drop L i hi hlt]
  simp only [Option.bind_some]
  by_cases c : edgeB n (rT39 L i) = true
  .have e : (rT39 L i :: L.drop (i + 1).toNat).all (edgeB n) = (L.drop (i + 1).toNat).all (edgeB n) := by rw [List.all_cons, c, Bool.true_and]
   rw [if_pos c, e, wrap_id (by omega) (by omega)]
   exact check_l0 n L h1 h2 hl M q (i + 1) f (by omega) (by omega)
  .have e : (rT39 L i :: L.drop (i + 1).toNat).all (edgeB n) = false := by
    rw [Bool.not_eq_true] at c
    rw [List.all_cons, c, Bool.false_and]
   rw [if_neg c, e]
   rfl
theorem check_ev (n : Int) (L : List S39) : Ev (fun k => d_Check.f k n L) (if validB n L = true then 0 else 40) := by
 unfold d_Check.f
 simp only [in_some, Option.bind_some]
 by_cases h : 1 <= n /\ n <= 256
 .refine Ev.pos (by simp [h]) ?_
  refine Ev.step (f := fun k => if (decide ((L.length : Int) > 4096)) = true then some 40 else d_Check.l0 k L L.length 0 n L) (fun k => by rw [d_Check.j0]) ?_
  by_cases hl : L.length <= 4096
  .refine Ev.neg (by simp; omega) ?_
   have e : validB n L = L.all (edgeB n) := by
    unfold validB; simp [h, hl]
   rw [e]
   refine Ev.shift (L.length + 1) (h := fun _ => some _) (fun f => ?_) (Ev.now _)
   have := check_l0 n L h.1 h.2 hl L L.length 0 f (by omega) (by omega)
   rw [show (0 : Int).toNat = 0 from rfl, List.drop_zero] at this
   exact this
  .have e : validB n L = false := by unfold validB; simp [hl]
   rw [e]
   exact Ev.pos (by simp; omega) (Ev.now _)
 .have e : validB n L = false := by
   cases hv : validB n L with
   | false => rfl
   | true => have := validB_iff.1 hv; exact absurd ⟨this.n1, this.n2⟩ h
  rw [e]
  refine Ev.neg (by simp only [Bool.and_eq_true, decide_eq_true_eq]; exact h) ?_
  exact Ev.step (f := fun k => some 40) (fun k => by rw [d_Check.j0]; rfl) (Ev.now _)
theorem index_l0 (bs : List Bool) (hb : bs.length <= 65536) : ∀ (q : Nat) (i : Int) (f : Nat), (q : Int) + i = bs.length -> 0 <= i ->
  ∃ r, s_Index_bool_bool.l0 (f + q + 1) bs false bs.length i = some r /\ (0 <= r <-> false ∈ bs.drop i.toNat)
 | 0, i, f, hq, hi => by
  refine ⟨-1, ?_, ?_⟩
  .rw [s_Index_bool_bool.l0, if_neg (by omega)]
  .rw [List.drop_eq_nil_of_le (by omega)]; simp
 | q + 1, i, f, hq, hi => by
  have hlt : i < (bs.length : Int) := by omega
  have ed : bs.drop i.toNat = rdOf false bs i :: bs.drop (i + 1).toNat := by
   rw [show (i + 1).toNat = i.toNat + 1 from by omega, List.drop_eq_getElem_cons (by omega)]
   congr 1
   unfold rdOf
   rw [List.getD_eq_getElem?_getD, List.getElem?_eq_getElem (by omega)]; rfl
  rw [show f + (q + 1) + 1 = (f + q + 1) + 1 from by omega, s_Index_bool_bool.l0, if_pos hlt, if_pos hi, if_pos hlt, ed]
  by_cases c : (false == rdOf false bs i) = true
  .rw [if_pos c]
   refine ⟨i, rfl, ?_⟩
   have : rdOf false bs i = false := by simpa using c
   rw [this]; simp [hi]
  .rw [if_neg c, wrap_id (by omega) (by omega)]
   obtain ⟨r, a, b⟩ := index_l0 bs hb q (i + 1) f (by omega) (by omega)
   refine ⟨r, a, b.trans ?_⟩
   have : rdOf false bs i = true := by simpa using c
   rw [this]; simp
theorem contains_ev (bs : List Bool) (hb : bs.length <= 65536) : Ev (fun k => s_Contains_bool_bool.f k bs false) (bs.contains false) := by
 refine Ev.shift (bs.length + 1) (h := fun _ => some (bs.contains false)) (fun f => ?_) (Ev.now _)
 obtain ⟨r, a, b⟩ := index_l0 bs hb bs.length 0 f (by omega) (by omega)
 unfold s_Contains_bool_bool.f s_Index_bool_bool.f
 rw [show f + (bs.length + 1) = f + bs.length + 1 from rfl, a]
 simp only [Option.bind_some]
 rw [show (0 : Int).toNat = 0 from rfl, List.drop_zero] at b
 congr 1
 rw [Bool.eq_iff_iff, decide_eq_true_eq, List.contains_iff_mem]
 exact b
theorem asked_ev (n : Int) (L : List S39) (bs : List Bool) (hb : bs.length <= 65536) : Ev (fun k => d_asked.f k n L bs) (if validB n L = true then (if bs.contains false = true then 1 else 0) else 40) := by
 unfold d_asked.f
 refine (check_ev n L).bind ?_
 by_cases hv : validB n L = true
 .rw [if_pos hv, if_pos hv]
  refine Ev.pos rfl ((contains_ev bs hb).bind ?_)
  by_cases hc : bs.contains false = true
  .refine Ev.pos hc ?_; rw [if_pos hc]; exact Ev.now _
  .refine Ev.neg hc ?_; rw [if_neg hc]; exact Ev.now _
 .rw [if_neg hv, if_neg hv]
  exact Ev.neg (by decide) (Ev.now _)
end Go.Proofs.Ytpolojoeabmhdaa.A
/- reach and Apart: what they answer. -/
namespace Go.Proofs.Ytpolojoeabmhdaa.A
open Go.RowKit Go.Proofs.YtpolojoeabmhdaaW.PrintWords Go.Proofs.YtpolojoeabmhdaaW.PrintLast Go.Proofs.YtpolojoeabmhdaaW.PrintMore
def Solv (L : List S39) : Prop := ∃ x, Pot L x
section
variable {n : Nat} {L : List S39}
structure Short (L : List S39) (i j : Int) (a : Int) (b : Bool) : Prop where
 yes : b = true -> (∃ l, Wk L i l j a) /\ ∀ l W, Wk L i l j W -> a <= W
 no : b = false -> a = 0 /\ ∀ l W, ¬ Wk L i l j W
theorem Short.unique {i j a b a' b'} (h : Short L i j a b) (h' : Short L i j a' b') : a = a' /\ b = b' := by
 cases b with
 | true =>
  obtain ⟨⟨l, hl⟩, hm⟩ := h.yes rfl
  cases b' with
  | true =>
   obtain ⟨⟨l', hl'⟩, hm'⟩ := h'.yes rfl
   have := hm _ _ hl'
   have := hm' _ _ hl
   exact ⟨by omega, rfl⟩
  | false => exact absurd hl ((h'.no rfl).2 _ _)
 | false =>
  cases b' with
  | true =>
   obtain ⟨⟨l', hl'⟩, hm'⟩ := h'.yes rfl
   exact absurd hl' ((h.no rfl).2 _ _)
  | false => exact ⟨by rw [(h.no rfl).1, (h'.no rfl).1], rfl⟩
theorem tree_short (hE : EdgesOk n L) {i : Int} (h0 : 0 <= i) (h1 : i < n) {s : Sg} (h : GrowPost n L (fun v => v ∈ [i]) s (-1)) (hf : Fix L s) {j : Int} (j0 : 0 <= j) (j1 : j < n) : Short L i j (rd s.lo j) (rdOf false s.ha j) := by
 obtain ⟨b, T, hb, hb2, hB⟩ := h.bf
 have hsrc : hasN s i /\ rd s.lo i = 0 := by
  have ht := (hB.t0 i h0 h1).1
  by_cases e : T i = 0
  .have := hB.z i h0 h1 e
   exact ⟨this.2.2.2 (by simp), this.2.1⟩
  .have hv := (hB.p i h0 h1 (by omega)).2.2.1
   obtain ⟨c, hc⟩ := h.tree hE hf h0 h1 hv
   have hr := hc.src
   simp only [List.mem_cons, List.not_mem_nil, or_false] at hr
   cases c with
   | zero =>
    exact ⟨hv, hc.zero⟩
   | succ c =>
    exact absurd hr.symm (hc.apart 0 (c + 1) (by omega) (by omega))
 refine ⟨fun hv => ?_, fun hv => ?_⟩
 .obtain ⟨c, hc⟩ := h.tree hE hf j0 j1 hv
  have hr := hc.src
  simp only [List.mem_cons, List.not_mem_nil, or_false] at hr
  refine ⟨⟨_, by have := hc.walk; rw [hr] at this; exact this⟩, fun l W hw => ?_⟩
  have := (hf.walk hsrc.1 hw).2
  omega
 .refine ⟨?_, fun l W hw => ?_⟩
  .have ht := (hB.t0 j j0 j1).1
   by_cases e : T j = 0
   .exact (hB.z j j0 j1 e).2.1
   .have := (hB.p j j0 j1 (by omega)).2.2.1
    unfold hasN at this
    rw [hv] at this
    exact absurd this (by simp)
  .have := (hf.walk hsrc.1 hw).1
   unfold hasN at this
   rw [hv] at this
   exact absurd this (by simp)
structure ApartIs (n : Int) (L : List S39) (i j a : Int) (b : Bool) (e : Int) : Prop where
 arg : ¬ (0 <= i /\ i < n /\ 0 <= j /\ j < n) -> a = 0 /\ b = false /\ e = 1
 clash : 0 <= i /\ i < n /\ 0 <= j /\ j < n -> ¬ Solv L -> a = 0 /\ b = false /\ e = 41
 ok : 0 <= i /\ i < n /\ 0 <= j /\ j < n -> Solv L -> e = 0 /\ Short L i j a b
 small : -1125899906842624 <= a /\ a <= 1125899906842624
theorem ApartIs.unique {n : Int} {i j a : Int} {b : Bool} {e : Int} {a' : Int} {b' : Bool} {e' : Int} (h : ApartIs n L i j a b e) (h' : ApartIs n L i j a' b' e') : a = a' /\ b = b' /\ e = e' := by
 by_cases hn : 0 <= i /\ i < n /\ 0 <= j /\ j < n
 .by_cases hs : Solv L
  .have := h.ok hn hs
   have := h'.ok hn hs
   have := (h.ok hn hs).2.unique (h'.ok hn hs).2
   exact ⟨this.1, this.2, by omega⟩
  .obtain ⟨rfl, rfl, rfl⟩ := h.clash hn hs
   obtain ⟨rfl, rfl, rfl⟩ := h'.clash hn hs
   exact ⟨rfl, rfl, rfl⟩
 .obtain ⟨rfl, rfl, rfl⟩ := h.arg hn
  obtain ⟨rfl, rfl, rfl⟩ := h'.arg hn
  exact ⟨rfl, rfl, rfl⟩
end
end Go.Proofs.Ytpolojoeabmhdaa.A
/- What comes in, opened: a net, a list of numbers. -/
namespace Go.Proofs.Ytpolojoeabmhdaa.A
open Go.ChangeShapes Go.WideShapes Go.ChangeAt Go.RowKit Go.Deep Go.Joins
open Go.Proofs.YtpolojoeabmhdaaW.PrintWords Go.Proofs.YtpolojoeabmhdaaW.PrintLast Go.Proofs.YtpolojoeabmhdaaW.PrintMore
set_option maxRecDepth 100000
section
variable {H : Type} {enc : TypeId × Value -> H} {P : Program} {w : World} {base : Nat} {spare : Nat -> Bool} {held : Bool}
theorem open_slice_fields {t e : TypeId} {fs : Array Field} {fuel : Nat} {cs : List Value} {x : DataW H × List MemPlace} (ht : P.underlying t = some (.slice e)) (he : P.underlying e = some (.struct fs))
  (hone : oneCellFields P fs = true) (hC : P.cellsOf e = fs.size) (h : DataW.trod enc P w base spare held fuel t cs = some x) :
  (cs = [.slice none 0 0]) ∨
  ∃ (a : Addr) (len cap : Nat), cs = [.slice (some a) len cap] /\ len <= cap /\ cap <= maxLen /\ (∃ E S, x.1 = .slice E S /\ E.length = len) /\
   ∀ i, i < len -> ∀ (j : Nat) (f : Field), fs[j]? = some f -> ∃ (v : Value) (y : DataW H × List MemPlace) (n : Nat), w.cell? (a.add (i * fs.size + j)) = some v /\ DataW.trod enc P w base spare held n f.type [v] = some y := by
 rcases open_slice ht h with h0 | ⟨a, len, cap, m, n, D, Pl, hcs, hb, hl, hm, hmm, hx, hi⟩
 .exact .inl h0.1
 refine .inr ⟨a, len, cap, hcs, hl, hm, ⟨_, _, by rw [hx], by simp⟩, fun i him j f hj => ?_⟩; obtain ⟨cs', hc, ht'⟩ := hi i (by rw [hmm]; split <;> omega); rw [hC] at hc; obtain ⟨ys, n', hn', hy, hlen, hyl, hf⟩ := DataW.trod_struct he ht'; obtain ⟨_, hcl, hat⟩ := World.cells?_some hc; obtain ⟨ho, hk⟩ := hone_of hone j f hj; have hjl : j < fs.size := (Array.getElem?_eq_some_iff.1 hj).1; have hcell := hat j hjl; have hv : cs'[j]? = some (cs'[j]'(by omega)) := List.getElem?_eq_getElem (by omega); have h1 := hf j f hj; rw [ho, hk] at h1
 have hone' : (cs'.drop j).take 1 = [cs'[j]'(by omega)] := by
  rw [List.drop_eq_getElem_cons (by omega)]; rfl
 rw [hone'] at h1; have hys : ys[j]? = some (ys[j]'(by omega)) := List.getElem?_eq_getElem (by omega); refine ⟨_, _, _, ?_, h1.trans hys⟩; rw [<- Go.Deep.add_add, hcell, hv]
end
section
variable {H : Type} {enc : TypeId × Value -> H} {W : World} {base : Nat} {spare : Nat -> Bool} {held : Bool}
theorem open_diffs {fuel : Nat} {cs : List Value} {x : DataW H × List MemPlace} (h : DataW.trod enc Try.prog W base spare held fuel 22 cs = some x) : ∃ (A : Option Addr) (l : List S39) (c : Nat), cs = [.slice A l.length c] /\ Kd.C k39 W A l.length l /\ l.length <= c /\ (l = [] ∨ ∃ E S, x.1 = .slice E S /\ E.length = l.length) := by
 rcases open_slice_fields Try.underlying22 Try.underlying39 (by kernel_rfl) (by kernel_rfl) h with rfl | ⟨a, len, cap, rfl, hl, hm, hES, hf⟩
 .exact ⟨none, [], 0, rfl, Kd.C_nil _ _, nR_ _, .inl rfl⟩
 have key : ∀ i : Nat, ∃ d : S39, i < len -> ∀ j u, ([.int .i64 d.f0, .int .i64 d.f1, .int .i64 d.f2] : List Value)[j]? = some u -> W.cell? (a.add (i * 3 + j)) = some u := by
  intro i; by_cases hi : i < len
  .obtain ⟨v0, y0, n0, c0, t0⟩ := hf i hi 0 _ rfl
   obtain ⟨v1, y1, n1, c1, t1⟩ := hf i hi 1 _ rfl; obtain ⟨v2, y2, n2, c2, t2⟩ := hf i hi 2 _ rfl; obtain ⟨z0, e0, _, _⟩ := DataW.trod_int Try.underlying3 t0; obtain ⟨z1, e1, _, _⟩ := DataW.trod_int Try.underlying3 t1; obtain ⟨z2, e2, _, _⟩ := DataW.trod_int Try.underlying3 t2; simp only [List.cons.injEq, and_true] at e0 e1 e2; subst e0 e1 e2; refine ⟨⟨z0, z1, z2⟩, fun _ j u hu => ?_⟩
   match j, hu with
   | 0, hu => cases hu; exact c0
   | 1, hu => cases hu; exact c1
   | 2, hu => cases hu; exact c2
  exact ⟨z39, fun h => absurd h hi⟩
 obtain ⟨g, hg⟩ := Classical.axiomOfChoice key; refine ⟨some a, (List.range len).map g, cap, by simp, ⟨by simp, by simp only [List.length_map, List.length_range]; unfold maxLen at hm; omega, fun _ => ⟨a, rfl, fun j p hj => ?_⟩⟩, by simpa using hl, .inr (by simpa using hES)⟩; rw [List.getElem?_map] at hj; by_cases hjl : j < len
 .rw [List.getElem?_range hjl] at hj
  simp only [Option.map_some, oJ_] at hj; subst hj; exact ⟨_, rfl, k39_mk W _, fun i u hu => hg j hjl i u hu⟩
 rw [List.getElem?_eq_none (by simpa using hjl)] at hj; simp at hj
theorem open_net {r : Reach} {b0 : Nat} {v : Value} {d : DataW H} {p : List MemPlace} (hv : Value.okWide Try.prog W r b0 24 v) (h : DataW.Trod enc Try.prog W base spare held 24 v d p) :
  ∃ (n : Int) (A : Option Addr) (l : List S39) (c : Nat), v = .agg #[.int .i64 n, .slice A l.length c] /\ Kd.C k39 W A l.length l /\ l.length <= c /\ (Lit.int .i64 n).wf = true /\ (∀ (ts : List TypeId) (ds : List (DataW H)) (j : Nat), (DataW.weightsEach Try.prog ts ds).all (· <= reachBytes) = true -> ts[j]? = some 24 -> ds[j]? = some d -> l.length * 24 <= 140737488351232) := by
 obtain ⟨v0, v1, y0, y1, m, rfl, rfl, _, t0, t1⟩ := open_agg2 Try.underlying24 (by kernel_rfl) (by kernel_rfl) hv h; obtain ⟨z0, e0, _, wz⟩ := DataW.trod_int Try.underlying3 t0; obtain ⟨A, l, c, e1, hC, hc, hES⟩ := open_diffs t1; simp only [List.cons.injEq, and_true] at e0 e1; subst e0 e1; refine ⟨z0, A, l, c, rfl, hC, hc, wz, fun ts ds j hsz ht hd => ?_⟩; rcases hES with rfl | ⟨E, S, e, hl⟩
 .simp
 have hb : Try.prog.bytesOf 39 = 24 := by kernel_rfl
 have hin : (E.length + S.length) * Try.prog.bytesOf 39 ∈ DataW.weights Try.prog 22 y1.1 := by
  rw [e]; simp [DataW.weights, Try.underlying22]
 have hin2 : (E.length + S.length) * Try.prog.bytesOf 39 ∈ DataW.weights Try.prog 24 (.agg [y0.1, y1.1]) := by
  unfold DataW.weights; rw [Try.underlying24]; exact DataW.weights_mem_each (j := 1) rfl rfl _ hin
 have := List.all_eq_true.1 hsz _ (DataW.weights_mem_each ht hd _ hin2); have := dT_ this; rw [hb] at this; unfold reachBytes at this; omega
theorem open_list {r : Reach} {b0 : Nat} {v : Value} {d : DataW H} {p : List MemPlace} (hv : Value.okWide Try.prog W r b0 29 v) (h : DataW.Trod enc Try.prog W base spare held 29 v d p) :
  ∃ (A : Option Addr) (l : List Int) (c : Nat), v = .slice A l.length c /\ Kd.C (Kd.int .i64) W A l.length l /\ l.length <= c /\ ((∀ n ∈ l, (Lit.int .i64 n).wf = true) /\ (∀ (ts : List TypeId) (ds : List (DataW H)) (j : Nat), (DataW.weightsEach Try.prog ts ds).all (· <= reachBytes) = true -> ts[j]? = some 29 -> ds[j]? = some d -> l.length * 8 <= 140737488351232)) := by
 obtain ⟨A0, len0, cap0, rfl⟩ := okWide_slice Try.underlying29 hv; obtain ⟨m, hm⟩ := h; rcases open_ints (k := .i64) Try.underlying29 Try.underlying3 (by kernel_rfl) hm with ⟨e, _⟩ | ⟨a, len, cap, zs, e, _, hl, hmx, hz, hd, hc, hwf⟩
 .have e : [Value.slice A0 len0 cap0] = [.slice none 0 0] := e
  simp only [List.cons.injEq, and_true] at e; rw [e]; exact ⟨none, [], 0, rfl, Kd.C_nil _ _, nR_ _, fun n hn => by simp at hn, fun _ _ _ _ _ _ => by simp⟩
 have e : [Value.slice A0 len0 cap0] = [.slice (some a) len cap] := e; simp only [List.cons.injEq, and_true] at e; rw [e]; have hlen : len <= zs.length := by rw [hz]; split <;> omega
 have ht : (zs.take len).length = len := by rw [lT_]; omega
 refine ⟨some a, zs.take len, cap, by rw [ht], ⟨by simp, by rw [ht]; unfold maxLen at hmx; omega, fun _ => ⟨a, rfl, fun j x hj => ?_⟩⟩, by rw [ht]; omega, fun n hn => hwf n (List.mem_of_mem_take hn), fun ts ds j hsz ht' hd' => ?_⟩
 .have hjl : j < len := by have := (List.getElem?_eq_some_iff.1 hj).1; omega
  rw [List.getElem?_take, if_pos hjl] at hj; have h1 := hc j (by omega); rw [List.getD_eq_getElem?_getD, hj] at h1; rw [Option.getD_some] at h1; refine ⟨[.int .i64 x], rfl, rfl, fun i u hu => ?_⟩
  match i, hu with
  | 0, hu => cases hu; rw [show j * (Kd.int .i64).sz + 0 = j from Nat.mul_one j]; exact h1
 have hb : Try.prog.bytesOf 3 = 8 := by kernel_rfl
 have hd1 : d = .slice (lits .i64 (zs.take len)) (lits .i64 (zs.drop len)) := (Prod.mk.inj hd).1
 have hin : ((lits (H := H) .i64 (zs.take len)).length + (lits (H := H) .i64 (zs.drop len)).length) * Try.prog.bytesOf 3 ∈ DataW.weights Try.prog 29 d := by
  rw [hd1]; simp [DataW.weights, Try.underlying29]
 have := List.all_eq_true.1 hsz _ (DataW.weights_mem_each ht' hd' _ hin); have := dT_ this; rw [hb] at this; unfold reachBytes lits at this; simp only [List.length_map] at this; omega
end
end Go.Proofs.Ytpolojoeabmhdaa.A
