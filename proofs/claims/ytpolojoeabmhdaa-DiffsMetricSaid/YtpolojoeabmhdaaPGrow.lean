/- grow and solve answer as the plain passes do. -/
import Derived.Test.YtpolojoeabmhdaaPBf
import Derived.Test.YtpolojoeabmhdaaHSolve
import Derived.Test.YtpolojoeabmhdaaAf113
namespace Go.Proofs.Ytpolojoeabmhdaa.A
open Go.RowKit Go.Proofs.YtpolojoeabmhdaaW.PrintWords Go.Proofs.YtpolojoeabmhdaaW.PrintLast Go.Proofs.YtpolojoeabmhdaaW.PrintMore
set_option linter.unusedVariables false
set_option linter.unusedSimpArgs false
theorem wrap_id {x : Int} (h0 : -9223372036854775808 ≤ x) (h1 : x < 9223372036854775808) : wrap64 x = x := by
  unfold wrap64
  omega
theorem Ev.shift {α : Type} {g h : Nat → Option α} {r : α} (a : Nat) (hg : ∀ f, g (f + a) = h f) (hh : Ev h r) : Ev g r := by
  obtain ⟨K, hK⟩ := hh
  refine ⟨K + a, fun k hk => ?_⟩
  obtain ⟨f, rfl⟩ : ∃ f, k = f + a := ⟨k - a, by omega⟩
  rw [hg]
  exact hK f (by omega)
theorem Ev.congr' {α : Type} {g h : Nat → Option α} {r : α} (K0 : Nat) (hg : ∀ k, K0 ≤ k → g k = h k) (hh : Ev h r) : Ev g r := by
  obtain ⟨K, hK⟩ := hh
  exact ⟨max K K0, fun k hk => (hg k (by omega)).trans (hK k (by omega))⟩
theorem Ev.pos {α : Type} {c : Prop} [inst : Decidable c] {f g : Nat → Option α} {r : α} (h : c) (k : Ev f r) : Ev (fun n => if c then f n else g n) r :=
  Ev.congr (fun n => if_pos h) k
theorem Ev.neg {α : Type} {c : Prop} [inst : Decidable c] {f g : Nat → Option α} {r : α} (h : ¬ c) (k : Ev g r) : Ev (fun n => if c then f n else g n) r :=
  Ev.congr (fun n => if_neg h) k
section
variable {n : Nat} {L : List S39} {src : Int → Prop}
theorem grow_l2 (hE : EdgesOk n L) {b : Int} (hb : 0 ≤ b) (hbm : b + L.length ≤ 4294967296) : ∀ (q : Nat) (k c : Int) (s : Sg) (T : Int → Int) (f : Nat), (q : Int) + k = L.length → 0 ≤ k → Bf n L src b k s T →
    diffs_grow.l2 (f + 2 * q) L c L L.length k s.lo s.ha s.la = diffs_grow.l2 f L (pass (L.drop k.toNat) k c s).1 L L.length L.length (pass (L.drop k.toNat) k c s).2.lo (pass (L.drop k.toNat) k c s).2.ha (pass (L.drop k.toNat) k c s).2.la
  | 0, k, c, s, T, f, hq, h0, h => by
    have hk : k = L.length := by omega
    rw [List.drop_eq_nil_of_le (by omega), hk]
    rfl
  | q + 1, k, c, s, T, f, hq, h0, h => by
    have hk : k < (L.length : Int) := by omega
    have hd := hE k h0 hk
    have l1 := h.l1
    have l2 := h.l2
    have l3 := h.l3
    rw [rd_T39_drop L k h0 hk, show f + 2 * (q + 1) = (f + 2 * q) + 1 + 1 from by omega]
    have hw := h.w _ hd.a hd.b
    have he := hd.e
    have hf := hd.f
    have hwr : wrap64 (rd s.lo (rd_T39 L k).f0 + (rd_T39 L k).f2) = rd s.lo (rd_T39 L k).f0 + (rd_T39 L k).f2 := wrap_id (by omega) (by omega)
    have hk1 : wrap64 (k + 1) = k + 1 := wrap_id (by omega) (by omega)
    unfold pass
    simp only [diffs_grow.l2]
    rw [if_pos hk, if_pos h0, if_pos hk, if_pos hd.a, if_pos (show (rd_T39 L k).f0 < (s.ha.length : Int) from by rw [l2]; exact hd.b)]
    have hnext : ∀ y, diffs_grow.j3 (f + 2 * q + 1) L c k L L.length k y s.lo s.ha s.la (rd_T39 L k).f0 (rd_T39 L k).f1 (rd_T39 L k).f2 = if y = true then diffs_grow.l2 (f + 2 * q) L (rd_T39 L k).f1 L L.length (k + 1) (s.put (rd_T39 L k) k).lo (s.put (rd_T39 L k) k).ha (s.put (rd_T39 L k) k).la else diffs_grow.l2 (f + 2 * q) L c L L.length (k + 1) s.lo s.ha s.la := by
      intro y
      simp only [diffs_grow.j3]
      rw [if_pos hd.a, if_pos (show (rd_T39 L k).f0 < (s.lo.length : Int) from by rw [l1]; exact hd.b), if_pos hd.c, if_pos (show (rd_T39 L k).f1 < (s.lo.length : Int) from by rw [l1]; exact hd.g), if_pos (show (rd_T39 L k).f1 < (s.ha.length : Int) from by rw [l2]; exact hd.g), if_pos (show (rd_T39 L k).f1 < (s.la.length : Int) from by rw [l3]; exact hd.g), hk1, hwr]
      rfl
    by_cases hu : rdOf false s.ha (rd_T39 L k).f0 = true
    · rw [if_pos hu, if_pos hd.c, if_pos (show (rd_T39 L k).f1 < (s.ha.length : Int) from by rw [l2]; exact hd.g)]
      by_cases hv : rdOf false s.ha (rd_T39 L k).f1 = true
      · rw [if_pos hv, if_pos (show (rd_T39 L k).f0 < (s.lo.length : Int) from by rw [l1]; exact hd.b), if_pos (show (rd_T39 L k).f1 < (s.lo.length : Int) from by rw [l1]; exact hd.g), hnext, hwr]
        by_cases hy : rd s.lo (rd_T39 L k).f0 + (rd_T39 L k).f2 < rd s.lo (rd_T39 L k).f1
        · have hbt : s.better (rd_T39 L k) = true := by rw [better_iff]; exact ⟨hu, Or.inr hy⟩
          rw [if_pos (decide_eq_true hy), if_pos hbt]
          exact grow_l2 hE hb hbm q (k + 1) _ _ _ f (by omega) (by omega) (h.step hE h0 hk hb hbt)
        · have hbt : ¬ s.better (rd_T39 L k) = true := by
            rw [better_iff]; rintro ⟨_, h2 | h2⟩
            · exact h2 hv
            · exact hy h2
          rw [if_neg (by simpa using hy), if_neg hbt]
          exact grow_l2 hE hb hbm q (k + 1) c s T f (by omega) (by omega) (h.skip hE h0 hk hb hbt)
      · have hbt : s.better (rd_T39 L k) = true := by rw [better_iff]; exact ⟨hu, Or.inl hv⟩
        rw [if_neg hv, hnext, if_pos rfl, if_pos hbt]
        exact grow_l2 hE hb hbm q (k + 1) _ _ _ f (by omega) (by omega) (h.step hE h0 hk hb hbt)
    · have hbt : ¬ s.better (rd_T39 L k) = true := by
        rw [better_iff]; rintro ⟨h2, _⟩
        exact hu h2
      rw [if_neg hu, hnext, if_neg (by simp), if_neg hbt]
      exact grow_l2 hE hb hbm q (k + 1) c s T f (by omega) (by omega) (h.skip hE h0 hk hb hbt)
theorem looped_l0 (hE : EdgesOk n L) (hn : n ≤ 65536) {b k : Int} {s : Sg} {T : Int → Int} (h : Bf n L src b k s T) : ∀ (j : Nat) (i v : Int) (f : Nat), (j : Int) + i = n → 0 ≤ i → 0 ≤ v → v < n →
    diffs_tree_looped.l0 (f + j + 1) L v n i s.lo s.ha s.la = some (loopedL L s.la j v)
  | 0, i, v, f, hj, hi, h0, h1 => by
    simp only [diffs_tree_looped.l0]
    rw [if_neg (by omega)]
    rfl
  | j + 1, i, v, f, hj, hi, h0, h1 => by
    rw [show f + (j + 1) + 1 = (f + j + 1) + 1 from by omega]
    have l3 := h.l3
    simp only [diffs_tree_looped.l0]
    rw [if_pos (by omega), if_pos h0, if_pos (by omega)]
    unfold loopedL
    by_cases hl : rd s.la v < 0
    · rw [if_pos hl, if_pos hl]
    · have hp := h.p v h0 h1 (h.la_pos h0 h1 (by omega))
      have hb := h.bk_node hE h0 h1 (by omega)
      rw [if_neg hl, if_neg hl, if_pos (by omega), if_pos hp.2.1, wrap_id (by omega) (by omega)]
      exact looped_l0 hE hn h j (i + 1) _ f (by omega) (by omega) hb.1 hb.2
theorem grow_l1 (hE : EdgesOk n L) (hn : n ≤ 65536) (hm : (n : Int) * L.length ≤ 4294967296) : ∀ (r q : Nat) (s : Sg) (T : Int → Int) (s' : Sg) (bad : Int), q + r = n → Bf n L src ((q : Int) * L.length) 0 s T → growP L n r s = some (s', bad) →
    Ev (fun k => diffs_grow.l1 k L s.lo s.ha s.la) (s'.lo, s'.ha, s'.la, bad)
  | 0, q, s, T, s', bad, hq, h, hg => by simp [growP] at hg
  | r + 1, q, s, T, s', bad, hq, h, hg => by
    have hpos : (0 : Int) ≤ (q : Int) * L.length := Int.mul_nonneg (by omega) (by omega)
    have hb1 : ((q : Int) + 1) * L.length = (q : Int) * L.length + L.length := by rw [Int.add_mul, Int.one_mul]
    have hb2 : (q : Int) * L.length + L.length ≤ (n : Int) * L.length := by
      rw [← hb1]; exact Int.mul_le_mul_of_nonneg_right (by omega) (by omega)
    obtain ⟨T', h', hc⟩ := pass_bf hE hpos L.length 0 (-1) s T (by omega) (by omega) h (Or.inl rfl)
    have e2 := fun f => grow_l2 hE hpos (by omega) L.length 0 (-1) s T f (by omega) (by omega) h
    simp only [show (0 : Int).toNat = 0 from rfl, List.drop_zero] at h' hc e2
    refine Ev.shift (2 * L.length + 2) (h := fun f => if (pass L 0 (-1) s).1 < 0 then some ((pass L 0 (-1) s).2.lo, (pass L 0 (-1) s).2.ha, (pass L 0 (-1) s).2.la, (-1)) else ((diffs_tree_looped.f f (pass L 0 (-1) s).2.lo (pass L 0 (-1) s).2.ha (pass L 0 (-1) s).2.la L (pass L 0 (-1) s).1).bind fun t => if t ≥ 0 then some ((pass L 0 (-1) s).2.lo, (pass L 0 (-1) s).2.ha, (pass L 0 (-1) s).2.la, t) else diffs_grow.l1 f L (pass L 0 (-1) s).2.lo (pass L 0 (-1) s).2.ha (pass L 0 (-1) s).2.la)) (fun f => ?_) ?_
    · rw [show f + (2 * L.length + 2) = ((f + 1) + 2 * L.length) + 1 from by omega]
      simp only [diffs_grow.l1]
      rw [e2 (f + 1)]
      simp only [diffs_grow.l2]
      rw [if_neg (by omega)]
    · unfold growP at hg
      rcases hc with ⟨c1, c2, c3, c4⟩ | hc
      · have hneg : (pass L 0 (-1) s).1 < 0 := by omega
        rw [if_pos hneg] at hg
        simp only [if_pos hneg]
        simp only [Option.some.injEq, Prod.mk.injEq] at hg
        obtain ⟨rfl, rfl⟩ := hg
        exact Ev.now _
      · have hneg : ¬ (pass L 0 (-1) s).1 < 0 := by have := hc.1; omega
        rw [if_neg hneg] at hg
        simp only [if_neg hneg]
        have hl : Ev (fun f => diffs_tree_looped.f f (pass L 0 (-1) s).2.lo (pass L 0 (-1) s).2.ha (pass L 0 (-1) s).2.la L (pass L 0 (-1) s).1) (loopedL L (pass L 0 (-1) s).2.la n (pass L 0 (-1) s).1) := ⟨n + 1, fun k hk => by
          obtain ⟨f, rfl⟩ : ∃ f, k = f + n + 1 := ⟨k - (n + 1), by omega⟩
          have := looped_l0 hE hn h' n 0 _ f (by omega) (by omega) hc.1 hc.2.1
          unfold diffs_tree_looped.f
          rw [h'.l3]
          exact this⟩
        refine hl.bind ?_
        by_cases hlo : loopedL L (pass L 0 (-1) s).2.la n (pass L 0 (-1) s).1 ≥ 0
        · rw [if_pos hlo] at hg
          simp only [if_pos hlo]
          simp only [Option.some.injEq, Prod.mk.injEq] at hg
          obtain ⟨rfl, rfl⟩ := hg
          exact Ev.now _
        · rw [if_neg hlo] at hg
          simp only [if_neg hlo]
          have h'' := h'.next
          rw [← hb1] at h''
          exact grow_l1 hE hn hm r (q + 1) _ T' s' bad (by omega) (by push_cast; exact h'') hg
theorem grow_l0 {L : List S39} (n : Nat) (lo la : List Int) : ∀ (q : Nat) (i : Int) (from_ : List Int) (ha : List Bool) (f : Nat), (q : Int) + i = from_.length → 0 ≤ i → from_.length ≤ 4294967296 → ha.length = n → (∀ x ∈ from_, 0 ≤ x ∧ x < (n : Int)) →
    diffs_grow.l0 (f + q + 1) L from_ from_.length i lo ha la = diffs_grow.l1 f L lo ((from_.drop i.toNat).foldl (fun h x => h.set x.toNat true) ha) la
  | 0, i, from_, ha, f, hq, hi, hl, hh, hf => by
    simp only [diffs_grow.l0]
    rw [if_neg (by omega), List.drop_eq_nil_of_le (by omega)]
    rfl
  | q + 1, i, from_, ha, f, hq, hi, hl, hh, hf => by
    rw [show f + (q + 1) + 1 = (f + q + 1) + 1 from by omega]
    have hlt : i < (from_.length : Int) := by omega
    have hmem : rd from_ i ∈ from_ := by
      unfold rd
      rw [List.getD_eq_getElem?_getD, List.getElem?_eq_getElem (by omega)]; exact List.getElem_mem _
    have hx := hf _ hmem
    rw [diffs_grow.l0, if_pos hlt, if_pos hi, if_pos hlt, if_pos hx.1, if_pos (by rw [hh]; exact hx.2), wrap_id (by omega) (by omega), grow_l0 n lo la q (i + 1) from_ _ f (by omega) (by omega) hl (by simpa using hh) hf]
    congr 1
    have e : from_.drop i.toNat = rd from_ i :: from_.drop (i + 1).toNat := by
      rw [show (i + 1).toNat = i.toNat + 1 from by omega, List.drop_eq_getElem_cons (by omega)]
      congr 1
      unfold rd
      rw [List.getD_eq_getElem?_getD, List.getElem?_eq_getElem (by omega)]; rfl
    rw [e, List.foldl_cons]
/-- What grow answers. -/
theorem grow_ev (hn0 : 0 < n) (hn : n ≤ 65536) (hE : EdgesOk n L) (hm : (n : Int) * L.length ≤ 4294967296) {from_ : List Int} (hl : from_.length ≤ 4294967296) (hf : ∀ i ∈ from_, 0 ≤ i ∧ i < (n : Int)) :
    ∃ s bad, growP L n n (sg0 n from_) = some (s, bad) ∧ GrowPost n L (fun v => v ∈ from_) s bad ∧ Ev (fun k => diffs_grow.f k n L from_) (s.lo, s.ha, s.la, bad) := by
  obtain ⟨s, bad, h1, h2⟩ := grow_all hn0 hE hf
  refine ⟨s, bad, h1, h2, ?_⟩
  have h3 := grow_l1 hE hn hm n 0 (sg0 n from_) (fun _ => 0) s bad (by omega) (by simpa using sg0_bf hf) h1
  refine Ev.shift (from_.length + 1) (h := fun f => diffs_grow.l1 f L (sg0 n from_).lo (sg0 n from_).ha (sg0 n from_).la) (fun f => ?_) h3
  unfold diffs_grow.f diffs_plain_nodes.f slices_Repeat_int_int.f
  simp only [Option.bind_some]
  rw [if_pos (by omega), if_pos (by omega), if_pos (by omega), if_pos (by omega), if_pos (by omega), if_pos (by omega)]
  simp only [Option.bind_some]
  have := grow_l0 (L := L) n (List.replicate n 0) (List.replicate n (-1)) from_.length 0 from_ (List.replicate n false) f (by omega) (by omega) hl (by simp) hf
  simp only [Int.toNat_natCast]
  exact this
end
end Go.Proofs.Ytpolojoeabmhdaa.A
