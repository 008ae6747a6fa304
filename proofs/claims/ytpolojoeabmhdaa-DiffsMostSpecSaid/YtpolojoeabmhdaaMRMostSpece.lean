import Derived.Test.YtpolojoeabmhdaaMRMostSpeca
import Derived.Test.YtpolojoeabmhdaaMRMostSpecb
import Derived.Test.YtpolojoeabmhdaaMRMostSpecc
import Derived.Test.YtpolojoeabmhdaaMRMostSpecd
import Derived.Test.YtpolojoeabmhdaaMYcoreb
import Derived.Test.YtpolojoeabmhdaaMYcoree
import Derived.Test.YtpolojoeabmhdaaMYcoreg
import Derived.Test.YtpolojoeabmhdaaMYflowa
set_option linter.unusedVariables false
set_option linter.unusedSimpArgs false
/- The reference: used, residual, shortest, Flow. -/
namespace Go.Proofs.Ytpolojoeabmhdaa.A
open Go.RowKit Go.Proofs.YtpolojoeabmhdaaW.PrintWords Go.Proofs.YtpolojoeabmhdaaW.PrintLast Go.Proofs.YtpolojoeabmhdaaW.PrintMore
theorem Short.self {L : List S39} {i a : Int} {p : Bool} (h : Short L i i a p) (hs : Solv L) : p = true /\ a = 0 := by
 have w : Wk L i [] i 0 := ⟨rfl, rfl⟩
 cases p with
 | true =>
  obtain ⟨⟨l, w1⟩, h2⟩ := h.yes rfl
  have := h2 _ _ w
  obtain ⟨x, hx⟩ := hs
  have := hx.walk w1
  exact ⟨rfl, by omega⟩
 | false => exact absurd w ((h.no rfl).2 _ _)
theorem sumN_mulc (g : Int -> Int) (c : Int) : ∀ n, sumN (fun v => g v * c) n = sumN g n * c
 | 0 => by simp [sumN]
 | n + 1 => by simp only [sumN]; rw [sumN_mulc g c n, Int.add_mul]
section
variable {n : Nat} {D : List S39} {w F W : List Int}
theorem no_feas_ref (h : FI n D w F W) (hE : EdgesOk n D) {s : Sg} (hf : Fix (linesL D F) s) {lk : List Int} (hag : ∀ v, 1 <= v -> v < (n : Int) -> rd lk v = rd W v) (hsum : sumN (rd lk) n = 0) {i : Int} (t0 : 0 <= i) (t1 : i < n) (hw : rd lk i < 0) (hi : hasN s i) (hg : ∀ v, 0 <= v -> v < (n : Int) -> hasN s v -> rd lk v <= 0) (F2 : List Int) (h2 : Feas n D w F2) : False := by
 obtain ⟨c, hc⟩ : ∃ c : Int, c = (if hasN s 0 then (1 : Int) else 0) := ⟨_, rfl⟩
 have hy0 : (fun v => (if hasN s v then (1 : Int) else 0) - c) 0 = 0 := by simp only; omega
 have hin : ∀ k : Int, 0 <= k -> k < D.length -> hasN s (rT39 D k).f0 -> hasN s (rT39 D k).f1 := fun k k0 k1 hu => by
  have := hf.edge (i := k) k0 (by rw [lines_len]; omega) (by rw [lines_lo k0 k1]; exact hu)
  rw [lines_lo k0 k1] at this
  exact this.1
 have hback : ∀ k : Int, 0 <= k -> k < D.length -> 0 < rd F k -> hasN s (rT39 D k).f1 -> hasN s (rT39 D k).f0 := fun k k0 k1 hk hu => by
  obtain ⟨j, j0, j1, je⟩ := used_of h.lf k0 k1 hk
  have := hf.edge (i := (D.length : Int) + j) (by omega) (by rw [lines_len]; push_cast; omega) (by rw [lines_hi j0 j1, je]; exact hu)
  rw [lines_hi j0 j1, je] at this
  exact this.1
 have e1 : 0 <= sumW n w (fun v => (if hasN s v then (1 : Int) else 0) - c) := by
  rw [h2.sum hE (x := fun v => (if hasN s v then (1 : Int) else 0) - c) hy0]
  refine Int.le_trans (Int.le_of_eq (dot_const D F2 0).symm) (dot_le (y := fun _ => 0) D F2 h2.lf (fun k k0 k1 => Int.mul_le_mul_of_nonneg_left ?_ (h2.pos k k0 k1)))
  by_cases hu : hasN s (rT39 D k).f0
  .rw [if_pos hu, if_pos (hin k k0 k1 hu)]; omega
  .rw [if_neg hu]; split <;> omega
 have e2 : sumN (fun v => if v = 0 then 0 else netF D F v * ((if hasN s v then (1 : Int) else 0) - c)) n = 0 := by
  rw [sum_dot hE h.lf (x := fun v => (if hasN s v then (1 : Int) else 0) - c) hy0]
  refine Eq.trans ?_ (dot_const D F 0)
  refine Int.le_antisymm (dot_le D F h.lf (fun k k0 k1 => Int.le_of_eq ?_)) (dot_le D F h.lf (fun k k0 k1 => Int.le_of_eq (Eq.symm ?_)))
  all_goals
   by_cases hk : 0 < rd F k
   .congr 1
    by_cases hu : hasN s (rT39 D k).f0
    .rw [if_pos hu, if_pos (hin k k0 k1 hu)]; omega
    .rw [if_neg hu, if_neg (fun hv => hu (hback k k0 k1 hk hv))]; omega
   .have := h.pos k k0 k1
    rw [show rd F k = 0 from by omega]; omega
 have e3 : sumW n w (fun v => (if hasN s v then (1 : Int) else 0) - c) = sumN (fun v => (if v = 0 then 0 else netF D F v * ((if hasN s v then (1 : Int) else 0) - c)) + (rd lk v * (if hasN s v then (1 : Int) else 0) - rd lk v * c)) n := by
  refine sumN_congr n (fun v v0 v1 => ?_)
  by_cases e : v = 0
  .rw [if_pos e, if_pos e, e, hc, <- Int.mul_sub, Int.sub_self, Int.mul_zero]; omega
  .rw [if_neg e, if_neg e, <- h.bal v (by omega) v1, hag v (by omega) v1, Int.add_mul, <- Int.mul_sub]
 have e4 : sumN (fun v => rd lk v * (if hasN s v then (1 : Int) else 0) - rd lk v * c) n < 0 := by
  have h1 : sumN (fun v => rd lk v * (if hasN s v then (1 : Int) else 0) - rd lk v * c) n = sumN (fun v => rd lk v * (if hasN s v then (1 : Int) else 0)) n + sumN (fun v => rd lk v * (-c)) n := by
   rw [<- sumN_add]
   exact sumN_congr n (fun v _ _ => by simp only [Int.mul_neg]; omega)
  rw [h1, sumN_mulc, hsum, Int.zero_mul, Int.add_zero]
  have h2 : sumN (fun v => rd lk v * (if hasN s v then (1 : Int) else 0)) n < sumN (fun _ => 0) n := sumN_lt (u := i) n (fun v v0 v1 => by
   show rd lk v * (if hasN s v then (1 : Int) else 0) <= 0
   by_cases hv : hasN s v
   .have := hg v v0 v1 hv
    rw [if_pos hv]; omega
   .rw [if_neg hv]; omega) t0 t1 (by show rd lk i * (if hasN s i then (1 : Int) else 0) < 0; rw [if_pos hi]; omega)
  rw [sumN_zero] at h2
  exact h2
 rw [e3, sumN_add, e2] at e1
 omega
end
def iterP (L : List S39) : Nat -> Sg -> Sg
 | 0, s => s
 | r + 1, s => iterP L r (pass L 0 (-1) s).2
theorem pass_still {s : Sg} : ∀ (ds : List S39) (k c : Int), (∀ d ∈ ds, ¬ s.better d = true) -> pass ds k c s = (c, s)
 | [], _, _, _ => rfl
 | d :: ds, k, c, h => by
  rw [pass, if_neg (h d (List.mem_cons_self ..))]
  exact pass_still ds (k + 1) c (fun e he => h e (List.mem_cons_of_mem _ he))
theorem Fix.still {L : List S39} {s : Sg} (h : Fix L s) : pass L 0 (-1) s = (-1, s) := by
 refine pass_still L 0 (-1) (fun d hd => ?_)
 obtain ⟨i, hi, rfl⟩ := List.getElem_of_mem hd
 have := h i (by omega) (by omega)
 unfold rT39 at this
 rw [List.getD_eq_getElem?_getD, Int.toNat_natCast, List.getElem?_eq_getElem hi] at this
 exact this
theorem Fix.iter {L : List S39} {s : Sg} (h : Fix L s) : ∀ r, iterP L r s = s
 | 0 => rfl
 | r + 1 => by rw [iterP, h.still]; exact h.iter r
theorem growP_iter {L : List S39} {n : Nat} {s' : Sg} (hf : Fix L s') : ∀ (r : Nat) (s : Sg), growP L n r s = some (s', -1) -> iterP L r s = s'
 | 0, s, h => by simp [growP] at h
 | r + 1, s, h => by
  unfold growP at h
  rw [iterP]
  by_cases hc : (pass L 0 (-1) s).1 < 0
  .rw [if_pos hc] at h
   simp only [Option.some.injEq, Prod.mk.injEq] at h
   rw [h.1]
   exact hf.iter r
  .rw [if_neg hc] at h
   split at h
   .rename_i h2
    simp only [Option.some.injEq, Prod.mk.injEq] at h
    omega
   .exact growP_iter hf r _ h
theorem usedL_snoc : ∀ (l : List Int) (x i : Int), usedL (l ++ [x]) i = usedL l i ++ (if x > 0 then [i + l.length] else [])
 | [], x, i => by
  simp only [List.nil_append, usedL]
  split <;> simp
 | y :: ys, x, i => by
  simp only [List.cons_append, usedL]
  rw [usedL_snoc ys x (i + 1)]
  have e : i + 1 + (ys.length : Int) = i + ((y :: ys).length : Int) := by simp only [List.length_cons]; push_cast; omega
  rw [e]
  split <;> simp
theorem at_rd (l : List Int) (i : Nat) (h : i < l.length) : rd l (i : Int) = l[i] := by
 unfold rd
 rw [List.getD_eq_getElem?_getD, Int.toNat_natCast, List.getElem?_eq_getElem h]; rfl
theorem at_rdT (l : List S39) (i : Nat) (h : i < l.length) : rT39 l (i : Int) = l[i] := by
 unfold rT39
 rw [List.getD_eq_getElem?_getD, Int.toNat_natCast, List.getElem?_eq_getElem h]; rfl
theorem rused_l0 (F : List Int) (hF : F.length <= 65536) : ∀ (q i : Nat), q + i = F.length -> Ev (fun k => r_used.l0 k F (usedL (F.take i) 0) i) (usedL F 0) := by
 intro q
 induction q with
 | zero =>
  intro i hq
  rw [List.take_of_length_le (by omega)]
  exact Ev.step (f := fun _ => some (usedL F 0)) (fun k => by rw [r_used.l0, if_neg (by omega)]) (Ev.now _)
 | succ q ih =>
  intro i hq
  have hlen := usedL_len (F.take i) 0
  rw [List.length_take] at hlen
  have g := ih (i + 1) (by omega)
  rw [take_snoc F i (by omega), usedL_snoc, <- at_rd F i (by omega), List.length_take, Nat.min_eq_left (by omega), Int.zero_add] at g
  by_cases c : rd F (i : Int) > 0
  .rw [if_pos c] at g
   refine Ev.step (fun k => ?_) g
   rw [r_used.l0, if_pos (by omega), if_pos (by omega), if_pos c, if_pos (by omega), wrap_id (by omega) (by omega)]
   rfl
  .rw [if_neg c, List.append_nil] at g
   refine Ev.step (fun k => ?_) g
   rw [r_used.l0, if_pos (by omega), if_pos (by omega), if_neg c, wrap_id (by omega) (by omega)]
   rfl
theorem rused_ev (F : List Int) (hF : F.length <= 65536) : Ev (fun k => r_used.f k F) (usedL F 0) := rused_l0 F hF F.length 0 (by omega)
section
variable {n : Nat} {D : List S39} {w F W : List Int}
theorem rres_l1 (hE : EdgesOk n D) (hD : D.length <= 65536) (hF : F.length = D.length) (N : Int) : ∀ (q i : Nat), q + i = D.length ->
  Ev (fun k => r_residual.l1 k F i n D N (D ++ (usedL (F.take i) 0).map fun k => turnD (rT39 D k))) (N, linesL D F) := by
 intro q
 induction q with
 | zero =>
  intro i hq
  rw [List.take_of_length_le (by omega)]
  exact Ev.step (f := fun _ => some (N, linesL D F)) (fun k => by rw [r_residual.l1, if_neg (by omega)]; rfl) (Ev.now _)
 | succ q ih =>
  intro i hq
  have hlen := usedL_len (F.take i) 0
  rw [List.length_take] at hlen
  have he := hE i (by omega) (by omega)
  have h1 := he.e
  have h2 := he.f
  have g := ih (i + 1) (by omega)
  rw [take_snoc F i (by omega), usedL_snoc, <- at_rd F i (by omega), List.length_take, Nat.min_eq_left (by omega), Int.zero_add] at g
  by_cases c : rd F (i : Int) > 0
  .rw [if_pos c, List.map_append, <- List.append_assoc] at g
   refine Ev.step (fun k => ?_) g
   rw [r_residual.l1, if_pos (by omega), if_pos (by omega), if_pos (by omega), if_pos c, if_pos (by rw [List.length_append, List.length_map]; omega), wrap_id (x := (i : Int) + 1) (by omega) (by omega), wrap_id (x := -(rT39 D (i : Int)).f2) (by omega) (by omega)]
   rfl
  .rw [if_neg c, List.append_nil] at g
   refine Ev.step (fun k => ?_) g
   rw [r_residual.l1, if_pos (by omega), if_pos (by omega), if_pos (by omega), if_neg c, wrap_id (x := (i : Int) + 1) (by omega) (by omega)]
   rfl
theorem rres_ev (hE : EdgesOk n D) (hD : D.length <= 65536) (hF : F.length = D.length) : Ev (fun k => r_residual.f k n D F) ((n : Int), linesL D F) := by
 have key : ∀ (q i : Nat), q + i = D.length -> Ev (fun k => r_residual.l0 k F i n D n (D.take i)) ((n : Int), linesL D F) := by
  intro q
  induction q with
  | zero =>
   intro i hq
   have g := rres_l1 hE hD hF (n : Int) D.length 0 (by omega)
   rw [List.take_zero, usedL, List.map_nil, List.append_nil] at g
   rw [List.take_of_length_le (by omega)]
   exact Ev.step (fun k => by rw [r_residual.l0, if_neg (by omega)]; rfl) g
  | succ q ih =>
   intro i hq
   refine Ev.step (fun k => ?_) (ih (i + 1) (by omega))
   rw [r_residual.l0, if_pos (by omega), if_pos (by omega), if_pos (by rw [List.length_take]; omega), wrap_id (by omega) (by omega), at_rdT D i (by omega), take_snoc D i (by omega)]
   rfl
 exact key D.length 0 (by omega)
end
section
variable {n : Nat} {L : List S39} {src : Int -> Prop}
theorem sh_l2 (hE : EdgesOk n L) {b : Int} (hb : 0 <= b) (hbm : b + L.length <= 4294967296) (u t x8 : Int) : ∀ (q : Nat) (k c : Int) (s : Sg) (T : Int -> Int) (f : Nat), (q : Int) + k = L.length -> 0 <= k -> Bf n L src b k s T ->
  r_shortest.l2 (f + 2 * q) u t s.la s.lo s.ha x8 k n L = r_shortest.l2 f u t (pass (L.drop k.toNat) k c s).2.la (pass (L.drop k.toNat) k c s).2.lo (pass (L.drop k.toNat) k c s).2.ha x8 L.length n L
 | 0, k, c, s, T, f, hq, h0, h => by
  have hk : k = L.length := by omega
  rw [List.drop_eq_nil_of_le (by omega), hk]
  rfl
 | q + 1, k, c, s, T, f, hq, h0, h => by
  have hk : k < (L.length : Int) := by omega
  have hd := hE k h0 hk
  have l1 := h.l1
  have l2 := h.l2
  have l3 := h.l3
  rw [rT39_drop L k h0 hk, show f + 2 * (q + 1) = (f + 2 * q) + 1 + 1 from by omega]
  have hw := h.w _ hd.a hd.b
  have he := hd.e
  have hf := hd.f
  have hwr : wrap64 (rd s.lo (rT39 L k).f0 + (rT39 L k).f2) = rd s.lo (rT39 L k).f0 + (rT39 L k).f2 := wrap_id (by omega) (by omega)
  have hk1 : wrap64 (k + 1) = k + 1 := wrap_id (by omega) (by omega)
  unfold pass
  rw [r_shortest.l2]
  rw [if_pos hk, if_pos h0, if_pos hd.a, if_pos (show (rT39 L k).f0 < (s.ha.length : Int) from by rw [l2]; exact hd.b)]
  have hnext : ∀ y, r_shortest.j3 (f + 2 * q + 1) u t s.la s.lo s.ha x8 k y n L (rT39 L k).f0 (rT39 L k).f1 (rT39 L k).f2 = if y = true then r_shortest.l2 (f + 2 * q) u t (s.put (rT39 L k) k).la (s.put (rT39 L k) k).lo (s.put (rT39 L k) k).ha x8 (k + 1) n L else r_shortest.l2 (f + 2 * q) u t s.la s.lo s.ha x8 (k + 1) n L := by
   intro y
   rw [r_shortest.j3]
   rw [if_pos hd.a, if_pos (show (rT39 L k).f0 < (s.lo.length : Int) from by rw [l1]; exact hd.b), if_pos hd.c, if_pos (show (rT39 L k).f1 < (s.lo.length : Int) from by rw [l1]; exact hd.g), if_pos (show (rT39 L k).f1 < (s.ha.length : Int) from by rw [l2]; exact hd.g), if_pos (show (rT39 L k).f1 < (s.la.length : Int) from by rw [l3]; exact hd.g), hk1, hwr]
   rfl
  by_cases hu : rdOf false s.ha (rT39 L k).f0 = true
  .rw [if_pos hu, if_pos hd.c, if_pos (show (rT39 L k).f1 < (s.ha.length : Int) from by rw [l2]; exact hd.g)]
   by_cases hv : rdOf false s.ha (rT39 L k).f1 = true
   .rw [if_pos hv, if_pos (show (rT39 L k).f0 < (s.lo.length : Int) from by rw [l1]; exact hd.b), if_pos (show (rT39 L k).f1 < (s.lo.length : Int) from by rw [l1]; exact hd.g), hnext, hwr]
    by_cases hy : rd s.lo (rT39 L k).f0 + (rT39 L k).f2 < rd s.lo (rT39 L k).f1
    .have hbt : s.better (rT39 L k) = true := by rw [better_iff]; exact ⟨hu, Or.inr hy⟩
     rw [if_pos (decide_eq_true hy), if_pos hbt]
     exact sh_l2 hE hb hbm u t x8 q (k + 1) _ _ _ f (by omega) (by omega) (h.step hE h0 hk hb hbt)
    .have hbt : ¬ s.better (rT39 L k) = true := by
      rw [better_iff]; rintro ⟨_, h2 | h2⟩
      .exact h2 hv
      .exact hy h2
     rw [if_neg (by simpa using hy), if_neg hbt]
     exact sh_l2 hE hb hbm u t x8 q (k + 1) c s T f (by omega) (by omega) (h.skip hE h0 hk hb hbt)
   .have hbt : s.better (rT39 L k) = true := by rw [better_iff]; exact ⟨hu, Or.inl hv⟩
    rw [if_neg hv, hnext, if_pos rfl, if_pos hbt]
    exact sh_l2 hE hb hbm u t x8 q (k + 1) _ _ _ f (by omega) (by omega) (h.step hE h0 hk hb hbt)
  .have hbt : ¬ s.better (rT39 L k) = true := by
    rw [better_iff]; rintro ⟨h2, _⟩
    exact hu h2
   rw [if_neg hu, hnext, if_neg (by simp), if_neg hbt]
   exact sh_l2 hE hb hbm u t x8 q (k + 1) c s T f (by omega) (by omega) (h.skip hE h0 hk hb hbt)
theorem sh_l1 (hE : EdgesOk n L) (hn : n <= 65536) (hm : (n : Int) * L.length <= 1048576) (hl : L.length <= 65536) {u t : Int} {s' : Sg} {r : List Int} (hgo : Ev (fun k => r_shortest.l3 k u s'.la [] t n L) r) : ∀ (r_ q : Nat) (s : Sg) (T : Int -> Int), q + r_ = n -> Bf n L src ((q : Int) * L.length) 0 s T -> iterP L r_ s = s' ->
  Ev (fun k => r_shortest.l1 k u t s.la s.lo s.ha q n L) r
 | 0, q, s, T, hq, h, hs => by
  rw [iterP] at hs
  subst hs
  exact Ev.step (fun k => by rw [r_shortest.l1, if_neg (by omega)]) hgo
 | r_ + 1, q, s, T, hq, h, hs => by
  have hpos : (0 : Int) <= (q : Int) * L.length := Int.mul_nonneg (by omega) (by omega)
  have hb1 : ((q : Int) + 1) * L.length = (q : Int) * L.length + L.length := by rw [Int.add_mul, Int.one_mul]
  have hb2 : (q : Int) * L.length <= (n : Int) * L.length := Int.mul_le_mul_of_nonneg_right (by omega) (by omega)
  obtain ⟨T', h', _⟩ := pass_bf hE hpos L.length 0 (-1) s T (by omega) (by omega) h (Or.inl rfl)
  have e2 := fun f => sh_l2 hE hpos (by omega) u t (q : Int) L.length 0 (-1) s T f (by omega) (by omega) h
  simp only [show (0 : Int).toNat = 0 from rfl, List.drop_zero] at h' e2
  have h'' := h'.next
  rw [<- hb1] at h''
  rw [iterP] at hs
  refine Ev.shift (2 * L.length + 2) (h := fun f => r_shortest.l1 f u t (pass L 0 (-1) s).2.la (pass L 0 (-1) s).2.lo (pass L 0 (-1) s).2.ha ((q : Int) + 1) n L) (fun f => ?_) (sh_l1 hE hn hm hl hgo r_ (q + 1) _ T' (by omega) (by push_cast; exact h'') hs)
  rw [show f + (2 * L.length + 2) = ((f + 1) + 2 * L.length) + 1 from by omega, r_shortest.l1, if_pos (by omega), e2 (f + 1), r_shortest.l2, if_neg (by omega), wrap_id (by omega) (by omega)]
theorem sh_l3 {la : List Int} {v u : Int} {c : Nat} (hla : la.length = n) (hn : n <= 256) (hcn : (c : Int) < n) (hnode : ∀ i, i <= c -> 0 <= it L la i v /\ it L la i v < n) (hidx : ∀ i, i < c -> 0 <= rd la (it L la i v) /\ rd la (it L la i v) < (L.length : Int)) (hne : ∀ i, i < c -> it L la i v ≠ u) (he : it L la c v = u) (N : Int) : ∀ (q i : Nat), q + i = c ->
  Ev (fun k => r_shortest.l3 k u la (chain L la i v) (it L la i v) N L) (chain L la c v) := by
 intro q
 induction q with
 | zero =>
  intro i hi
  obtain rfl : i = c := by omega
  exact Ev.step (f := fun _ => some (chain L la i v)) (fun k => by rw [r_shortest.l3, if_pos he]) (Ev.now _)
 | succ q ih =>
  intro i hi
  have hx := hidx i (by omega)
  have hy := hnode i (by omega)
  refine Ev.step (fun k => ?_) (ih (i + 1) (by omega))
  rw [r_shortest.l3, if_neg (hne i (by omega)), if_pos hy.1, if_pos (by omega), if_pos (by rw [chain_len L la]; omega), if_pos hx.1, if_pos hx.2, chain_snoc, it_succ]
  rfl
theorem sh_ev (hE : EdgesOk n L) (hn : n <= 256) (hm : (n : Int) * L.length <= 1048576) (hl : L.length <= 65536) {u : Int} (u0 : 0 <= u) (u1 : u < n) {s : Sg} (hg : growP L n n (sg0 n [u]) = some (s, -1)) (hf : Fix L s) {b : Int} {T : Int -> Int} (hB : Bf n L (fun v => v ∈ [u]) b L.length s T) {t : Int} {c : Nat} (hc : Tree n L (fun v => v ∈ [u]) s t c) :
  Ev (fun k => r_shortest.f k n L u t) (chain L s.la c t) := by
 have hsrc : it L s.la c t = u := by have := hc.src; simpa using this
 have l3 := hB.l3
 have hlast := sh_l3 (n := n) (N := n) (by omega) hn hc.few hc.node (fun i hi => by
  have hg := (goes_add L s.la i 1 t).1 (goes_le hc.goes (by omega))
  have hp := hg.2.1
  have hy := hc.node i (by omega)
  have := hB.p _ hy.1 hy.2 (hB.la_pos hy.1 hy.2 hp)
  exact ⟨this.1, this.2.1⟩) (fun i hi => by rw [<- hsrc]; exact hc.apart i c hi (Nat.le_refl _)) hsrc c 0 (by omega)
 have h1 := sh_l1 hE (by omega) hm hl hlast n 0 (sg0 n [u]) (fun _ => 0) (by omega) (by simpa using sg0_bf (L := L) (from_ := [u]) (fun i hi => by simp at hi; subst hi; exact ⟨u0, u1⟩)) (growP_iter hf n _ hg)
 have hha := sg0_ha n (from_ := [u]) (fun v hv => by simp at hv; subst hv; exact ⟨u0, u1⟩) (fun (j : Nat) => ((j : Int) == u)) (fun v a b => by simp; omega)
 have key : ∀ (q i : Nat), q + i = n -> Ev (fun k => r_shortest.l0 k u t (List.replicate i (-1)) (List.replicate i 0) ((List.range i).map fun (j : Nat) => ((j : Int) == u)) i n L) (chain L s.la c t) := by
  intro q
  induction q with
  | zero =>
   intro i hq
   obtain rfl : i = n := by omega
   rw [hha]
   exact Ev.step (fun k => by rw [r_shortest.l0, if_neg (by omega)]; rfl) h1
  | succ q ih =>
   intro i hq
   have g := ih (i + 1) (by omega)
   rw [List.replicate_succ', List.replicate_succ', List.range_succ, List.map_append] at g
   refine Ev.step (fun k => ?_) g
   rw [r_shortest.l0, if_pos (by omega), if_pos (by simp; omega), if_pos (by simp; omega), if_pos (by simp; omega), wrap_id (by omega) (by omega)]
   rfl
 exact key n 0 (by omega)
end
theorem mn_min (a b : Int) : mn a b = min a b := by
 unfold mn
 by_cases h : b < a
 .rw [if_pos h]; omega
 .rw [if_neg h]; omega
theorem sumN_shift (g : Int -> Int) : ∀ n : Nat, sumN g (n + 1) = g 0 + sumN (fun v => g (v + 1)) n
 | 0 => by simp [sumN]
 | n + 1 => by
  have h := sumN_shift g n
  simp only [sumN] at h ⊢
  push_cast
  omega
theorem sum_le_sabs : ∀ (xs : List Int) (m : Nat), m = xs.length -> -(sabs xs) <= sumN (rd xs) m /\ sumN (rd xs) m <= sabs xs
 | [], m, h => by
  subst h
  simp [sumN, sabs]
 | x :: xs, m, h => by
  subst h
  have ih := sum_le_sabs xs xs.length rfl
  rw [List.length_cons, sumN_shift, sumN_congr (h := rd xs) xs.length (fun v v0 v1 => rd_cons x xs v v0)]
  have e : rd (x :: xs) 0 = x := rfl
  rw [e, sabs]
  unfold ab
  split <;> omega
theorem rd_drop1 (W : List Int) (v : Int) (h : 0 <= v) : rd (W.drop 1) v = rd W (v + 1) := by
 cases W with
 | nil => rfl
 | cons x xs => rw [rd_cons x xs v h]; rfl
theorem sumN_set (l : List Int) {k x : Int} (k0 : 0 <= k) (k1 : k < l.length) : ∀ n : Nat, k < n -> n <= l.length -> sumN (rd (l.set k.toNat x)) n = sumN (rd l) n - rd l k + x
 | 0, h, _ => by omega
 | n + 1, h, hn => by
  simp only [sumN]
  rw [rd_set _ _ _ _ k0 k1 (by omega)]
  by_cases e : (n : Int) = k
  .have : sumN (rd (l.set k.toNat x)) n = sumN (rd l) n := sumN_congr n (fun v v0 v1 => by rw [rd_set _ _ _ _ k0 k1 v0, if_neg (by omega)])
   rw [if_pos e, this, e]; omega
  .rw [if_neg e, sumN_set l k0 k1 n (by omega) (by omega)]; omega
section
variable {n : Nat} {D : List S39} {w F W : List Int}
theorem lk_zero (h : FI n D w F W) (hn0 : 0 < n) {lk : List Int} (hl : lk.length = n) (hag : ∀ v, 1 <= v -> v < (n : Int) -> rd lk v = rd W v) (hs : sumN (rd lk) n = 0) : -1048576 <= rd lk 0 /\ rd lk 0 <= 1048576 := by
 obtain ⟨m, rfl⟩ : ∃ m, n = m + 1 := ⟨n - 1, by omega⟩
 have hp := h.ph
 have hw := h.lw
 have := sum_le_sabs (W.drop 1) m (by rw [List.length_drop]; omega)
 rw [sumN_shift, sumN_congr (h := rd (W.drop 1)) m (fun v v0 v1 => by rw [rd_drop1 W v v0]; exact hag (v + 1) (by omega) (by push_cast; omega))] at hs
 unfold phi at hp
 omega
def giveL (lk : List Int) : Nat -> Int -> Int -> Int
 | 0, _, f => f
 | q + 1, i, f => giveL lk q (i + 1) (if rd lk i < 0 then i else f)
def Give (n : Nat) (lk : List Int) (i f : Int) : Prop := (f = -1 /\ ∀ v, 0 <= v -> v < i -> 0 <= rd lk v) ∨ (0 <= f /\ f < n /\ rd lk f < 0)
theorem giveL_spec (lk : List Int) : ∀ (q : Nat) (i f : Int), (q : Int) + i = n -> 0 <= i -> Give n lk i f -> Give n lk n (giveL lk q i f)
 | 0, i, f, hq, hi, hf => by
  have e : i = n := by omega
  rw [e] at hf; exact hf
 | q + 1, i, f, hq, hi, hf => by
  refine giveL_spec lk q (i + 1) _ (by omega) (by omega) ?_
  by_cases c : rd lk i < 0
  .rw [if_pos c]; exact Or.inr ⟨hi, by omega, c⟩
  .rw [if_neg c]
   rcases hf with ⟨a, b⟩ | h
   .refine Or.inl ⟨a, fun v v0 v1 => ?_⟩
    by_cases e : v = i
    .rw [e]; omega
    .exact b v v0 (by omega)
   .exact Or.inr h
theorem rf_l4 (F : List Int) {lk : List Int} (hl : lk.length = n) (hn : n <= 65536) {r : List Int × Bool} : ∀ (q : Nat) (i f : Int), (q : Int) + i = n -> 0 <= i -> Ev (fun k => if giveL lk q i f < 0 then (some (F, true)) else ((r_residual.f k n D F).bind fun H7 => ((r_marks.f k n D false (giveL lk q i f)).bind fun Ua => ((r_Lengths.f k H7.1 H7.2 Ua).bind fun Wp => (r_Flow.l5 k F lk (giveL lk q i f) Wp.1 Wp.2.1 (-1) 0 n D H7.1 H7.2))))) r ->
  Ev (fun k => r_Flow.l4 k F lk f i n D) r := by
 intro q
 induction q with
 | zero =>
  intro i f hq hi h
  rw [giveL] at h
  exact Ev.step (fun k => by rw [r_Flow.l4, if_neg (by omega)]) h
 | succ q ih =>
  intro i f hq hi h
  rw [giveL] at h
  have g := ih (i + 1) _ (by omega) (by omega) h
  by_cases c : rd lk i < 0
  .rw [if_pos c] at g
   exact Ev.step (fun k => by rw [r_Flow.l4, if_pos (by omega), if_pos hi, if_pos (by omega), if_pos c, wrap_id (x := i + 1) (by omega) (by omega)]) g
  .rw [if_neg c] at g
   exact Ev.step (fun k => by rw [r_Flow.l4, if_pos (by omega), if_pos hi, if_pos (by omega), if_neg c, wrap_id (x := i + 1) (by omega) (by omega)]) g
def toL (lk lo : List Int) (ha : List Bool) : Nat -> Int -> Int -> Int
 | 0, _, t => t
 | q + 1, i, t => toL lk lo ha q (i + 1) (if (0 < rd lk i /\ rdOf false ha i = true) /\ (t < 0 ∨ rd lo i < rd lo t) then i else t)
def To (n : Nat) (lk : List Int) (ha : List Bool) (i t : Int) : Prop := (t = -1 /\ ∀ v, 0 <= v -> v < i -> ¬ (0 < rd lk v /\ rdOf false ha v = true)) ∨ (0 <= t /\ t < n /\ 0 < rd lk t /\ rdOf false ha t = true)
theorem To.next {lk lo : List Int} {ha : List Bool} {i t : Int} (hi : 0 <= i) (hin : i < n) (ht : To n lk ha i t) : To n lk ha (i + 1) (if (0 < rd lk i /\ rdOf false ha i = true) /\ (t < 0 ∨ rd lo i < rd lo t) then i else t) := by
 by_cases c : (0 < rd lk i /\ rdOf false ha i = true) /\ (t < 0 ∨ rd lo i < rd lo t)
 .rw [if_pos c]; exact Or.inr ⟨hi, hin, c.1⟩
 .rw [if_neg c]
  rcases ht with ⟨a, b⟩ | h
  .refine Or.inl ⟨a, fun v v0 v1 => ?_⟩
   by_cases e : v = i
   .rw [e]; exact fun h => c ⟨h, Or.inl (by omega)⟩
   .exact b v v0 (by omega)
  .exact Or.inr h
theorem toL_spec (lk lo : List Int) (ha : List Bool) : ∀ (q : Nat) (i t : Int), (q : Int) + i = n -> 0 <= i -> To n lk ha i t -> To n lk ha n (toL lk lo ha q i t)
 | 0, i, t, hq, hi, ht => by
  have e : i = n := by omega
  rw [e] at ht; exact ht
 | q + 1, i, t, hq, hi, ht => toL_spec lk lo ha q (i + 1) _ (by omega) (by omega) (ht.next hi (by omega))
theorem rf_l5 (F : List Int) {lk lo : List Int} {ha : List Bool} (hl : lk.length = n) (h1 : lo.length = n) (h2 : ha.length = n) (hn : n <= 65536) {f N2 : Int} {L : List S39} {r : List Int × Bool} : ∀ (q : Nat) (i t : Int), (q : Int) + i = n -> 0 <= i -> To n lk ha i t -> Ev (fun k => if toL lk lo ha q i t < 0 then (some (([] : List Int), false)) else ((r_used.f k F).bind fun fF => ((r_shortest.f k N2 L f (toL lk lo ha q i t)).bind fun fc => (if 0 <= f then (if f < (lk.length : Int) then (if 0 <= (toL lk lo ha q i t) then (if (toL lk lo ha q i t) < (lk.length : Int) then (r_Flow.l6 k F lk f (toL lk lo ha q i t) fF fc (mn (wrap64 (-(rd lk f))) (rd lk (toL lk lo ha q i t))) 0 n D) else (none)) else (none)) else (none)) else (none))))) r ->
  Ev (fun k => r_Flow.l5 k F lk f lo ha t i n D N2 L) r := by
 intro q
 induction q with
 | zero =>
  intro i t hq hi ht h
  rw [toL] at h
  exact Ev.step (fun k => by rw [r_Flow.l5, if_neg (by omega)]) h
 | succ q ih =>
  intro i t hq hi ht h
  have hg := ih (i + 1) _ (by omega) (by omega) (ht.next (lo := lo) hi (by omega)) h
  have hF : ¬ ((0 < rd lk i /\ rdOf false ha i = true) /\ (t < 0 ∨ rd lo i < rd lo t)) -> Ev (fun k => r_Flow.j6 k F lk f lo ha t i false n D N2 L) r := fun hno => by
   rw [if_neg hno] at hg
   exact Ev.step (fun k => by rw [r_Flow.j6, if_neg (by decide), wrap_id (x := i + 1) (by omega) (by omega)]) hg
  have hT : (0 < rd lk i /\ rdOf false ha i = true) /\ (t < 0 ∨ rd lo i < rd lo t) -> Ev (fun k => r_Flow.j6 k F lk f lo ha t i true n D N2 L) r := fun hy => by
   rw [if_pos hy] at hg
   exact Ev.step (fun k => by rw [r_Flow.j6, if_pos rfl, wrap_id (x := i + 1) (by omega) (by omega)]) hg
  by_cases c1 : rd lk i > 0
  case neg => exact Ev.step (fun k => by rw [r_Flow.l5, if_pos (by omega), if_pos hi, if_pos (by omega), if_neg c1]) (hF (fun h => c1 h.1.1))
  by_cases c2 : rdOf false ha i = true
  case neg => exact Ev.step (fun k => by rw [r_Flow.l5, if_pos (by omega), if_pos hi, if_pos (by omega), if_pos c1, if_pos (by omega), if_neg c2]) (hF (fun h => c2 h.1.2))
  by_cases c3 : t < 0
  .exact Ev.step (fun k => by rw [r_Flow.l5, if_pos (by omega), if_pos hi, if_pos (by omega), if_pos c1, if_pos (by omega), if_pos c2, if_pos c3]) (hT ⟨⟨c1, c2⟩, Or.inl c3⟩)
  have ht' : 0 <= t /\ t < n /\ 0 < rd lk t /\ rdOf false ha t = true := by
   rcases ht with ⟨a, _⟩ | h
   .omega
   .exact h
  have hstep : Ev (fun k => r_Flow.j6 k F lk f lo ha t i (decide ((rd lo i) < (rd lo t))) n D N2 L) r -> Ev (fun k => r_Flow.l5 k F lk f lo ha t i n D N2 L) r := fun h =>
   Ev.step (fun k => by rw [r_Flow.l5, if_pos (by omega), if_pos hi, if_pos (by omega), if_pos c1, if_pos (by omega), if_pos c2, if_neg c3, if_pos (by omega), if_pos ht'.1, if_pos (by omega)]) h
  by_cases c4 : rd lo i < rd lo t
  .rw [decide_eq_true c4] at hstep
   exact hstep (hT ⟨⟨c1, c2⟩, Or.inr c4⟩)
  .rw [decide_eq_false c4] at hstep
   exact hstep (hF (fun h => h.2.elim c3 c4))
theorem rf_l6 (F lk : List Int) (f t : Int) (U l : List Int) (hl : l.length <= 65536) {r : List Int × Bool} {M : Int} (hgo : Ev (fun k => r_Flow.l7 k F lk f t U l M 0 n D) r) : ∀ (q : Nat) (i m : Int), (q : Int) + i = l.length -> 0 <= i -> muchL D.length F U (l.drop i.toNat) m = some M ->
  Ev (fun k => r_Flow.l6 k F lk f t U l m i n D) r := by
 intro q
 induction q with
 | zero =>
  intro i m hq hi hm
  rw [List.drop_eq_nil_of_le (by omega)] at hm
  obtain rfl := Option.some.inj hm
  exact Ev.step (fun k => by rw [r_Flow.l6, if_neg (by omega)]) hgo
 | succ q ih =>
  intro i m hq hi hm
  rw [drop_rd l i hi (by omega), muchL] at hm
  by_cases c : rd l i >= (D.length : Int)
  .rw [if_pos c] at hm
   by_cases c2 : (0 <= wrap64 (rd l i - D.length) /\ wrap64 (rd l i - D.length) < U.length) /\ 0 <= rd U (wrap64 (rd l i - D.length)) /\ rd U (wrap64 (rd l i - D.length)) < F.length
   .rw [if_pos c2] at hm
    refine Ev.step (fun k => ?_) (ih (i + 1) _ (by omega) (by omega) hm)
    rw [r_Flow.l6, if_pos (by omega), if_pos hi, if_pos c, if_pos c2.1.1, if_pos c2.1.2, if_pos c2.2.1, if_pos c2.2.2, mn_min, wrap_id (x := i + 1) (by omega) (by omega)]
   .rw [if_neg c2] at hm; cases hm
  .rw [if_neg c] at hm
   refine Ev.step (fun k => ?_) (ih (i + 1) _ (by omega) (by omega) hm)
   rw [r_Flow.l6, if_pos (by omega), if_pos hi, if_neg c, wrap_id (x := i + 1) (by omega) (by omega)]
theorem rf_l7 (lk : List Int) (f t : Int) (U l : List Int) (hl : l.length <= 65536) {r : List Int × Bool} {M : Int} {F' : List Int} (hgo : Ev (fun k => if 0 <= f then (if f < (lk.length : Int) then ((some (lk.set (f : Int).toNat (wrap64 ((rd lk f) + M)) : List Int)).bind fun E0 => (if 0 <= t then (if t < (lk.length : Int) then (r_Flow.l3 k F' (E0.set (t : Int).toNat (wrap64 ((rd E0 t) - M))) n D) else (none)) else (none))) else (none)) else (none)) r) : ∀ (q : Nat) (i : Int) (F : List Int), (q : Int) + i = l.length -> 0 <= i -> applyL D.length U M (l.drop i.toNat) F = some F' ->
  Ev (fun k => r_Flow.l7 k F lk f t U l M i n D) r := by
 intro q
 induction q with
 | zero =>
  intro i F hq hi hm
  rw [List.drop_eq_nil_of_le (by omega)] at hm
  obtain rfl := Option.some.inj hm
  exact Ev.step (fun k => by rw [r_Flow.l7, if_neg (by omega)]) hgo
 | succ q ih =>
  intro i F hq hi hm
  rw [drop_rd l i hi (by omega), applyL] at hm
  by_cases c : rd l i >= (D.length : Int)
  .rw [if_pos c] at hm
   by_cases c2 : (0 <= wrap64 (rd l i - D.length) /\ wrap64 (rd l i - D.length) < U.length) /\ 0 <= rd U (wrap64 (rd l i - D.length)) /\ rd U (wrap64 (rd l i - D.length)) < F.length
   .rw [if_pos c2] at hm
    refine Ev.step (fun k => ?_) (ih (i + 1) _ (by omega) (by omega) hm)
    rw [r_Flow.l7, if_pos (by omega), if_pos hi, if_pos c, if_pos c2.1.1, if_pos c2.1.2, if_pos c2.2.1, if_pos c2.2.2, wrap_id (x := i + 1) (by omega) (by omega)]
   .rw [if_neg c2] at hm; cases hm
  .rw [if_neg c] at hm
   by_cases c2 : 0 <= rd l i /\ rd l i < F.length
   .rw [if_pos c2] at hm
    refine Ev.step (fun k => ?_) (ih (i + 1) _ (by omega) (by omega) hm)
    rw [r_Flow.l7, if_pos (by omega), if_pos hi, if_neg c, if_pos c2.1, if_pos c2.2, wrap_id (x := i + 1) (by omega) (by omega)]
   .rw [if_neg c2] at hm; cases hm
theorem rflow_go (hE : EdgesOk n D) (hn0 : 0 < n) (hn : n <= 16) (hD : D.length <= 60) : ∀ (m : Nat) (F W lk : List Int), FI n D w F W -> lk.length = n -> (∀ v, 1 <= v -> v < (n : Int) -> rd lk v = rd W v) -> sumN (rd lk) n = 0 -> phi W < m ->
  ∃ r : List Int × Bool, Ev (fun k => r_Flow.l3 k F lk n D) r /\ ((r.2 = false /\ r.1 = [] /\ ∀ F2, ¬ Feas n D w F2) ∨ (r.2 = true /\ Feas n D w r.1 /\ Solv (linesL D r.1) /\ ∀ k, 0 <= k -> k < (D.length : Int) -> rd r.1 k <= 1048576)) := by
 intro m
 induction m with
 | zero => intro F W lk h _ _ _ hp; have := phi_nonneg W; omega
 | succ m ih =>
  intro F W lk h hl hag hs hp
  have hlf := h.lf
  have hEL := lines_ok hE h.lf
  have hul := usedL_len F 0
  have hll : (linesL D F).length <= 120 := by rw [lines_len]; omega
  have hm : (n : Int) * (linesL D F).length <= 1048576 := by
   have := Int.mul_le_mul (a := (n : Int)) (b := ((linesL D F).length : Int)) (c := 16) (d := 120) (by omega) (by omega) (by omega) (by omega)
   omega
  have h3 : ∀ {r}, Ev (fun k => r_Flow.l4 k F lk (-1) 0 n D) r -> Ev (fun k => r_Flow.l3 k F lk n D) r := fun h => Ev.step (fun k => by rw [r_Flow.l3]) h
  have h4 := fun {r : List Int × Bool} => rf_l4 (D := D) F (lk := lk) hl (by omega) (r := r) n 0 (-1) (by omega) (by omega)
  have hgv := giveL_spec (n := n) lk n 0 (-1) (by omega) (by omega) (Or.inl ⟨rfl, fun v a b => by omega⟩)
  generalize giveL lk n 0 (-1) = f at h4 hgv
  rcases hgv with ⟨rfl, hall⟩ | ⟨f0, f1, f2⟩
  .-- nobody has too much
   refine ⟨(F, true), h3 (h4 (Ev.pos (by omega) (Ev.now _))), Or.inr ⟨rfl, ⟨h.lf, h.pos, fun v v0 v1 => ?_⟩, h.pot, fun k k0 k1 => by have := h.up k k0 k1; have := phi_nonneg W; simp only; omega⟩⟩
   have hz : rd lk v = 0 := by
    apply Classical.byContradiction
    intro hne
    have h1 := hall v (by omega) v1
    have := sumN_lt (g := fun _ => 0) (h := rd lk) (u := v) n (fun u u0 u1 => hall u u0 u1) (by omega) v1 (by show 0 < rd lk v; omega)
    rw [sumN_zero, hs] at this
    omega
   have := h.bal v v0 v1
   have := hag v v0 v1
   simp only
   omega
  -- f has too much
  obtain ⟨s, bad, g1, g2⟩ := grow_all hn0 hEL (from_ := [f]) (fun i hi => by simp at hi; subst hi; exact ⟨f0, f1⟩)
  obtain ⟨π, hπ⟩ := h.pot
  obtain ⟨e, hfx⟩ := g2.good hEL hπ
  subst e
  obtain ⟨b, T, hb, hb2, hB⟩ := g2.bf
  have l1 := hB.l1
  have l2 := hB.l2
  have hlen := len_one hn0 (by omega) hEL hm (by omega) f0 f1 g1
  have h5 := fun {r : List Int × Bool} (hr : Ev (fun k => r_Flow.l5 k F lk f s.lo s.ha (-1) 0 n D n (linesL D F)) r) => h3 (h4 (Ev.neg (show ¬ f < 0 by omega) ((rres_ev hE (by omega) h.lf).bind ((marks_one n (by omega) D f0 f1).bind (hlen.bind hr)))))
  have h6 := fun {r : List Int × Bool} => rf_l5 (D := D) F (lk := lk) (lo := s.lo) (ha := s.ha) hl (by omega) (by omega) (by omega) (f := f) (N2 := n) (L := linesL D F) (r := r) n 0 (-1) (by omega) (by omega) (Or.inl ⟨rfl, fun v a b => by omega⟩)
  have hto := toL_spec (n := n) lk s.lo s.ha n 0 (-1) (by omega) (by omega) (Or.inl ⟨rfl, fun v a b => by omega⟩)
  generalize toL lk s.lo s.ha n 0 (-1) = t at h6 hto
  have hasf : hasN s f := by
   have := tree_short hEL f0 f1 g2 hfx f0 f1
   exact (this.self ⟨π, hπ⟩).1
  rcases hto with ⟨rfl, hno⟩ | ⟨t0, t1, t2, t3⟩
  .refine ⟨([], false), h5 (h6 (Ev.pos (by omega) (Ev.now _))), Or.inl ⟨rfl, rfl, fun F2 h2 => ?_⟩⟩
   exact no_feas_ref h hE hfx hag hs f0 f1 f2 hasf (fun v v0 v1 hv => by
    have := hno v v0 v1
    unfold hasN at hv
    by_cases c : 0 < rd lk v
    .exact absurd ⟨c, hv⟩ this
    .omega) F2 h2
  -- t lacks something and is reached
  obtain ⟨c, hc⟩ := g2.tree hEL hfx t0 t1 t3
  have hsrc : it (linesL D F) s.la c t = f := by have := hc.src; simpa using this
  have hsh := sh_ev hEL (by omega) hm (by omega) f0 f1 g1 hfx hB hc
  have hoks := chain_ok hB hEL t0 t1 hc.goes
  have hz := lk_zero h hn0 hl hag hs
  have hbnd : ∀ v, 0 <= v -> v < (n : Int) -> -1048576 <= rd lk v /\ rd lk v <= 1048576 := fun v v0 v1 => by
   by_cases e : v = 0
   .rw [e]; exact hz
   .rw [hag v (by omega) v1]; exact h.wb (by omega) v1
  have bf := hbnd f f0 f1
  have bt := hbnd t t0 t1
  obtain ⟨M, m1, m2, m3, m4⟩ := much_ok h.lf (by omega) (chain (linesL D F) s.la c t) (min (-(rd lk f)) (rd lk t)) hoks
  have hM1 := m3 (by omega)
  have hft : f ≠ t := fun e => by rw [e] at f2; omega
  obtain ⟨F', a1, a2, a3⟩ := augment h hE (by omega) g2 hfx t0 t1 (by omega) hc (by rw [hsrc]; exact hft) hM1 (by omega) (fun et => by rw [<- hag t (by omega) t1]; omega) (fun ef => by rw [hsrc] at ef ⊢; rw [<- hag f (by omega) f1]; omega) (by rw [hsrc]; omega) m4
  rw [hsrc] at a2 a3
  have hw2 := (want2_rd h.lw t0 t1 f0 f1 hft ⟨by omega, by omega⟩ (fun v v0 v1 => h.wb v0 v1) (M := M)).2
  have aMj : ∀ v, 0 <= v -> rd (lk.set f.toNat (rd lk f + M)) v = if v = f then rd lk f + M else rd lk v := fun v v0 => rd_set _ _ _ _ f0 (by omega) v0
  have hrdt : rd (lk.set f.toNat (rd lk f + M)) t = rd lk t := by rw [aMj t t0, if_neg (fun e => hft e.symm)]
  have a3K : ∀ v, 0 <= v -> rd ((lk.set f.toNat (rd lk f + M)).set t.toNat (rd lk t - M)) v = if v = t then rd lk t - M else if v = f then rd lk f + M else rd lk v := fun v v0 => by
   rw [rd_set _ _ _ _ t0 (by rw [List.length_set]; omega) v0, aMj v v0]
  obtain ⟨r, r1, r2⟩ := ih F' (want2 W t f M) ((lk.set f.toNat (rd lk f + M)).set t.toNat (rd lk t - M)) a2 (by rw [List.length_set, List.length_set]; exact hl) (fun v v0 v1 => by
   rw [a3K v (by omega), hw2 v v0 v1]
   have := hag v v0 v1
   unfold ind
   by_cases e1 : v = t
   .have h1 : t = v := e1.symm
    have h2 : ¬ f = v := fun e => hft (e.trans e1)
    rw [if_pos e1, if_pos h1, if_neg h2, <- e1]; omega
   .have h1 : ¬ t = v := fun e => e1 e.symm
    rw [if_neg e1, if_neg h1]
    by_cases e2 : v = f
    .have h2 : f = v := e2.symm
     rw [if_pos e2, if_pos h2, <- e2]; omega
    .have h2 : ¬ f = v := fun e => e2 e.symm
     rw [if_neg e2, if_neg h2]; omega) (by
   rw [sumN_set _ t0 (by rw [List.length_set]; omega) n (by omega) (by rw [List.length_set]; omega), hrdt, sumN_set _ f0 (by omega) n (by omega) (by omega), hs]; omega) (by omega)
  refine ⟨r, h5 (h6 (Ev.neg (by omega) ((rused_ev F (by omega)).bind (hsh.bind (Ev.pos f0 (Ev.pos (by omega) (Ev.pos t0 (Ev.pos (by omega) ?_)))))))), r2⟩
  rw [mn_min, wrap_id (x := -(rd lk f)) (by omega) (by omega)]
  have hcl := chain_len (linesL D F) s.la c t
  have hfew := hc.few
  refine rf_l6 F lk f t (usedL F 0) _ (by omega) ?_ (chain (linesL D F) s.la c t).length 0 _ (by omega) (by omega) (by rw [show (0 : Int).toNat = 0 from rfl, List.drop_zero]; exact m1)
  refine rf_l7 lk f t (usedL F 0) _ (by omega) (F' := F') ?_ (chain (linesL D F) s.la c t).length 0 F (by omega) (by omega) (by rw [show (0 : Int).toNat = 0 from rfl, List.drop_zero]; exact a1)
  refine Ev.pos f0 (Ev.pos (by omega) ?_)
  simp only [Option.bind_some]
  refine Ev.pos t0 (Ev.pos (by omega) ?_)
  rw [wrap_id (x := rd lk f + M) (by omega) (by omega), hrdt, wrap_id (x := rd lk t - M) (by omega) (by omega)]
  exact r1
end
end Go.Proofs.Ytpolojoeabmhdaa.A
/- Most, Best and Flow together. -/
namespace Go.Proofs.Ytpolojoeabmhdaa.A
open Go.RowKit Go.Proofs.YtpolojoeabmhdaaW.PrintWords Go.Proofs.YtpolojoeabmhdaaW.PrintLast Go.Proofs.YtpolojoeabmhdaaW.PrintMore
section
variable {n : Nat} {D : List S39} {w F : List Int}
theorem Ful.of_lines {x : List Int} (h : Ful n (linesL D F) x) : Ful n D x := ⟨h.l, h.n0, h.z, h.b, fun k k0 k1 => by
 have := h.e k k0 (by rw [lines_len]; omega)
 rw [lines_lo k0 k1] at this
 exact this⟩
structure Trio (n : Nat) (D : List S39) (w : List Int) (a : Int) (b : Bool) (e : Int) (x F : List Int) : Prop where
 m : MostIs n D w a b e
 yes : Weighty n w -> Solv D -> b = true -> Ful n D x /\ sumW n w (rd x) = a /\ FlowIs n D w F a
 no : b = false -> x = [] /\ F = []
theorem trio_ev (hV : Valid n D) (hm : (n : Int) * (2 * D.length) <= 1048576) (w : List Int) : ∃ a b e x F, Ev (fun k => d_Most.f k n D w) (a, b, e) /\ Ev (fun k => d_Best.f k n D w) (x, b, e) /\ Ev (fun k => d_Flow.f k n D w) (F, b, e) /\ Trio n D w a b e x F := by
 obtain ⟨is, F, W, e, h1, h2⟩ := best_ev hV w
 have hD := hV.l
 have hn0 : 0 < n := by have := hV.n1; omega
 have hn : n <= 256 := by have := hV.n2; omega
 unfold d_Most.f d_Best.f d_Flow.f
 by_cases hw : Weighty n w
 case neg =>
  obtain ⟨rfl, rfl, rfl⟩ := h2.arg hw
  exact ⟨0, false, 1, [], [], h1.bind (Ev.neg (by simp) (Ev.now _)), h1.bind (Ev.neg (by simp) (Ev.now _)), h1.bind (Ev.neg (by simp) (Ev.now _)), ⟨fun _ => ⟨rfl, rfl, rfl⟩, fun h => absurd h hw, fun h => absurd h hw, by omega⟩, fun h => absurd h hw, fun _ => ⟨rfl, rfl⟩⟩
 by_cases hs : Solv D
 case neg =>
  obtain ⟨rfl, rfl, rfl⟩ := h2.clash hw hs
  exact ⟨0, false, 41, [], [], h1.bind (Ev.neg (by simp) (Ev.now _)), h1.bind (Ev.neg (by simp) (Ev.now _)), h1.bind (Ev.neg (by simp) (Ev.now _)), ⟨fun h => absurd hw h, fun _ _ => ⟨rfl, rfl, rfl⟩, fun _ h => absurd h hs, by omega⟩, fun _ h => absurd h hs, fun _ => ⟨rfl, rfl⟩⟩
 obtain rfl := h2.ok hw hs
 cases is with
 | true =>
  obtain ⟨f1, f2, f3⟩ := h2.yes hw hs rfl
  obtain ⟨c1, c2⟩ := cost_ev hV.e f1.lf hD (fun k k0 k1 => ⟨f1.pos k k0 k1, f3 k k0 k1⟩) (n : Int)
  have hul := usedL_len F 0
  have hlf := f1.lf
  obtain ⟨x, s, s1, s2⟩ := solve_ful hn0 hn (lines_ok hV.e f1.lf) (by
   rw [lines_len]
   have := Int.mul_le_mul_of_nonneg_left (show ((D.length + (usedL F 0).length : Nat) : Int) <= 2 * D.length by push_cast; omega) (show (0 : Int) <= n by omega)
   omega) f2
  have hst := strong f1 hV.e s2.z (fun k k0 k1 => (s2.e k k0 k1).2.2.2.2)
  exact ⟨costF D F, true, 0, x, F, h1.bind (Ev.pos rfl (Ev.pos rfl (c1.bind (Ev.now _)))), h1.bind (Ev.pos rfl (Ev.pos rfl (s1.bind (Ev.now _)))), h1.bind (Ev.pos rfl (Ev.pos rfl (Ev.now _))), ⟨fun h => absurd hw h, fun _ h => absurd hs h, fun _ _ => ⟨rfl, fun _ => ⟨F, rd x, f1, hst.1, rfl, hst.2⟩, fun h => by cases h⟩, c2⟩, fun _ _ _ => ⟨s2.of_lines, hst.2, ⟨hw, f1, f3, Int.le_refl _⟩⟩, fun h => by cases h⟩
 | false =>
  have hno := h2.no hw hs rfl
  exact ⟨0, false, 0, [], [], h1.bind (Ev.pos rfl (Ev.neg (by simp) (Ev.now _))), h1.bind (Ev.pos rfl (Ev.neg (by simp) (Ev.now _))), h1.bind (Ev.pos rfl (Ev.neg (by simp) (Ev.now _))), ⟨fun h => absurd hw h, fun _ h => absurd hs h, fun _ _ => ⟨rfl, ⟨fun h => (by cases h), fun _ => ⟨rfl, hno⟩⟩⟩, by omega⟩, fun _ _ h => (by cases h), fun _ => ⟨rfl, rfl⟩⟩
end
end Go.Proofs.Ytpolojoeabmhdaa.A
namespace Go.Proofs.Ytpolojoeabmhdaa.A
open Go.RowKit Go.Proofs.YtpolojoeabmhdaaW.PrintWords Go.Proofs.YtpolojoeabmhdaaW.PrintLast Go.Proofs.YtpolojoeabmhdaaW.PrintMore
attribute [local go_sem] max2_int min2_int max_two min_two max_three min_three max_four min_four
mutual
def r_Numbers.l0 : Nat -> List Int -> Int -> Option (Bool)
 | 0, _, _ => none
 | k + 1, x1, x5 => if x5 < (x1.length : Int) then (if 0 <= x5 then (if (rd x1 x5) < (-1099511627776) then (r_Numbers.j1 k x1 x5 true) else (r_Numbers.j1 k x1 x5 (decide ((rd x1 x5) > 1099511627776)))) else (none)) else (some true)
def r_Numbers.j1 : Nat -> List Int -> Int -> Bool -> Option (Bool)
 | 0, _, _, _ => none
 | k + 1, x1, x5, x28 => if x28 = true then (some false) else (r_Numbers.l0 k x1 (wrap64 (x5 + 1)))
end
def r_Numbers.f (k : Nat) (ae : Int) (ac : List (S39)) (l1 : List Int) : Option (Bool) := if (l1.length : Int) = ae then (r_Numbers.l0 k l1 0) else (some false)
theorem r_Numbers.mono_l : ∀ k, (∀ y0 y1, LeO (r_Numbers.l0 k y0 y1) (r_Numbers.l0 (k + 1) y0 y1)) /\ (∀ y0 y1 y2, LeO (r_Numbers.j1 k y0 y1 y2) (r_Numbers.j1 (k + 1) y0 y1 y2))
 | 0 => ⟨fun _ _ r h => by simp [r_Numbers.l0] at h, fun _ _ _ r h => by simp [r_Numbers.j1] at h⟩
 | k + 1 => by
  obtain ⟨ih0, ih1⟩ := r_Numbers.mono_l k; refine ⟨?_, ?_⟩ <;> intros <;> (first | unfold r_Numbers.l0 | unfold r_Numbers.j1) <;> repeat' first | (with_reducible first | exact ih0 _ _ | exact ih1 _ _ _ | exact LeO.refl _ | exact LeO.none _ | refine LeO.ite ?_ ?_ | refine LeO.bind ?_ (fun _ => ?_))
theorem r_Numbers.mono : ∀ a0 a1 a2 k, LeO (r_Numbers.f k a0 a1 a2) (r_Numbers.f (k + 1) a0 a1 a2) := by
 intro a0 a1 a2 k; obtain ⟨ih0, ih1⟩ := r_Numbers.mono_l k; unfold r_Numbers.f; repeat' first | (with_reducible first | exact ih0 _ _ | exact ih1 _ _ _ | exact LeO.refl _ | exact LeO.none _ | refine LeO.ite ?_ ?_ | refine LeO.bind ?_ (fun _ => ?_))
set_option maxHeartbeats 8000000
set_option maxRecDepth 100000
theorem r_Numbers.calls (k : Nat) (ae : Int) (ag : Option Addr) (af : Nat) (ac : List (S39)) (A1 : Option Addr) (c1 : Nat) (l1 : List Int) (r : Bool) (w : World) (aA : Kd.C k39 w ag ac.length ac) (aC : ac.length <= af) (hr1 : Kd.C (Kd.int .i64) w A1 l1.length l1) (hc1 : l1.length <= c1) (h : r_Numbers.f k ae ac l1 = some r) :
  Calls Try.prog 95 #[.agg #[.int .i64 ae, .slice ag ac.length af], .slice A1 l1.length c1] w fun e w' => e = .returned (.bool r) /\ Below w.heap.size w w' := by
 have ja := Try.underlying24; have ah := Z_ aA; have ai := Z_ aC; clear aA aC; have HR1 := Z_ hr1; have HC1 := Z_ hc1; clear hr1 hc1; have HB := Z_ (Below.refl w.heap.size w); have H : (if (l1.length : Int) = ae then (r_Numbers.l0 k l1 0) else (some false)) = some r := h; clear h; by_cases c3 : (l1.length : Int) = ae
 .rw [if_pos c3] at H
  have Wc : ((l1.length : Int) == ae) = true := beq_iff_eq.mpr c3; have Wb : ((l1.length : Int) != ae) = false := bne_eq_false_iff_eq.mpr c3; clear c3; have H' := Z_ H; clear H; go_enter Try.func95, Try.ntmps95; go_wp2_with (first | ((with_reducible refine gate_dst (N := 2) rfl ?_); refine bX_ 2 #[.int .i64 ae, .slice ag ac.length af] 24 ?_; intro VT hg w4 hbox hb; have OU := Z_ (hbox); have aXR := Z_ ((by rw [hg]; exact (fZ_ hB_) : w.heap.size <= VT)); have aX4 := Z_ ((by rw [hg]; exact (fZ_ hB_) : w.heap.size <= VT)); replace HB := Z_ (fS_ hB_ hb); clear hb hbox hg; obtain ⟨⟨qe, qd⟩, qc, qb⟩ := f2_ OU.out)); go_loopg [5] k (fun kq v5 w' => ∃ (dp : Int), v5 = .int .i64 dp /\ Aside0 (r_Numbers.l0 kq l1 dp = some r) /\ Aside0 (kq <= k) /\ Aside0 (w'.heap[VT]? = some (.cells #[.int .i64 ae, (.slice ag ac.length af)] 24 (0, 0))) /\ Aside0 (Below w.heap.size w w'))
  case atStart => exact ⟨(0), rf_, H', ⟨nR_ _⟩, ⟨bR_ OU.out⟩, ⟨hB_⟩⟩
  case round =>
   clear H'; obtain ⟨dp, rfl, HA, HK1, OU, HB⟩ := hrel
   cases gk with
   | zero => exact absurd HA.out (by simp [r_Numbers.l0])
   | succ k1 =>
    have H := HA.out; clear HA; simp only [r_Numbers.l0] at H; by_cases c6 : dp < (l1.length : Int)
    .rw [if_pos c6] at H
     replace c6 := eT_ c6; have HC7 := Z_ H; clear H; go_upto_region 6 with (fail); go_cut [28] (fun v28 wc => ∃ (kq : Nat) (Mz : Bool), v28 = .bool Mz /\ Aside0 (r_Numbers.j1 kq l1 dp Mz = some r) /\ Aside0 (kq <= k1) /\ Aside0 (wc.heap[VT]? = some (.cells #[.int .i64 ae, (.slice ag ac.length af)] 24 (0, 0))) /\ Aside0 (Below w.heap.size w wc))
     case first =>
      have H := HC7.out; clear HC7; by_cases c8 : 0 <= dp
      .rw [if_pos c8] at H
       replace c8 := eT_ c8; (try rw [c8])
       by_cases c9 : (rd l1 dp) < (-1099511627776)
       .rw [if_pos c9] at H
        replace c9 := eT_ c9; have H' := Z_ H; clear H; have ah4 : 0 <= (dp : Int) := dT_ as_; have ahG : dp < (l1.length : Int) := dT_ as_; obtain ⟨aC5, aIX, Nf⟩ := Kd.at_int HR1.out dp ah4 ahG; cases aIX
        replace Nf := pw_cell_below HB.out Nf; replace ah4 := eq_true ah4; replace ahG := eq_true ahG; go_wp2; go_meet
        case rel => exact ⟨_, (true), rf_, H', ⟨by have := HK1.out; first | omega | exact nR_ _⟩, ⟨bR_ OU.out⟩, ⟨hB_⟩⟩
       rw [if_neg c9] at H; replace c9 := eF_ c9; have H' := Z_ H; clear H; have ah4 : 0 <= (dp : Int) := dT_ as_; have ahG : dp < (l1.length : Int) := dT_ as_; obtain ⟨aC5, aIX, Nf⟩ := Kd.at_int HR1.out dp ah4 ahG; cases aIX
       replace Nf := pw_cell_below HB.out Nf; replace ah4 := eq_true ah4; replace ahG := eq_true ahG; have aGI : 0 <= (dp : Int) := dT_ as_; have aFD : dp < (l1.length : Int) := dT_ as_; obtain ⟨aVy, a7G, ak0⟩ := Kd.at_int HR1.out dp aGI aFD; obtain rfl : aC5 = aVy := (by injection a7G); replace ak0 := pw_cell_below HB.out ak0; replace aGI := eq_true aGI; replace aFD := eq_true aFD; go_wp2; go_meet
       case rel => exact ⟨_, (decide ((rd l1 dp) > 1099511627776)), rf_, H', ⟨by have := HK1.out; first | omega | exact nR_ _⟩, ⟨bR_ OU.out⟩, ⟨hB_⟩⟩
      exact nN_ c8 H
     case rest =>
      clear HC7; obtain ⟨kq, Mz, rfl, HA, HJ6, OU, HB⟩ := hcut
      cases kq with
      | zero => exact absurd HA.out (by simp [r_Numbers.j1])
      | succ kj6 =>
       have H := HA.out; clear HA; simp only [r_Numbers.j1] at H; by_cases c10 : Mz = true
       .subst c10
        rw [if_pos rfl] at H; obtain rfl := oI_ H; go_wp2; go_ret; exact ⟨eW_, hB_⟩
       replace c10 := bE_.mpr c10; subst c10; have H1 : (r_Numbers.l0 kj6 l1 (wrap64 (dp + 1))) = some r := by rw [if_neg (show ¬ (false = true) by decide)] at H; exact H
       clear H; have H := H1; clear H1; have H' := Z_ H; clear H; go_wp2; go_roundg kj6
       case measure => have := HK1.out; have := HJ6.out; omega
       case rel => exact ⟨(wrap64 (dp + 1)), rf_, H', ⟨by have := HK1.out; have := HJ6.out; omega⟩, ⟨bR_ OU.out⟩, ⟨hB_⟩⟩
    rw [if_neg c6] at H; replace c6 := eF_ c6; obtain rfl := oI_ H; go_wp2; go_ret; exact ⟨eW_, hB_⟩
 rw [if_neg c3] at H; have Wc : ((l1.length : Int) == ae) = false := beq_eq_false_iff_ne.mpr c3; have Wb : ((l1.length : Int) != ae) = true := bne_iff_ne.mpr c3; obtain rfl := oI_ H; go_enter Try.func95, Try.ntmps95; go_wp2_with (first | ((with_reducible refine gate_dst (N := 2) rfl ?_); refine bX_ 2 #[.int .i64 ae, .slice ag ac.length af] 24 ?_; intro VT hg w11 hbox hb; have OU := Z_ (hbox); have aXR := Z_ ((by rw [hg]; exact (fZ_ hB_) : w.heap.size <= VT)); have aX4 := Z_ ((by rw [hg]; exact (fZ_ hB_) : w.heap.size <= VT)); replace HB := Z_ (fS_ hB_ hb); clear hb hbox hg; obtain ⟨⟨lS, lR⟩, lO, lN⟩ := f2_ OU.out)); go_ret; exact ⟨eW_, hB_⟩
mutual
def r_Fulfils.j0 : Nat -> List Int -> Bool -> Int -> List (S39) -> Option (Bool)
 | 0, _, _, _, _ => none
 | k + 1, x1, x16, Zo, yV => if x16 = true then (some false) else (r_Fulfils.l0 k x1 0 Zo yV)
def r_Fulfils.l0 : Nat -> List Int -> Int -> Int -> List (S39) -> Option (Bool)
 | 0, _, _, _, _ => none
 | k + 1, x1, x5, Zo, yV => if x5 < (yV.length : Int) then (if 0 <= x5 then (if 0 <= ((rT39 yV x5).f1) then (if ((rT39 yV x5).f1) < (x1.length : Int) then (if 0 <= ((rT39 yV x5).f0) then (if ((rT39 yV x5).f0) < (x1.length : Int) then (if (wrap64 ((rd x1 ((rT39 yV x5).f1)) - (rd x1 ((rT39 yV x5).f0)))) > ((rT39 yV x5).f2) then (some false) else (r_Fulfils.l0 k x1 (wrap64 (x5 + 1)) Zo yV)) else (none)) else (none)) else (none)) else (none)) else (none)) else (some true)
end
def r_Fulfils.f (k : Nat) (ae : Int) (ac : List (S39)) (l1 : List Int) : Option (Bool) := (r_Numbers.f k ae ac l1).bind fun apN => (if apN = true then (if 0 < (l1.length : Int) then (r_Fulfils.j0 k l1 ((rd l1 0) != 0) ae ac) else (none)) else (r_Fulfils.j0 k l1 true ae ac))
theorem r_Fulfils.mono_l : ∀ k, (∀ y0 y1 y2 y3, LeO (r_Fulfils.j0 k y0 y1 y2 y3) (r_Fulfils.j0 (k + 1) y0 y1 y2 y3)) /\ (∀ y0 y1 y2 y3, LeO (r_Fulfils.l0 k y0 y1 y2 y3) (r_Fulfils.l0 (k + 1) y0 y1 y2 y3))
 | 0 => ⟨fun _ _ _ _ r h => by simp [r_Fulfils.j0] at h, fun _ _ _ _ r h => by simp [r_Fulfils.l0] at h⟩
 | k + 1 => by
  obtain ⟨ih0, ih1⟩ := r_Fulfils.mono_l k; refine ⟨?_, ?_⟩ <;> intros <;> (first | unfold r_Fulfils.j0 | unfold r_Fulfils.l0) <;> repeat' first | (with_reducible first | exact ih0 _ _ _ _ | exact ih1 _ _ _ _ | exact r_Numbers.mono _ _ _ _ | exact LeO.refl _ | exact LeO.none _ | refine LeO.ite ?_ ?_ | refine LeO.bind ?_ (fun _ => ?_))
theorem r_Fulfils.mono : ∀ a0 a1 a2 k, LeO (r_Fulfils.f k a0 a1 a2) (r_Fulfils.f (k + 1) a0 a1 a2) := by
 intro a0 a1 a2 k; obtain ⟨ih0, ih1⟩ := r_Fulfils.mono_l k; unfold r_Fulfils.f; repeat' first | (with_reducible first | exact ih0 _ _ _ _ | exact ih1 _ _ _ _ | exact r_Numbers.mono _ _ _ _ | exact LeO.refl _ | exact LeO.none _ | refine LeO.ite ?_ ?_ | refine LeO.bind ?_ (fun _ => ?_))
set_option maxHeartbeats 8000000
set_option maxRecDepth 100000
theorem r_Fulfils.calls (k : Nat) (ae : Int) (ag : Option Addr) (af : Nat) (ac : List (S39)) (A1 : Option Addr) (c1 : Nat) (l1 : List Int) (r : Bool) (w : World) (aA : Kd.C k39 w ag ac.length ac) (aC : ac.length <= af) (hr1 : Kd.C (Kd.int .i64) w A1 l1.length l1) (hc1 : l1.length <= c1) (h : r_Fulfils.f k ae ac l1 = some r) :
  Calls Try.prog 42 #[.agg #[.int .i64 ae, .slice ag ac.length af], .slice A1 l1.length c1] w fun e w' => e = .returned (.bool r) /\ Below w.heap.size w w' := by
 have ja := Try.underlying24; have zm := Try.underlying39; have ah := Z_ aA; have ai := Z_ aC; clear aA aC; have HR1 := Z_ hr1; have HC1 := Z_ hc1; clear hr1 hc1; have HB := Z_ (Below.refl w.heap.size w); have H : ((r_Numbers.f k ae ac l1).bind fun apN => (if apN = true then (if 0 < (l1.length : Int) then (r_Fulfils.j0 k l1 ((rd l1 0) != 0) ae ac) else (none)) else (r_Fulfils.j0 k l1 true ae ac))) = some r := h; clear h; have HC3 := Z_ H; clear H; go_enter Try.func42, Try.ntmps42; go_upto_region 1 with (first | ((with_reducible refine gate_dst (N := 2) rfl ?_); refine bX_ 2 #[.int .i64 ae, .slice ag ac.length af] 24 ?_; intro zD hg w4 hbox hb; have nz := Z_ (hbox); have aDW := Z_ ((by rw [hg]; exact (fZ_ hB_) : w.heap.size <= zD)); have aEf := Z_ ((by rw [hg]; exact (fZ_ hB_) : w.heap.size <= zD)); replace HB := Z_ (fS_ hB_ hb); clear hb hbox hg)); repeat (go_quiet (first | ((with_reducible refine gate_dst (N := 2) rfl ?_); refine bX_ 2 #[.int .i64 ae, .slice ag ac.length af] 24 ?_; intro zD hg w4 hbox hb; have nz := Z_ (hbox); have aDW := Z_ ((by rw [hg]; exact (fZ_ hB_) : w.heap.size <= zD)); have aEf := Z_ ((by rw [hg]; exact (fZ_ hB_) : w.heap.size <= zD)); replace HB := Z_ (fS_ hB_ hb); clear hb hbox hg)); go_upto_region 1 with (first | ((with_reducible refine gate_dst (N := 2) rfl ?_); refine bX_ 2 #[.int .i64 ae, .slice ag ac.length af] 24 ?_; intro zD hg w4 hbox hb; have nz := Z_ (hbox); have aDW := Z_ ((by rw [hg]; exact (fZ_ hB_) : w.heap.size <= zD)); have aEf := Z_ ((by rw [hg]; exact (fZ_ hB_) : w.heap.size <= zD)); replace HB := Z_ (fS_ hB_ hb); clear hb hbox hg)))
 (try simp only [Act.put, sT_, sZ_, sS_])
 go_cut [16] (fun v16 wc => ∃ (kq : Nat) (aj9 : Bool), v16 = .bool aj9 /\ Aside0 (r_Fulfils.j0 kq l1 aj9 ae ac = some r) /\ Aside0 (kq <= k) /\ Aside0 (wc.heap[zD]? = some (.cells #[.int .i64 ae, (.slice ag ac.length af)] 24 (0, 0))) /\ Aside0 (Below w.heap.size w wc))
 case first =>
  have H := HC3.out; clear HC3; obtain ⟨apN, A5, H⟩ := oZ_ H; by_cases c6 : apN = true
  .subst c6
   rw [if_pos rfl] at H; by_cases c7 : 0 < (l1.length : Int)
   .rw [if_pos c7] at H
    have pw : decide (0 < (l1.length : Int)) = true := eT_ c7; have IP : decide (0 < l1.length) = true := eT_ (by omega); clear c7; (try rw [pw])
    have H' := Z_ H; clear H; obtain ⟨⟨AR, AQ⟩, AP, AO⟩ := f2_ nz.out; go_wp2_with (first | (go_at_call 95; (with_reducible refine (r_Numbers.calls k ae _ _ ac _ _ l1 true _ ?side1 ?side2 ?side3 ?side4 A5.out).mono ?_); (case side1 => exact cS_ (cB_ ah.out HB.out)); (case side2 => exact ai.out); (case side3 => exact cS_ (cB_ HR1.out HB.out)); (case side4 => exact HC1.out); rintro e w9 ⟨rfl, hb⟩; replace nz := Z_ (bS_ nz.out hb); replace HB := Z_ (fS_ hB_ hb); (try clear hb); have Uz : 0 <= (0 : Int) := (by omega); have Ug : 0 < (l1.length : Int) := dT_ as_; obtain ⟨aC4, avp, t4⟩ := Kd.at_int HR1.out 0 Uz Ug; cases avp; have aBG : (0 < l1.length) = True := eq_true (by omega); (try rw [show ((0 : Int)).toNat = 0 from rfl] at t4); (try rw [Addr.add_zero'] at t4); replace t4 := pw_cell_below HB.out t4; replace Uz := eq_true Uz; replace Ug := eq_true Ug)); repeat (go_quiet (first | (go_at_call 95; (with_reducible refine (r_Numbers.calls k ae _ _ ac _ _ l1 true _ ?side1 ?side2 ?side3 ?side4 A5.out).mono ?_); (case side1 => exact cS_ (cB_ ah.out HB.out)); (case side2 => exact ai.out); (case side3 => exact cS_ (cB_ HR1.out HB.out)); (case side4 => exact HC1.out); rintro e w9 ⟨rfl, hb⟩; replace nz := Z_ (bS_ nz.out hb); replace HB := Z_ (fS_ hB_ hb); (try clear hb); have Uz : 0 <= (0 : Int) := (by omega); have Ug : 0 < (l1.length : Int) := dT_ as_; obtain ⟨aC4, avp, t4⟩ := Kd.at_int HR1.out 0 Uz Ug; cases avp; have aBG : (0 < l1.length) = True := eq_true (by omega); (try rw [show ((0 : Int)).toNat = 0 from rfl] at t4); (try rw [Addr.add_zero'] at t4); replace t4 := pw_cell_below HB.out t4; replace Uz := eq_true Uz; replace Ug := eq_true Ug)); try go_wp2_with (first | (go_at_call 95; (with_reducible refine (r_Numbers.calls k ae _ _ ac _ _ l1 true _ ?side1 ?side2 ?side3 ?side4 A5.out).mono ?_); (case side1 => exact cS_ (cB_ ah.out HB.out)); (case side2 => exact ai.out); (case side3 => exact cS_ (cB_ HR1.out HB.out)); (case side4 => exact HC1.out); rintro e w9 ⟨rfl, hb⟩; replace nz := Z_ (bS_ nz.out hb); replace HB := Z_ (fS_ hB_ hb); (try clear hb); have Uz : 0 <= (0 : Int) := (by omega); have Ug : 0 < (l1.length : Int) := dT_ as_; obtain ⟨aC4, avp, t4⟩ := Kd.at_int HR1.out 0 Uz Ug; cases avp; have aBG : (0 < l1.length) = True := eq_true (by omega); (try rw [show ((0 : Int)).toNat = 0 from rfl] at t4); (try rw [Addr.add_zero'] at t4); replace t4 := pw_cell_below HB.out t4; replace Uz := eq_true Uz; replace Ug := eq_true Ug)))
    go_meet
    case rel => exact ⟨_, (((rd l1 0) != 0)), rf_, H', ⟨oL_⟩, ⟨bR_ nz.out⟩, ⟨hB_⟩⟩
   exact nN_ c7 H
  replace c6 := bE_.mpr c6; subst c6; have H1 : (r_Fulfils.j0 k l1 true ae ac) = some r := by rw [if_neg (show ¬ (false = true) by decide)] at H; exact H
  clear H; have H := H1; clear H1; have H' := Z_ H; clear H; obtain ⟨⟨gP, gO⟩, gM, gK⟩ := f2_ nz.out; go_wp2_with (first | (go_at_call 95; (with_reducible refine (r_Numbers.calls k ae _ _ ac _ _ l1 false _ ?side1 ?side2 ?side3 ?side4 A5.out).mono ?_); (case side1 => exact cS_ (cB_ ah.out HB.out)); (case side2 => exact ai.out); (case side3 => exact cS_ (cB_ HR1.out HB.out)); (case side4 => exact HC1.out); rintro e w11 ⟨rfl, hb⟩; replace nz := Z_ (bS_ nz.out hb); replace HB := Z_ (fS_ hB_ hb); (try clear hb))); repeat (go_quiet (first | (go_at_call 95; (with_reducible refine (r_Numbers.calls k ae _ _ ac _ _ l1 false _ ?side1 ?side2 ?side3 ?side4 A5.out).mono ?_); (case side1 => exact cS_ (cB_ ah.out HB.out)); (case side2 => exact ai.out); (case side3 => exact cS_ (cB_ HR1.out HB.out)); (case side4 => exact HC1.out); rintro e w11 ⟨rfl, hb⟩; replace nz := Z_ (bS_ nz.out hb); replace HB := Z_ (fS_ hB_ hb); (try clear hb))); try go_wp2_with (first | (go_at_call 95; (with_reducible refine (r_Numbers.calls k ae _ _ ac _ _ l1 false _ ?side1 ?side2 ?side3 ?side4 A5.out).mono ?_); (case side1 => exact cS_ (cB_ ah.out HB.out)); (case side2 => exact ai.out); (case side3 => exact cS_ (cB_ HR1.out HB.out)); (case side4 => exact HC1.out); rintro e w11 ⟨rfl, hb⟩; replace nz := Z_ (bS_ nz.out hb); replace HB := Z_ (fS_ hB_ hb); (try clear hb))))
  go_meet
  case rel => exact ⟨_, (true), rf_, H', ⟨oL_⟩, ⟨bR_ nz.out⟩, ⟨hB_⟩⟩
 case rest =>
  clear HC3; obtain ⟨kq, aj9, rfl, HA, HJ2, nz, HB⟩ := hcut
  cases kq with
  | zero => exact absurd HA.out (by simp [r_Fulfils.j0])
  | succ kj2 =>
   have H := HA.out; clear HA; simp only [r_Fulfils.j0] at H; by_cases c12 : aj9 = true
   .subst c12
    rw [if_pos rfl] at H; obtain rfl := oI_ H; go_wp2; repeat (go_quiet (fail); try go_wp2)
    go_ret; exact ⟨eW_, hB_⟩
   replace c12 := bE_.mpr c12; subst c12; have H1 : (r_Fulfils.l0 kj2 l1 0 ae ac) = some r := by rw [if_neg (show ¬ (false = true) by decide)] at H; exact H
   clear H; have H := H1; clear H1; have H' := Z_ H; clear H; go_wp2; repeat (go_quiet (fail); try go_wp2)
   go_loopg [5] kj2 (fun kq v5 w' => ∃ (cd : Int), v5 = .int .i64 cd /\ Aside0 (r_Fulfils.l0 kq l1 cd ae ac = some r) /\ Aside0 (kq <= kj2) /\ Aside0 (w'.heap[zD]? = some (.cells #[.int .i64 ae, (.slice ag ac.length af)] 24 (0, 0))) /\ Aside0 (Below w.heap.size w w'))
   case atStart => exact ⟨(0), rf_, H', ⟨nR_ _⟩, ⟨bR_ nz.out⟩, ⟨hB_⟩⟩
   case round =>
    clear H'; obtain ⟨cd, rfl, HA, HK2, nz, HB⟩ := hrel
    cases gk with
    | zero => exact absurd HA.out (by simp [r_Fulfils.l0])
    | succ k2 =>
     have H := HA.out; clear HA; simp only [r_Fulfils.l0] at H; by_cases c13 : cd < (ac.length : Int)
     .rw [if_pos c13] at H
      replace c13 := eT_ c13; by_cases c14 : 0 <= cd
      .rw [if_pos c14] at H
       replace c14 := eT_ c14; by_cases c15 : 0 <= ((rT39 ac cd).f1)
       .rw [if_pos c15] at H
        replace c15 := eT_ c15; by_cases c16 : ((rT39 ac cd).f1) < (l1.length : Int)
        .rw [if_pos c16] at H
         replace c16 := eT_ c16; by_cases c17 : 0 <= ((rT39 ac cd).f0)
         .rw [if_pos c17] at H
          replace c17 := eT_ c17; by_cases c18 : ((rT39 ac cd).f0) < (l1.length : Int)
          .rw [if_pos c18] at H
           replace c18 := eT_ c18; have aXM := Z_ H; clear H; obtain ⟨⟨lq, lp⟩, lg, ld⟩ := f2_ nz.out; have aGH : 0 <= (cd : Int) := dT_ as_; have aFC : cd < (ac.length : Int) := dT_ as_; obtain ⟨awq, a7F, akZ, akY, akX⟩ := at_T39 ah.out cd aGH aFC; cases a7F
           replace akZ := pw_cell_below HB.out akZ; replace akY := pw_cell_below HB.out akY; replace akX := pw_cell_below HB.out akX; replace aGH := eq_true aGH; replace aFC := eq_true aFC; go_upto_if 42 with (first | ((with_reducible refine gate_dst (N := 6) rfl ?_); refine bX_ 6 #[.int .i64 0, .int .i64 0, .int .i64 0] 39 ?_; intro fG hg w21 hbox hb; have agN := Z_ (hbox); have yF := Z_ ((by rw [hg]; exact (fZ_ hB_) : w.heap.size <= fG)); have aEe := Z_ ((by rw [hg]; exact (fZ_ hB_) : w.heap.size <= fG)); replace HB := Z_ (fS_ hB_ hb); have GN := Z_ ((nB_ hg nz.out : zD ≠ fG)); have GM := Z_ ((by rw [hg]; exact Nat.ne_of_gt (blk_lt (g := zD) (o := .cells #[.int .i64 ae, .slice (some awq) ac.length af] 24 (0, 0)) (bR_ nz.out)) : fG ≠ zD)); replace nz := Z_ (bS_ nz.out hb); clear hb hbox hg; have Qc := GM.out; have P8 := GN.out; obtain ⟨⟨jL, jK, Tl⟩, jJ, jI, S5⟩ := f3_ agN.out; have Uy : 0 <= (((rT39 ac cd).f1) : Int) := dT_ as_; have Uf : ((rT39 ac cd).f1) < (l1.length : Int) := dT_ as_; obtain ⟨uV, avo, gw⟩ := Kd.at_int HR1.out ((rT39 ac cd).f1) Uy Uf; cases avo; have ud : uV.block ≠ fG := Nat.ne_of_lt (Nat.lt_of_lt_of_le (by have := World.block_lt_of_cell? _ _ gw; first | rwa [add_block] at this | exact this) yF.out); have uc : uV.block ≠ fG := Nat.ne_of_lt (Nat.lt_of_lt_of_le (by have := World.block_lt_of_cell? _ _ gw; first | rwa [add_block] at this | exact this) yF.out); have ub : uV.block ≠ fG := Nat.ne_of_lt (Nat.lt_of_lt_of_le (by have := World.block_lt_of_cell? _ _ gw; first | rwa [add_block] at this | exact this) yF.out); replace gw := pw_cell_below HB.out gw; replace gw := (cell_far (p := ⟨fG, 0, none⟩) (by first | (rw [add_block]; exact ud) | (show (Addr.add _ _).block ≠ _; rw [add_block]; exact ud) | exact ud) (.int .i64 ((rT39 ac cd).f0))).trans gw; replace gw := (cell_far (p := ⟨fG, 1, none⟩) (by first | (rw [add_block]; exact uc) | (show (Addr.add _ _).block ≠ _; rw [add_block]; exact uc) | exact uc) (.int .i64 ((rT39 ac cd).f1))).trans gw; replace gw := (cell_far (p := ⟨fG, 2, none⟩) (by first | (rw [add_block]; exact ub) | (show (Addr.add _ _).block ≠ _; rw [add_block]; exact ub) | exact ub) (.int .i64 ((rT39 ac cd).f2))).trans gw; (try have akB := fun (n_ : Nat) => (show (((((w21.drewN n_).setCell ⟨fG, 0, none⟩ (.int .i64 ((rT39 ac cd).f0))).setCell ⟨fG, 1, none⟩ (.int .i64 ((rT39 ac cd).f1))).setCell ⟨fG, 2, none⟩ (.int .i64 ((rT39 ac cd).f2)))).cell? _ = some _ from gw)); clear ud; clear uc; clear ub; replace Uy := eq_true Uy; replace Uf := eq_true Uf; have Ux : 0 <= (((rT39 ac cd).f0) : Int) := dT_ as_; have Ue : ((rT39 ac cd).f0) < (l1.length : Int) := dT_ as_; obtain ⟨ago, avn, gu⟩ := Kd.at_int HR1.out ((rT39 ac cd).f0) Ux Ue; obtain rfl : uV = ago := (by injection avn); have ua : uV.block ≠ fG := Nat.ne_of_lt (Nat.lt_of_lt_of_le (by have := World.block_lt_of_cell? _ _ gu; first | rwa [add_block] at this | exact this) yF.out); have t9 : uV.block ≠ fG := Nat.ne_of_lt (Nat.lt_of_lt_of_le (by have := World.block_lt_of_cell? _ _ gu; first | rwa [add_block] at this | exact this) yF.out); have t8 : uV.block ≠ fG := Nat.ne_of_lt (Nat.lt_of_lt_of_le (by have := World.block_lt_of_cell? _ _ gu; first | rwa [add_block] at this | exact this) yF.out); replace gu := pw_cell_below HB.out gu; replace gu := (cell_far (p := ⟨fG, 0, none⟩) (by first | (rw [add_block]; exact ua) | (show (Addr.add _ _).block ≠ _; rw [add_block]; exact ua) | exact ua) (.int .i64 ((rT39 ac cd).f0))).trans gu; replace gu := (cell_far (p := ⟨fG, 1, none⟩) (by first | (rw [add_block]; exact t9) | (show (Addr.add _ _).block ≠ _; rw [add_block]; exact t9) | exact t9) (.int .i64 ((rT39 ac cd).f1))).trans gu; replace gu := (cell_far (p := ⟨fG, 2, none⟩) (by first | (rw [add_block]; exact t8) | (show (Addr.add _ _).block ≠ _; rw [add_block]; exact t8) | exact t8) (.int .i64 ((rT39 ac cd).f2))).trans gu; (try have akA := fun (n_ : Nat) => (show (((((w21.drewN n_).setCell ⟨fG, 0, none⟩ (.int .i64 ((rT39 ac cd).f0))).setCell ⟨fG, 1, none⟩ (.int .i64 ((rT39 ac cd).f1))).setCell ⟨fG, 2, none⟩ (.int .i64 ((rT39 ac cd).f2)))).cell? _ = some _ from gu)); clear ua; clear t9; clear t8; replace Ux := eq_true Ux; replace Ue := eq_true Ue)); repeat (go_quiet (first | ((with_reducible refine gate_dst (N := 6) rfl ?_); refine bX_ 6 #[.int .i64 0, .int .i64 0, .int .i64 0] 39 ?_; intro fG hg w21 hbox hb; have agN := Z_ (hbox); have yF := Z_ ((by rw [hg]; exact (fZ_ hB_) : w.heap.size <= fG)); have aEe := Z_ ((by rw [hg]; exact (fZ_ hB_) : w.heap.size <= fG)); replace HB := Z_ (fS_ hB_ hb); have GN := Z_ ((nB_ hg nz.out : zD ≠ fG)); have GM := Z_ ((by rw [hg]; exact Nat.ne_of_gt (blk_lt (g := zD) (o := .cells #[.int .i64 ae, .slice (some awq) ac.length af] 24 (0, 0)) (bR_ nz.out)) : fG ≠ zD)); replace nz := Z_ (bS_ nz.out hb); clear hb hbox hg; have Qc := GM.out; have P8 := GN.out; obtain ⟨⟨jL, jK, Tl⟩, jJ, jI, S5⟩ := f3_ agN.out; have Uy : 0 <= (((rT39 ac cd).f1) : Int) := dT_ as_; have Uf : ((rT39 ac cd).f1) < (l1.length : Int) := dT_ as_; obtain ⟨uV, avo, gw⟩ := Kd.at_int HR1.out ((rT39 ac cd).f1) Uy Uf; cases avo; have ud : uV.block ≠ fG := Nat.ne_of_lt (Nat.lt_of_lt_of_le (by have := World.block_lt_of_cell? _ _ gw; first | rwa [add_block] at this | exact this) yF.out); have uc : uV.block ≠ fG := Nat.ne_of_lt (Nat.lt_of_lt_of_le (by have := World.block_lt_of_cell? _ _ gw; first | rwa [add_block] at this | exact this) yF.out); have ub : uV.block ≠ fG := Nat.ne_of_lt (Nat.lt_of_lt_of_le (by have := World.block_lt_of_cell? _ _ gw; first | rwa [add_block] at this | exact this) yF.out); replace gw := pw_cell_below HB.out gw; replace gw := (cell_far (p := ⟨fG, 0, none⟩) (by first | (rw [add_block]; exact ud) | (show (Addr.add _ _).block ≠ _; rw [add_block]; exact ud) | exact ud) (.int .i64 ((rT39 ac cd).f0))).trans gw; replace gw := (cell_far (p := ⟨fG, 1, none⟩) (by first | (rw [add_block]; exact uc) | (show (Addr.add _ _).block ≠ _; rw [add_block]; exact uc) | exact uc) (.int .i64 ((rT39 ac cd).f1))).trans gw; replace gw := (cell_far (p := ⟨fG, 2, none⟩) (by first | (rw [add_block]; exact ub) | (show (Addr.add _ _).block ≠ _; rw [add_block]; exact ub) | exact ub) (.int .i64 ((rT39 ac cd).f2))).trans gw; (try have akB := fun (n_ : Nat) => (show (((((w21.drewN n_).setCell ⟨fG, 0, none⟩ (.int .i64 ((rT39 ac cd).f0))).setCell ⟨fG, 1, none⟩ (.int .i64 ((rT39 ac cd).f1))).setCell ⟨fG, 2, none⟩ (.int .i64 ((rT39 ac cd).f2)))).cell? _ = some _ from gw)); clear ud; clear uc; clear ub; replace Uy := eq_true Uy; replace Uf := eq_true Uf; have Ux : 0 <= (((rT39 ac cd).f0) : Int) := dT_ as_; have Ue : ((rT39 ac cd).f0) < (l1.length : Int) := dT_ as_; obtain ⟨ago, avn, gu⟩ := Kd.at_int HR1.out ((rT39 ac cd).f0) Ux Ue; obtain rfl : uV = ago := (by injection avn); have ua : uV.block ≠ fG := Nat.ne_of_lt (Nat.lt_of_lt_of_le (by have := World.block_lt_of_cell? _ _ gu; first | rwa [add_block] at this | exact this) yF.out); have t9 : uV.block ≠ fG := Nat.ne_of_lt (Nat.lt_of_lt_of_le (by have := World.block_lt_of_cell? _ _ gu; first | rwa [add_block] at this | exact this) yF.out); have t8 : uV.block ≠ fG := Nat.ne_of_lt (Nat.lt_of_lt_of_le (by have := World.block_lt_of_cell? _ _ gu; first | rwa [add_block] at this | exact this) yF.out); replace gu := pw_cell_below HB.out gu; replace gu := (cell_far (p := ⟨fG, 0, none⟩) (by first | (rw [add_block]; exact ua) | (show (Addr.add _ _).block ≠ _; rw [add_block]; exact ua) | exact ua) (.int .i64 ((rT39 ac cd).f0))).trans gu; replace gu := (cell_far (p := ⟨fG, 1, none⟩) (by first | (rw [add_block]; exact t9) | (show (Addr.add _ _).block ≠ _; rw [add_block]; exact t9) | exact t9) (.int .i64 ((rT39 ac cd).f1))).trans gu; replace gu := (cell_far (p := ⟨fG, 2, none⟩) (by first | (rw [add_block]; exact t8) | (show (Addr.add _ _).block ≠ _; rw [add_block]; exact t8) | exact t8) (.int .i64 ((rT39 ac cd).f2))).trans gu; (try have akA := fun (n_ : Nat) => (show (((((w21.drewN n_).setCell ⟨fG, 0, none⟩ (.int .i64 ((rT39 ac cd).f0))).setCell ⟨fG, 1, none⟩ (.int .i64 ((rT39 ac cd).f1))).setCell ⟨fG, 2, none⟩ (.int .i64 ((rT39 ac cd).f2)))).cell? _ = some _ from gu)); clear ua; clear t9; clear t8; replace Ux := eq_true Ux; replace Ue := eq_true Ue)); go_upto_if 42 with (first | ((with_reducible refine gate_dst (N := 6) rfl ?_); refine bX_ 6 #[.int .i64 0, .int .i64 0, .int .i64 0] 39 ?_; intro fG hg w21 hbox hb; have agN := Z_ (hbox); have yF := Z_ ((by rw [hg]; exact (fZ_ hB_) : w.heap.size <= fG)); have aEe := Z_ ((by rw [hg]; exact (fZ_ hB_) : w.heap.size <= fG)); replace HB := Z_ (fS_ hB_ hb); have GN := Z_ ((nB_ hg nz.out : zD ≠ fG)); have GM := Z_ ((by rw [hg]; exact Nat.ne_of_gt (blk_lt (g := zD) (o := .cells #[.int .i64 ae, .slice (some awq) ac.length af] 24 (0, 0)) (bR_ nz.out)) : fG ≠ zD)); replace nz := Z_ (bS_ nz.out hb); clear hb hbox hg; have Qc := GM.out; have P8 := GN.out; obtain ⟨⟨jL, jK, Tl⟩, jJ, jI, S5⟩ := f3_ agN.out; have Uy : 0 <= (((rT39 ac cd).f1) : Int) := dT_ as_; have Uf : ((rT39 ac cd).f1) < (l1.length : Int) := dT_ as_; obtain ⟨uV, avo, gw⟩ := Kd.at_int HR1.out ((rT39 ac cd).f1) Uy Uf; cases avo; have ud : uV.block ≠ fG := Nat.ne_of_lt (Nat.lt_of_lt_of_le (by have := World.block_lt_of_cell? _ _ gw; first | rwa [add_block] at this | exact this) yF.out); have uc : uV.block ≠ fG := Nat.ne_of_lt (Nat.lt_of_lt_of_le (by have := World.block_lt_of_cell? _ _ gw; first | rwa [add_block] at this | exact this) yF.out); have ub : uV.block ≠ fG := Nat.ne_of_lt (Nat.lt_of_lt_of_le (by have := World.block_lt_of_cell? _ _ gw; first | rwa [add_block] at this | exact this) yF.out); replace gw := pw_cell_below HB.out gw; replace gw := (cell_far (p := ⟨fG, 0, none⟩) (by first | (rw [add_block]; exact ud) | (show (Addr.add _ _).block ≠ _; rw [add_block]; exact ud) | exact ud) (.int .i64 ((rT39 ac cd).f0))).trans gw; replace gw := (cell_far (p := ⟨fG, 1, none⟩) (by first | (rw [add_block]; exact uc) | (show (Addr.add _ _).block ≠ _; rw [add_block]; exact uc) | exact uc) (.int .i64 ((rT39 ac cd).f1))).trans gw; replace gw := (cell_far (p := ⟨fG, 2, none⟩) (by first | (rw [add_block]; exact ub) | (show (Addr.add _ _).block ≠ _; rw [add_block]; exact ub) | exact ub) (.int .i64 ((rT39 ac cd).f2))).trans gw; (try have akB := fun (n_ : Nat) => (show (((((w21.drewN n_).setCell ⟨fG, 0, none⟩ (.int .i64 ((rT39 ac cd).f0))).setCell ⟨fG, 1, none⟩ (.int .i64 ((rT39 ac cd).f1))).setCell ⟨fG, 2, none⟩ (.int .i64 ((rT39 ac cd).f2)))).cell? _ = some _ from gw)); clear ud; clear uc; clear ub; replace Uy := eq_true Uy; replace Uf := eq_true Uf; have Ux : 0 <= (((rT39 ac cd).f0) : Int) := dT_ as_; have Ue : ((rT39 ac cd).f0) < (l1.length : Int) := dT_ as_; obtain ⟨ago, avn, gu⟩ := Kd.at_int HR1.out ((rT39 ac cd).f0) Ux Ue; obtain rfl : uV = ago := (by injection avn); have ua : uV.block ≠ fG := Nat.ne_of_lt (Nat.lt_of_lt_of_le (by have := World.block_lt_of_cell? _ _ gu; first | rwa [add_block] at this | exact this) yF.out); have t9 : uV.block ≠ fG := Nat.ne_of_lt (Nat.lt_of_lt_of_le (by have := World.block_lt_of_cell? _ _ gu; first | rwa [add_block] at this | exact this) yF.out); have t8 : uV.block ≠ fG := Nat.ne_of_lt (Nat.lt_of_lt_of_le (by have := World.block_lt_of_cell? _ _ gu; first | rwa [add_block] at this | exact this) yF.out); replace gu := pw_cell_below HB.out gu; replace gu := (cell_far (p := ⟨fG, 0, none⟩) (by first | (rw [add_block]; exact ua) | (show (Addr.add _ _).block ≠ _; rw [add_block]; exact ua) | exact ua) (.int .i64 ((rT39 ac cd).f0))).trans gu; replace gu := (cell_far (p := ⟨fG, 1, none⟩) (by first | (rw [add_block]; exact t9) | (show (Addr.add _ _).block ≠ _; rw [add_block]; exact t9) | exact t9) (.int .i64 ((rT39 ac cd).f1))).trans gu; replace gu := (cell_far (p := ⟨fG, 2, none⟩) (by first | (rw [add_block]; exact t8) | (show (Addr.add _ _).block ≠ _; rw [add_block]; exact t8) | exact t8) (.int .i64 ((rT39 ac cd).f2))).trans gu; (try have akA := fun (n_ : Nat) => (show (((((w21.drewN n_).setCell ⟨fG, 0, none⟩ (.int .i64 ((rT39 ac cd).f0))).setCell ⟨fG, 1, none⟩ (.int .i64 ((rT39 ac cd).f1))).setCell ⟨fG, 2, none⟩ (.int .i64 ((rT39 ac cd).f2)))).cell? _ = some _ from gu)); clear ua; clear t9; clear t8; replace Ux := eq_true Ux; replace Ue := eq_true Ue)))
           (try simp only [Act.put, sT_, sZ_, sS_])
           have H := aXM.out; clear aXM; by_cases c24 : (wrap64 ((rd l1 ((rT39 ac cd).f1)) - (rd l1 ((rT39 ac cd).f0)))) > ((rT39 ac cd).f2)
           .rw [if_pos c24] at H
            have Er : decide (((rT39 ac cd).f2) < (wrap64 ((rd l1 ((rT39 ac cd).f1)) - (rd l1 ((rT39 ac cd).f0))))) = true := eT_ c24; clear c24; (try rw [Er])
            obtain rfl := oI_ H; go_wp2; repeat (go_quiet (fail); try go_wp2)
            go_ret; exact ⟨eW_, hB_⟩
           rw [if_neg c24] at H; have Er : decide (((rT39 ac cd).f2) < (wrap64 ((rd l1 ((rT39 ac cd).f1)) - (rd l1 ((rT39 ac cd).f0))))) = false := eF_ c24; clear c24; (try rw [Er])
           have H' := Z_ H; clear H; go_wp2; repeat (go_quiet (fail); try go_wp2)
           go_roundg k2
           case measure => have := HJ2.out; have := HK2.out; omega
           case rel => exact ⟨(wrap64 (cd + 1)), rf_, H', ⟨by have := HJ2.out; have := HK2.out; omega⟩, ⟨bQ_ nz.out⟩, ⟨hB_⟩⟩
          exact nN_ c18 H
         exact nN_ c17 H
        exact nN_ c16 H
       exact nN_ c15 H
      exact nN_ c14 H
     rw [if_neg c13] at H; replace c13 := eF_ c13; obtain rfl := oI_ H; obtain ⟨⟨gD, gC⟩, gz, gy⟩ := f2_ nz.out; go_wp2; repeat (go_quiet (fail); try go_wp2)
     go_ret; exact ⟨eW_, hB_⟩
end Go.Proofs.Ytpolojoeabmhdaa.A
/- The reference: Numbers, Fulfils. -/
namespace Go.Proofs.Ytpolojoeabmhdaa.A
open Go.RowKit Go.Proofs.YtpolojoeabmhdaaW.PrintWords Go.Proofs.YtpolojoeabmhdaaW.PrintLast Go.Proofs.YtpolojoeabmhdaaW.PrintMore
theorem rnumbers_l0 (x : List Int) (hl : x.length <= 65536) : ∀ (q : Nat) (i : Int), (q : Int) + i = x.length -> 0 <= i -> (∀ v, 0 <= v -> v < i -> -1099511627776 <= rd x v /\ rd x v <= 1099511627776) ->
  ∃ b, Ev (fun k => r_Numbers.l0 k x i) b /\ (b = true <-> ∀ v, 0 <= v -> v < (x.length : Int) -> -1099511627776 <= rd x v /\ rd x v <= 1099511627776) := by
 intro q
 induction q with
 | zero =>
  intro i hq h0 hb
  exact ⟨true, Ev.step (f := fun _ => some true) (fun k => by rw [r_Numbers.l0, if_neg (by omega)]) (Ev.now _), fun _ v v0 v1 => hb v v0 (by omega), fun _ => rfl⟩
 | succ q ih =>
  intro i hq h0 hb
  have hlt : i < (x.length : Int) := by omega
  have hT : Ev (fun k => r_Numbers.j1 k x i true) false := Ev.step (f := fun _ => some false) (fun k => by rw [r_Numbers.j1]; rfl) (Ev.now _)
  by_cases c1 : rd x i < -1099511627776
  .exact ⟨false, Ev.step (f := fun k => r_Numbers.j1 k x i true) (fun k => by rw [r_Numbers.l0, if_pos hlt, if_pos h0, if_pos c1]) hT, fun h => (by cases h), fun h => by have := h i h0 hlt; omega⟩
  have hin : ∀ {b}, Ev (fun k => r_Numbers.j1 k x i (decide (rd x i > 1099511627776))) b -> Ev (fun k => r_Numbers.l0 k x i) b := fun h =>
   Ev.step (fun k => by rw [r_Numbers.l0, if_pos hlt, if_pos h0, if_neg c1]) h
  by_cases c2 : rd x i > 1099511627776
  .rw [decide_eq_true c2] at hin
   exact ⟨false, hin hT, fun h => (by cases h), fun h => by have := h i h0 hlt; omega⟩
  rw [decide_eq_false c2] at hin
  obtain ⟨b, g1, g2⟩ := ih (i + 1) (by omega) (by omega) (fun v v0 v1 => by
   by_cases e : v = i
   .rw [e]; omega
   .exact hb v v0 (by omega))
  exact ⟨b, hin (Ev.step (f := fun k => r_Numbers.l0 k x (i + 1)) (fun k => by rw [r_Numbers.j1, if_neg (by decide), wrap_id (x := i + 1) (by omega) (by omega)]) g1), g2⟩
theorem rnumbers_ev (n : Int) (hn : n <= 256) (N : List S39) (x : List Int) : ∃ b, Ev (fun k => r_Numbers.f k n N x) b /\ (b = true <-> NumOk n x) := by
 unfold r_Numbers.f
 by_cases c : (x.length : Int) = n
 .obtain ⟨b, g1, g2⟩ := rnumbers_l0 x (by omega) x.length 0 (by omega) (by omega) (fun v a b => by omega)
  exact ⟨b, Ev.pos c g1, fun h => ⟨c, fun v v0 v1 => (g2.1 h) v v0 (by omega)⟩, fun h => g2.2 (fun v v0 v1 => h.b v v0 (by omega))⟩
 .exact ⟨false, Ev.neg c (Ev.now _), fun h => (by cases h), fun h => absurd h.l c⟩
section
variable {n : Nat} {L : List S39}
theorem rful_l0 (hV : Valid n L) {x : List Int} (hx : NumOk n x) (hz : rd x 0 = 0) : ∀ (q : Nat) (i : Int), (q : Int) + i = L.length -> 0 <= i -> (∀ k, 0 <= k -> k < i -> EC n x (rT39 L k)) ->
  ∃ b, Ev (fun k => r_Fulfils.l0 k x i n L) b /\ (b = true <-> Ful n L x) := by
 have hn1 := hV.n1
 have hD := hV.l
 have hl := hx.l
 intro q
 induction q with
 | zero =>
  intro i hq h0 hb
  exact ⟨true, Ev.step (f := fun _ => some true) (fun k => by rw [r_Fulfils.l0, if_neg (by omega)]) (Ev.now _), fun _ => ⟨hl, by omega, hz, hx.b, fun k k0 k1 => hb k k0 (by omega)⟩, fun _ => rfl⟩
 | succ q ih =>
  intro i hq h0 hb
  have hlt : i < (L.length : Int) := by omega
  have he := hV.e i h0 hlt
  have e1 := he.a
  have e2 := he.b
  have e3 := he.c
  have e4 := he.g
  have b0 := hx.b _ e1 e2
  have b1 := hx.b _ e3 e4
  by_cases c : rd x (rT39 L i).f1 - rd x (rT39 L i).f0 > (rT39 L i).f2
  .refine ⟨false, Ev.step (f := fun _ => some false) (fun k => ?_) (Ev.now _), fun h => (by cases h), fun h => by have := (h.e i h0 hlt).2.2.2.2; omega⟩
   rw [r_Fulfils.l0, if_pos hlt, if_pos h0, if_pos e3, if_pos (by omega), if_pos e1, if_pos (by omega), wrap_id (by omega) (by omega), if_pos c]
  .obtain ⟨b, g1, g2⟩ := ih (i + 1) (by omega) (by omega) (fun k k0 k1 => by
    by_cases e : k = i
    .rw [e]; exact ⟨e1, e2, e3, e4, by omega⟩
    .exact hb k k0 (by omega))
   refine ⟨b, Ev.step (fun k => ?_) g1, g2⟩
   rw [r_Fulfils.l0, if_pos hlt, if_pos h0, if_pos e3, if_pos (by omega), if_pos e1, if_pos (by omega), wrap_id (x := _ - _) (by omega) (by omega), if_neg c, wrap_id (x := i + 1) (by omega) (by omega)]
theorem rful_ev (hV : Valid n L) (x : List Int) : ∃ b, Ev (fun k => r_Fulfils.f k n L x) b /\ (b = true <-> Ful n L x) := by
 have hn1 := hV.n1
 have hn2 := hV.n2
 have hT : Ev (fun k => r_Fulfils.j0 k x true n L) false := Ev.step (f := fun _ => some false) (fun k => by rw [r_Fulfils.j0]; rfl) (Ev.now _)
 obtain ⟨p, p1, p2⟩ := rnumbers_ev n (by omega) L x
 unfold r_Fulfils.f
 cases p with
 | false => exact ⟨false, p1.bind (Ev.neg (by decide) hT), fun h => (by cases h), fun h => absurd (p2.2 h.num) (by decide)⟩
 | true =>
  have hx := p2.1 rfl
  have hl := hx.l
  by_cases c : rd x 0 = 0
  .obtain ⟨b, g1, g2⟩ := rful_l0 hV hx c L.length 0 (by omega) (by omega) (fun k a b => by omega)
   refine ⟨b, p1.bind (Ev.pos rfl (Ev.pos (by omega) ?_)), g2⟩
   rw [show (rd x 0 != 0) = false from bne_eq_false_iff_eq.mpr c]
   exact Ev.step (fun k => by rw [r_Fulfils.j0, if_neg (by decide)]) g1
  .refine ⟨false, p1.bind (Ev.pos rfl (Ev.pos (by omega) ?_)), fun h => (by cases h), fun h => absurd h.z c⟩
   rw [show (rd x 0 != 0) = true from bne_iff_ne.mpr c]
   exact hT
end
end Go.Proofs.Ytpolojoeabmhdaa.A
namespace Go.Proofs.Ytpolojoeabmhdaa.A
open Go.RowKit Go.Proofs.YtpolojoeabmhdaaW.PrintWords Go.Proofs.YtpolojoeabmhdaaW.PrintLast Go.Proofs.YtpolojoeabmhdaaW.PrintMore
attribute [local go_sem] max2_int min2_int max_two min_two max_three min_three max_four min_four
def r_Most.f (k : Nat) (ae : Int) (ac : List (S39)) (l1 : List Int) : Option (Int × Bool × Int) := (r_Check.f k ae ac).bind fun X3 => (if X3 = 0 then ((r_Weights.f k ae ac l1).bind fun X2 => (if X2 = true then ((r_Solvable.f k ae ac).bind fun X1 => (if X1 = true then ((r_Flow.f k ae ac l1).bind fun Wo => (if Wo.2 = true then ((r_Cost.f k ae ac Wo.1).bind fun acR => (some (acR, true, 0))) else (some (0, false, 0)))) else (some (0, false, 41)))) else (some (0, false, 1)))) else (some (0, false, 40)))
theorem r_Most.mono : ∀ a0 a1 a2 k, LeO (r_Most.f k a0 a1 a2) (r_Most.f (k + 1) a0 a1 a2) := by
 intro a0 a1 a2 k; unfold r_Most.f; repeat' first | (with_reducible first | exact r_Check.mono _ _ _ | exact r_Cost.mono _ _ _ _ | exact r_Flow.mono _ _ _ _ | exact r_Solvable.mono _ _ _ | exact r_Weights.mono _ _ _ _ | exact LeO.refl _ | exact LeO.none _ | refine LeO.ite ?_ ?_ | refine LeO.bind ?_ (fun _ => ?_))
set_option maxHeartbeats 8000000
set_option maxRecDepth 100000
theorem r_Most.calls (k : Nat) (ae : Int) (ag : Option Addr) (af : Nat) (ac : List (S39)) (A1 : Option Addr) (c1 : Nat) (l1 : List Int) (r1 : Int) (r2 : Bool) (r3 : Int) (w : World) (aA : Kd.C k39 w ag ac.length ac) (aC : ac.length <= af) (hr1 : Kd.C (Kd.int .i64) w A1 l1.length l1) (hc1 : l1.length <= c1) (h : r_Most.f k ae ac l1 = some (r1, r2, r3)) :
  Calls Try.prog 51 #[.agg #[.int .i64 ae, .slice ag ac.length af], .slice A1 l1.length c1] w fun e w' => e = .returned (.tuple #[.int .i64 r1, .bool r2, .int .i64 r3]) /\ Below w.heap.size w w' := by
 have ja := Try.underlying24; have ah := Z_ aA; have ai := Z_ aC; clear aA aC; have HR1 := Z_ hr1; have HC1 := Z_ hc1; clear hr1 hc1; have HB := Z_ (Below.refl w.heap.size w); have H : ((r_Check.f k ae ac).bind fun X3 => (if X3 = 0 then ((r_Weights.f k ae ac l1).bind fun X2 => (if X2 = true then ((r_Solvable.f k ae ac).bind fun X1 => (if X1 = true then ((r_Flow.f k ae ac l1).bind fun Wo => (if Wo.2 = true then ((r_Cost.f k ae ac Wo.1).bind fun acR => (some (acR, true, 0))) else (some (0, false, 0)))) else (some (0, false, 41)))) else (some (0, false, 1)))) else (some (0, false, 40)))) = some (r1, r2, r3) := h; clear h; obtain ⟨X3, A3, H⟩ := oZ_ H; have HF4 := Z_ H; clear H; go_enter Try.func51, Try.ntmps51; go_upto_if 11 with (first | ((with_reducible refine gate_dst (N := 2) rfl ?_); refine bX_ 2 #[.int .i64 ae, .slice ag ac.length af] 24 ?_; intro au3 hg w5 hbox hb; have xZ := Z_ (hbox); have a9v := Z_ ((by rw [hg]; exact (fZ_ hB_) : w.heap.size <= au3)); have a9Q := Z_ ((by rw [hg]; exact (fZ_ hB_) : w.heap.size <= au3)); replace HB := Z_ (fS_ hB_ hb); clear hb hbox hg; obtain ⟨⟨rV, rU⟩, rT, rS⟩ := f2_ xZ.out) | ((with_reducible refine gate_callee (f := 22) rfl ?_); refine gL_ (some 10) Try.func22 #[.agg #[.int .i64 ae, .slice ag ac.length af]] ?_; (with_reducible refine (r_Check.calls k ae _ _ ac X3 _ ?side1 ?side2 A3.out).mono ?_); (case side1 => exact cS_ (cB_ ah.out HB.out)); (case side2 => exact ai.out); rintro e w7 ⟨rfl, hb⟩; refine ⟨_, rfl, ?_⟩; replace xZ := Z_ (bS_ xZ.out hb); replace HB := Z_ (fS_ hB_ hb); (try clear hb))); (try simp only [Act.put, sT_, sZ_, sS_])
 have H := HF4.out; clear HF4; by_cases c8 : X3 = 0
 .rw [if_pos c8] at H
  obtain ⟨oK, xr⟩ := be_ c8; clear c8; (try rw [oK])
  obtain ⟨X2, A9, H⟩ := oZ_ H; have GU := Z_ H; clear H; obtain ⟨⟨ls, lr⟩, ln, ll⟩ := f2_ xZ.out; go_upto_if 15 with (first | ((with_reducible refine gate_callee (f := 101) rfl ?_); refine gL_ (some 14) Try.func101 #[.agg #[.int .i64 ae, .slice ag ac.length af], .slice A1 l1.length c1] ?_; (with_reducible refine (r_Weights.calls k ae _ _ ac _ _ l1 X2 _ ?side1 ?side2 ?side3 ?side4 A9.out).mono ?_); (case side1 => exact cS_ (cB_ ah.out HB.out)); (case side2 => exact ai.out); (case side3 => exact cS_ (cB_ HR1.out HB.out)); (case side4 => exact HC1.out); rintro e w12 ⟨rfl, hb⟩; refine ⟨_, rfl, ?_⟩; replace xZ := Z_ (bS_ xZ.out hb); replace HB := Z_ (fS_ hB_ hb); (try clear hb))); (try simp only [Act.put, sT_, sZ_, sS_])
  have H := GU.out; clear GU; by_cases c13 : X2 = true
  .subst c13
   rw [if_pos rfl] at H; obtain ⟨X1, A14, H⟩ := oZ_ H; have WI := Z_ H; clear H; obtain ⟨⟨gG, gE⟩, gB, gA⟩ := f2_ xZ.out; go_upto_if 18 with (first | ((with_reducible refine gate_callee (f := 41) rfl ?_); refine gL_ (some 17) Try.func41 #[.agg #[.int .i64 ae, .slice ag ac.length af]] ?_; (with_reducible refine (r_Solvable.calls k ae _ _ ac X1 _ ?side1 ?side2 A14.out).mono ?_); (case side1 => exact cS_ (cB_ ah.out HB.out)); (case side2 => exact ai.out); rintro e w17 ⟨rfl, hb⟩; refine ⟨_, rfl, ?_⟩; replace xZ := Z_ (bS_ xZ.out hb); replace HB := Z_ (fS_ hB_ hb); (try clear hb))); (try simp only [Act.put, sT_, sZ_, sS_])
   have H := WI.out; clear WI; by_cases c18 : X1 = true
   .subst c18
    rw [if_pos rfl] at H; replace H := oS_.mp H; obtain ⟨⟨ap5, aBF⟩, G1, H⟩ := H; have A19 := Z_ G1; clear G1; have agK := Z_ H; clear H; obtain ⟨⟨hJ, g8⟩, g7, gZ⟩ := f2_ xZ.out; go_upto_if 26 with (first | ((with_reducible refine gate_callee (f := 103) rfl ?_); refine gL_ (some 22) Try.func103 #[.agg #[.int .i64 ae, .slice ag ac.length af], .slice A1 l1.length c1] ?_; (with_reducible refine (r_Flow.calls k ae _ _ ac _ _ l1 ap5 aBF _ ?side1 ?side2 ?side3 ?side4 A19.out).mono ?_); (case side1 => exact cS_ (cB_ ah.out HB.out)); (case side2 => exact ai.out); (case side3 => exact cS_ (cB_ HR1.out HB.out)); (case side4 => exact HC1.out); rintro e w22 ⟨bau, rfl, ho0, hb⟩; refine ⟨_, rfl, ?_⟩; have WF := Z_ (rL_ ho0 (fZ_ hB_)); replace xZ := Z_ (bS_ xZ.out hb); replace HB := Z_ (fS_ hB_ hb); (try clear hb); (try clear ho0))); (try simp only [Act.put, sT_, sZ_, sS_])
    have H := agK.out; clear agK; by_cases c23 : aBF = true
    .subst c23
     rw [if_pos rfl] at H; obtain ⟨acR, A24, H⟩ := oZ_ H; simp only [oJ_, pI_] at H; obtain ⟨rfl, rfl, rfl⟩ := H; obtain ⟨⟨gD, gC⟩, gz, gy⟩ := f2_ xZ.out; obtain ⟨CH, Ac, aIN⟩ := rS_ WF.out; subst aIN; go_wp2_with (first | ((with_reducible refine gate_callee (f := 102) rfl ?_); refine gL_ (some 29) Try.func102 #[.agg #[.int .i64 ae, .slice ag ac.length af], .slice CH ap5.length Ac] ?_; (with_reducible refine (r_Cost.calls k ae _ _ ac _ _ ap5 acR _ ?side1 ?side2 ?side3 ?side4 A24.out).mono ?_); (case side1 => exact cS_ (cB_ ah.out HB.out)); (case side2 => exact ai.out); (case side3 => exact cS_ (rR_ WF.out).2.2); (case side4 => exact (rR_ WF.out).2.1); rintro e w27 ⟨rfl, hb⟩; refine ⟨_, rfl, ?_⟩; replace WF := Z_ (rB_ (rK_ WF.out) hb); replace xZ := Z_ (bS_ xZ.out hb); replace HB := Z_ (fS_ hB_ hb); (try clear hb))); go_ret3; exact ⟨eW_, hB_⟩
    replace c23 := bE_.mpr c23; subst c23; have H1 : (some (0, false, 0)) = some (r1, r2, r3) := by rw [if_neg (show ¬ (false = true) by decide)] at H; exact H
    clear H; have H := H1; clear H1; simp only [oJ_, pI_] at H; obtain ⟨rfl, rfl, rfl⟩ := H; go_wp2; go_ret3; exact ⟨eW_, hB_⟩
   replace c18 := bE_.mpr c18; subst c18; have H1 : (some (0, false, 41)) = some (r1, r2, r3) := by rw [if_neg (show ¬ (false = true) by decide)] at H; exact H
   clear H; have H := H1; clear H1; simp only [oJ_, pI_] at H; obtain ⟨rfl, rfl, rfl⟩ := H; go_wp2; go_ret3; exact ⟨eW_, hB_⟩
  replace c13 := bE_.mpr c13; subst c13; have H1 : (some (0, false, 1)) = some (r1, r2, r3) := by rw [if_neg (show ¬ (false = true) by decide)] at H; exact H
  clear H; have H := H1; clear H1; simp only [oJ_, pI_] at H; obtain ⟨rfl, rfl, rfl⟩ := H; go_wp2; go_ret3; exact ⟨eW_, hB_⟩
 rw [if_neg c8] at H; obtain ⟨oK, xr⟩ := bn_ c8; (try rw [oK])
 simp only [oJ_, pI_] at H; obtain ⟨rfl, rfl, rfl⟩ := H; go_wp2; go_ret3; exact ⟨eW_, hB_⟩
def w_small.f (ae : Int) (ac : List (S39)) : Option (Bool) := if ae <= 16 then (some (decide ((ac.length : Int) <= 60))) else (some false)
theorem w_small.calls (ae : Int) (ag : Option Addr) (af : Nat) (ac : List (S39)) (r : Bool) (w : World) (aA : Kd.C k39 w ag ac.length ac) (aC : ac.length <= af) (h : w_small.f ae ac = some r) :
  Calls Try.prog 23 #[.agg #[.int .i64 ae, .slice ag ac.length af]] w fun e w' => e = .returned (.bool r) /\ Below w.heap.size w w' := by
 have ja := Try.underlying24; have ah := Z_ aA; have ai := Z_ aC; clear aA aC; have HB := Z_ (Below.refl w.heap.size w); have H : (if ae <= 16 then (some (decide ((ac.length : Int) <= 60))) else (some false)) = some r := h; clear h; by_cases c2 : ae <= 16
 .rw [if_pos c2] at H
  replace c2 := eT_ c2; obtain rfl := oI_ H; go_enter Try.func23, Try.ntmps23; go_wp2_with (first | ((with_reducible refine gate_dst (N := 1) rfl ?_); (try (refine gate_guard (by rfl) ?_; dsimp only)); refine bX_ 1 #[.int .i64 ae, .slice ag ac.length af] 24 ?_; intro afC hg w3 hbox hb; have axx := Z_ (hbox); have aXU := Z_ ((by rw [hg]; exact (fZ_ hB_) : w.heap.size <= afC)); have aX6 := Z_ ((by rw [hg]; exact (fZ_ hB_) : w.heap.size <= afC)); replace HB := Z_ (fS_ hB_ hb); clear hb hbox hg; obtain ⟨⟨abq, abp⟩, aa6, aa5⟩ := f2_ axx.out)); go_ret; exact ⟨eW_, hB_⟩
 rw [if_neg c2] at H; replace c2 := eF_ c2; obtain rfl := oI_ H; go_enter Try.func23, Try.ntmps23; go_wp2_with (first | ((with_reducible refine gate_dst (N := 1) rfl ?_); (try (refine gate_guard (by rfl) ?_; dsimp only)); refine bX_ 1 #[.int .i64 ae, .slice ag ac.length af] 24 ?_; intro afC hg w5 hbox hb; have axx := Z_ (hbox); have aXU := Z_ ((by rw [hg]; exact (fZ_ hB_) : w.heap.size <= afC)); have aX6 := Z_ ((by rw [hg]; exact (fZ_ hB_) : w.heap.size <= afC)); replace HB := Z_ (fS_ hB_ hb); clear hb hbox hg; obtain ⟨⟨rV, rU⟩, rT, rS⟩ := f2_ axx.out)); go_ret; exact ⟨eW_, hB_⟩
mutual
def w_DiffsMostSpec.j0 : Nat -> List Int -> Int -> List Int -> Bool -> Int -> List (S39) -> Option (Bool)
 | 0, _, _, _, _, _, _ => none
 | k + 1, x1, x2, x3, x30, oT, oS => if x30 = true then (some true) else ((d_CheckFlow.f k oT oS x1 x2 x3).bind fun XZ => ((r_CheckFlow.f k oT oS x1 x2 x3).bind fun XY => (if XZ = XY then ((d_Most.f k oT oS x1).bind fun Md => ((r_Most.f k oT oS x1).bind fun iv => ((d_Best.f k oT oS x1).bind fun sZ => ((d_Flow.f k oT oS x1).bind fun sY => (if Md.1 = iv.1 then (if (Md.2.1 != iv.2.1) = true then (w_DiffsMostSpec.j1 k x1 iv.1 iv.2.1 sZ.1 sY.1 true oT oS) else (if Md.2.2 = iv.2.2 then (if (sZ.2.1 != iv.2.1) = true then (w_DiffsMostSpec.j1 k x1 iv.1 iv.2.1 sZ.1 sY.1 true oT oS) else (if sZ.2.2 = iv.2.2 then (if (sY.2.1 != iv.2.1) = true then (w_DiffsMostSpec.j1 k x1 iv.1 iv.2.1 sZ.1 sY.1 true oT oS) else (w_DiffsMostSpec.j1 k x1 iv.1 iv.2.1 sZ.1 sY.1 (sY.2.2 != iv.2.2) oT oS)) else (w_DiffsMostSpec.j1 k x1 iv.1 iv.2.1 sZ.1 sY.1 true oT oS))) else (w_DiffsMostSpec.j1 k x1 iv.1 iv.2.1 sZ.1 sY.1 true oT oS))) else (w_DiffsMostSpec.j1 k x1 iv.1 iv.2.1 sZ.1 sY.1 true oT oS)))))) else (some false))))
def w_DiffsMostSpec.j1 : Nat -> List Int -> Int -> Bool -> List Int -> List Int -> Bool -> Int -> List (S39) -> Option (Bool)
 | 0, _, _, _, _, _, _, _, _ => none
 | k + 1, x1, x12, x13, x15, x18, a2y, oT, oS => if a2y = true then (some false) else (if x13 = true then ((r_Fulfils.f k oT oS x15).bind fun acQ => (if acQ = true then ((r_Sum.f k x1 x15).bind fun TY => (if TY = x12 then ((r_CheckFlow.f k oT oS x1 x12 x18).bind fun acP => (some (acP == 0))) else (some false))) else (some false))) else (if (x15.length : Int) = 0 then (some ((x18.length : Int) == 0)) else (some false)))
end
def w_DiffsMostSpec.f (k : Nat) (ae : Int) (ac : List (S39)) (l1 : List Int) (a2 : Int) (l3 : List Int) : Option (Bool) := (w_sane.f).bind fun X0 => (if X0 = true then ((r_Check.f k ae ac).bind fun T4 => (if T4 = 0 then ((w_small.f ae ac).bind fun ap4 => (w_DiffsMostSpec.j0 k l1 a2 l3 (!t1077) ae ac)) else (w_DiffsMostSpec.j0 k l1 a2 l3 false ae ac))) else (some false))
theorem w_DiffsMostSpec.mono_l : ∀ k, (∀ y0 y1 y2 y3 y4 y5, LeO (w_DiffsMostSpec.j0 k y0 y1 y2 y3 y4 y5) (w_DiffsMostSpec.j0 (k + 1) y0 y1 y2 y3 y4 y5)) /\ (∀ y0 y1 y2 y3 y4 y5 y6 y7, LeO (w_DiffsMostSpec.j1 k y0 y1 y2 y3 y4 y5 y6 y7) (w_DiffsMostSpec.j1 (k + 1) y0 y1 y2 y3 y4 y5 y6 y7))
 | 0 => ⟨fun _ _ _ _ _ _ r h => by simp [w_DiffsMostSpec.j0] at h, fun _ _ _ _ _ _ _ _ r h => by simp [w_DiffsMostSpec.j1] at h⟩
 | k + 1 => by
  obtain ⟨ih0, ih1⟩ := w_DiffsMostSpec.mono_l k; refine ⟨?_, ?_⟩ <;> intros <;> (first | unfold w_DiffsMostSpec.j0 | unfold w_DiffsMostSpec.j1) <;> repeat' first | (with_reducible first | exact ih0 _ _ _ _ _ _ | exact ih1 _ _ _ _ _ _ _ _ | exact d_Best.mono _ _ _ _ | exact d_CheckFlow.mono _ _ _ _ _ _ | exact d_Flow.mono _ _ _ _ | exact d_Most.mono _ _ _ _ | exact r_Check.mono _ _ _ | exact r_CheckFlow.mono _ _ _ _ _ _ | exact r_Fulfils.mono _ _ _ _ | exact r_Most.mono _ _ _ _ | exact r_Sum.mono _ _ _ | exact LeO.refl _ | exact LeO.none _ | refine LeO.ite ?_ ?_ | refine LeO.bind ?_ (fun _ => ?_))
theorem w_DiffsMostSpec.mono : ∀ a0 a1 a2 a3 a4 k, LeO (w_DiffsMostSpec.f k a0 a1 a2 a3 a4) (w_DiffsMostSpec.f (k + 1) a0 a1 a2 a3 a4) := by
 intro a0 a1 a2 a3 a4 k; obtain ⟨ih0, ih1⟩ := w_DiffsMostSpec.mono_l k; unfold w_DiffsMostSpec.f; repeat' first | (with_reducible first | exact ih0 _ _ _ _ _ _ | exact ih1 _ _ _ _ _ _ _ _ | exact d_Best.mono _ _ _ _ | exact d_CheckFlow.mono _ _ _ _ _ _ | exact d_Flow.mono _ _ _ _ | exact d_Most.mono _ _ _ _ | exact r_Check.mono _ _ _ | exact r_CheckFlow.mono _ _ _ _ _ _ | exact r_Fulfils.mono _ _ _ _ | exact r_Most.mono _ _ _ _ | exact r_Sum.mono _ _ _ | exact LeO.refl _ | exact LeO.none _ | refine LeO.ite ?_ ?_ | refine LeO.bind ?_ (fun _ => ?_))
def w_DiffsMostSpec.T5 : Bool × List (List Nat × List Nat) := (true, [([], []), ([], []), ([], []), ([], []), ([0, 1, 2, 3], [0, 1, 2, 3]), ([], []), ([], []), ([], []), ([], []), ([5, 6, 7, 8, 4], [5, 6, 7, 8]), ([4, 9], [4, 9])])
def w_DiffsMostSpec.B5 : List Nat := [0, 0, 0, 0, 15, 0, 0, 0, 0, 511, 1023]
theorem w_DiffsMostSpec.tab5 : rtab .any (opsOf Try.f13 5) = w_DiffsMostSpec.T5 := by kernel_rfl
theorem w_DiffsMostSpec.bits5 : waitsOk w_DiffsMostSpec.T5.2 w_DiffsMostSpec.B5 = true := by kernel_rfl
set_option maxHeartbeats 8000000
set_option maxRecDepth 100000
theorem w_DiffsMostSpec.calls (k : Nat) (ae : Int) (ag : Option Addr) (af : Nat) (ac : List (S39)) (A1 : Option Addr) (c1 : Nat) (l1 : List Int) (a2 : Int) (A3 : Option Addr) (c3 : Nat) (l3 : List Int) (r : Bool) (w : World) (aA : Kd.C k39 w ag ac.length ac) (aC : ac.length <= af) (hr1 : Kd.C (Kd.int .i64) w A1 l1.length l1) (hc1 : l1.length <= c1) (hr3 : Kd.C (Kd.int .i64) w A3 l3.length l3) (hc3 : l3.length <= c3) (h : w_DiffsMostSpec.f k ae ac l1 a2 l3 = some r) :
  Calls Try.prog 13 #[.agg #[.int .i64 ae, .slice ag ac.length af], .slice A1 l1.length c1, .int .i64 a2, .slice A3 l3.length c3] w fun e w' => e = .returned (.bool r) /\ Below w.heap.size w w' := by
 have ja := Try.underlying24; have ah := Z_ aA; have ai := Z_ aC; clear aA aC; have HR1 := Z_ hr1; have HC1 := Z_ hc1; clear hr1 hc1; have HR3 := Z_ hr3; have HC3 := Z_ hc3; clear hr3 hc3; have HB := Z_ (Below.refl w.heap.size w); have H : ((w_sane.f).bind fun X0 => (if X0 = true then ((r_Check.f k ae ac).bind fun T4 => (if T4 = 0 then ((w_small.f ae ac).bind fun ap4 => (w_DiffsMostSpec.j0 k l1 a2 l3 (!t1077) ae ac)) else (w_DiffsMostSpec.j0 k l1 a2 l3 false ae ac))) else (some false))) = some r := h; clear h; obtain ⟨X0, A5, H⟩ := oZ_ H; have HF6 := Z_ H; clear H; go_enter Try.func13, Try.ntmps13; go_upto_if 22 with (first | ((with_reducible refine gate_dst (N := 4) rfl ?_); (try (refine gate_guard (by rfl) ?_; dsimp only)); refine bX_ 4 #[.int .i64 ae, .slice ag ac.length af] 24 ?_; intro Pf hg w7 hbox hb; have eL := Z_ (hbox); have a9u := Z_ ((by rw [hg]; exact (fZ_ hB_) : w.heap.size <= Pf)); have a9P := Z_ ((by rw [hg]; exact (fZ_ hB_) : w.heap.size <= Pf)); replace HB := Z_ (fS_ hB_ hb); clear hb hbox hg) | ((with_reducible refine gate_callee (f := 21) rfl ?_); refine gL_ (some 21) Try.func21 #[] ?_; (with_reducible refine (w_sane.calls  X0 _ A5.out).mono ?_); rintro e w8 ⟨rfl, hb⟩; refine ⟨_, rfl, ?_⟩; replace eL := Z_ (bS_ eL.out hb); replace HB := Z_ (fS_ hB_ hb); (try clear hb))); (try simp only [Act.put, sT_, sZ_, sS_])
 have H := HF6.out; clear HF6; by_cases c9 : X0 = true
 .subst c9
  rw [if_pos rfl] at H; have H9 := Z_ H; clear H; go_upto_region 3 with (fail); go_cut [30] (fun v30 wc => ∃ (kq : Nat) (ajV : Bool), v30 = .bool ajV /\ Aside0 (w_DiffsMostSpec.j0 kq l1 a2 l3 ajV ae ac = some r) /\ Aside0 (kq <= k) /\ Aside0 (wc.heap[Pf]? = some (.cells #[.int .i64 ae, (.slice ag ac.length af)] 24 (0, 0))) /\ Aside0 (Below w.heap.size w wc))
  case first =>
   have H := H9.out; clear H9; obtain ⟨T4, A11, H⟩ := oZ_ H; by_cases c12 : T4 = 0
   .rw [if_pos c12] at H
    obtain ⟨gh, pX⟩ := be_ c12; clear c12; (try rw [gh])
    obtain ⟨ap4, A13, H⟩ := oZ_ H; have H' := Z_ H; clear H; obtain ⟨⟨lQ, lP⟩, lM, lL⟩ := f2_ eL.out; go_wp2_with (first | ((with_reducible refine gate_callee (f := 22) rfl ?_); refine gL_ (some 24) Try.func22 #[.agg #[.int .i64 ae, .slice ag ac.length af]] ?_; (with_reducible refine (r_Check.calls k ae _ _ ac T4 _ ?side1 ?side2 A11.out).mono ?_); (case side1 => exact cS_ (cB_ ah.out HB.out)); (case side2 => exact ai.out); rintro e w15 ⟨rfl, hb⟩; refine ⟨_, rfl, ?_⟩; replace eL := Z_ (bS_ eL.out hb); replace HB := Z_ (fS_ hB_ hb); (try clear hb); obtain ⟨⟨gG, gE⟩, gB, gA⟩ := f2_ eL.out) | (go_at_call 23; (with_reducible refine (w_small.calls ae _ _ ac ap4 _ ?side1 ?side2 A13.out).mono ?_); (case side1 => exact cS_ (cB_ ah.out HB.out)); (case side2 => exact ai.out); rintro e w17 ⟨rfl, hb⟩; replace eL := Z_ (bS_ eL.out hb); replace HB := Z_ (fS_ hB_ hb); (try clear hb))); go_meet
    case rel => exact ⟨_, (!t1077), rf_, H', ⟨oL_⟩, ⟨bR_ eL.out⟩, ⟨hB_⟩⟩
   rw [if_neg c12] at H; obtain ⟨gh, pX⟩ := bn_ c12; (try rw [gh])
   have H' := Z_ H; clear H; obtain ⟨⟨kw, kv⟩, kr, kp⟩ := f2_ eL.out; go_wp2_with (first | ((with_reducible refine gate_callee (f := 22) rfl ?_); refine gL_ (some 24) Try.func22 #[.agg #[.int .i64 ae, .slice ag ac.length af]] ?_; (with_reducible refine (r_Check.calls k ae _ _ ac T4 _ ?side1 ?side2 A11.out).mono ?_); (case side1 => exact cS_ (cB_ ah.out HB.out)); (case side2 => exact ai.out); rintro e w19 ⟨rfl, hb⟩; refine ⟨_, rfl, ?_⟩; replace eL := Z_ (bS_ eL.out hb); replace HB := Z_ (fS_ hB_ hb); (try clear hb))); go_meet
   case rel => exact ⟨_, (false), rf_, H', ⟨oL_⟩, ⟨bR_ eL.out⟩, ⟨hB_⟩⟩
  case rest =>
   clear H9; obtain ⟨kq, ajV, rfl, HA, HJ9, eL, HB⟩ := hcut
   cases kq with
   | zero => exact absurd HA.out (by simp [w_DiffsMostSpec.j0])
   | succ kj9 =>
    have H := HA.out; clear HA; simp only [w_DiffsMostSpec.j0] at H; by_cases c20 : ajV = true
    .subst c20
     rw [if_pos rfl] at H; obtain rfl := oI_ H; go_wp2; go_ret; exact ⟨eW_, hB_⟩
    replace c20 := bE_.mpr c20; subst c20; have H1 : ((d_CheckFlow.f kj9 ae ac l1 a2 l3).bind fun XZ => ((r_CheckFlow.f kj9 ae ac l1 a2 l3).bind fun XY => (if XZ = XY then ((d_Most.f kj9 ae ac l1).bind fun Md => ((r_Most.f kj9 ae ac l1).bind fun iv => ((d_Best.f kj9 ae ac l1).bind fun sZ => ((d_Flow.f kj9 ae ac l1).bind fun sY => (if Md.1 = iv.1 then (if (Md.2.1 != iv.2.1) = true then (w_DiffsMostSpec.j1 kj9 l1 iv.1 iv.2.1 sZ.1 sY.1 true ae ac) else (if Md.2.2 = iv.2.2 then (if (sZ.2.1 != iv.2.1) = true then (w_DiffsMostSpec.j1 kj9 l1 iv.1 iv.2.1 sZ.1 sY.1 true ae ac) else (if sZ.2.2 = iv.2.2 then (if (sY.2.1 != iv.2.1) = true then (w_DiffsMostSpec.j1 kj9 l1 iv.1 iv.2.1 sZ.1 sY.1 true ae ac) else (w_DiffsMostSpec.j1 kj9 l1 iv.1 iv.2.1 sZ.1 sY.1 (sY.2.2 != iv.2.2) ae ac)) else (w_DiffsMostSpec.j1 kj9 l1 iv.1 iv.2.1 sZ.1 sY.1 true ae ac))) else (w_DiffsMostSpec.j1 kj9 l1 iv.1 iv.2.1 sZ.1 sY.1 true ae ac))) else (w_DiffsMostSpec.j1 kj9 l1 iv.1 iv.2.1 sZ.1 sY.1 true ae ac)))))) else (some false)))) = some r := by rw [if_neg (show ¬ (false = true) by decide)] at H; exact H
    clear H; have H := H1; clear H1; obtain ⟨XZ, A21, H⟩ := oZ_ H; obtain ⟨XY, A22, H⟩ := oZ_ H; have axd := Z_ H; clear H; try go_wp2
    replace eL := Z_ (bD_ eL.out); replace HB := Z_ (fD_ HB.out); refine start_ (n := 11) (S := fun w' => w'.cell? ⟨Pf, 0, none⟩ = some (.int .i64 ae) /\ w'.cell? ⟨Pf, 1, none⟩ = some (.slice ag ac.length af)) (ds := []) _ (by kernel_rfl) rfl rfl ⟨(bC_ eL.out 0).trans rfl, (bC_ eL.out 1).trans rfl⟩ (fun hHeld => ?_); refine with_tabW w_DiffsMostSpec.tab5 w_DiffsMostSpec.bits5 (fun HT_ HW_ => ?_); generalize wc.drew = w24 at eL HB hHeld ⊢; refine pP_ 1 32 ?_; refine pP_ 2 33 ?_; refine pP_ 3 34 ?_; refine pP_ 6 37 ?_; refine pP_ 7 38 ?_; refine pP_ 8 39 ?_; refine pT_ 0 31 ?_; refine pT_ 5 36 ?_; refine oN_ 4 (some 35) (fun K hK => ?_); refine gO_ Try.func49 #[.agg #[.int .i64 ae, .slice ag ac.length af], .slice A1 l1.length c1, .int .i64 a2, .slice A3 l3.length c3] ?_; with_reducible refine (d_CheckFlow.calls kj9 ae _ _ ac _ _ l1 a2 _ _ l3 XZ _ ?side1 ?side2 ?side3 ?side4 ?side5 ?side6 A21.out).mono ?_
    (case side1 => exact cS_ (cB_ ah.out HB.out))
    (case side2 => exact ai.out)
    (case side3 => exact cS_ (cB_ HR1.out HB.out))
    (case side4 => exact HC1.out)
    (case side5 => exact cS_ (cB_ HR3.out HB.out))
    (case side6 => exact HC3.out)
    rintro e w25 ⟨rfl, hb⟩; refine ⟨_, rfl, ?_⟩; replace eL := Z_ (bS_ eL.out hb); replace HB := Z_ (fS_ hB_ hb); (try clear hb)
    refine hK.out _ _ ⟨(bC_ eL.out 0).trans rfl, (bC_ eL.out 1).trans rfl⟩ (fun hHeld => ?_); clear hK K; refine nP_ 35 ?_; refine oN_ 9 (some 40) (fun K hK => ?_); refine gO_ Try.func50 #[.agg #[.int .i64 ae, .slice ag ac.length af], .slice A1 l1.length c1, .int .i64 a2, .slice A3 l3.length c3] ?_; with_reducible refine (r_CheckFlow.calls kj9 ae _ _ ac _ _ l1 a2 _ _ l3 XY _ ?side1 ?side2 ?side3 ?side4 ?side5 ?side6 A22.out).mono ?_
    (case side1 => exact cS_ (cB_ ah.out HB.out))
    (case side2 => exact ai.out)
    (case side3 => exact cS_ (cB_ HR1.out HB.out))
    (case side4 => exact HC1.out)
    (case side5 => exact cS_ (cB_ HR3.out HB.out))
    (case side6 => exact HC3.out)
    rintro e w26 ⟨rfl, hb⟩; refine ⟨_, rfl, ?_⟩; replace eL := Z_ (bS_ eL.out hb); replace HB := Z_ (fS_ hB_ hb); (try clear hb)
    refine hK.out _ _ ⟨(bC_ eL.out 0).trans rfl, (bC_ eL.out 1).trans rfl⟩ (fun hHeld => ?_); clear hK K; refine nP_ 40 ?_; refine pP_ 10 41 ?_; refine dN_ ?_; go_upto_if 41 with (fail); have H := axd.out; clear axd; by_cases c27 : XZ = XY
    .rw [if_pos c27] at H
     obtain ⟨FG, Yr⟩ := be_ c27; clear c27; (try rw [FG])
     replace H := oS_.mp H; obtain ⟨⟨aBE, MU, aBD⟩, Ka, H⟩ := H; have A28 := Z_ Ka; clear Ka; replace H := oS_.mp H; obtain ⟨⟨T0, rn, akn⟩, axX, H⟩ := H; have A29 := Z_ axX; clear axX; replace H := oS_.mp H; obtain ⟨⟨wV, MT, aBC⟩, axW, H⟩ := H; have A30 := Z_ axW; clear axW; replace H := oS_.mp H; obtain ⟨⟨TZ, MS, aBB⟩, WT, H⟩ := H; have A31 := Z_ WT; clear WT; have aja := Z_ H; clear H; obtain ⟨⟨mK, mJ⟩, mG, mF⟩ := f2_ eL.out; go_upto_region 11 with (first | ((with_reducible refine gate_callee (f := 31) rfl ?_); refine gL_ (some 45) Try.func31 #[.agg #[.int .i64 ae, .slice ag ac.length af], .slice A1 l1.length c1] ?_; (with_reducible refine (d_Most.calls kj9 ae _ _ ac _ _ l1 aBE MU aBD _ ?side1 ?side2 ?side3 ?side4 A28.out).mono ?_); (case side1 => exact cS_ (cB_ ah.out HB.out)); (case side2 => exact ai.out); (case side3 => exact cS_ (cB_ HR1.out HB.out)); (case side4 => exact HC1.out); rintro e w34 ⟨rfl, hb⟩; refine ⟨_, rfl, ?_⟩; replace eL := Z_ (bS_ eL.out hb); replace HB := Z_ (fS_ hB_ hb); (try clear hb); obtain ⟨⟨ku, kt⟩, ko, kn⟩ := f2_ eL.out) | ((with_reducible refine gate_callee (f := 51) rfl ?_); refine gL_ (some 52) Try.func51 #[.agg #[.int .i64 ae, .slice ag ac.length af], .slice A1 l1.length c1] ?_; (with_reducible refine (r_Most.calls kj9 ae _ _ ac _ _ l1 T0 rn akn _ ?side1 ?side2 ?side3 ?side4 A29.out).mono ?_); (case side1 => exact cS_ (cB_ ah.out HB.out)); (case side2 => exact ai.out); (case side3 => exact cS_ (cB_ HR1.out HB.out)); (case side4 => exact HC1.out); rintro e w36 ⟨rfl, hb⟩; refine ⟨_, rfl, ?_⟩; replace eL := Z_ (bS_ eL.out hb); replace HB := Z_ (fS_ hB_ hb); (try clear hb); obtain ⟨⟨oe, od⟩, oa, n9⟩ := f2_ eL.out) | ((with_reducible refine gate_callee (f := 52) rfl ?_); refine gL_ (some 59) Try.func52 #[.agg #[.int .i64 ae, .slice ag ac.length af], .slice A1 l1.length c1] ?_; (with_reducible refine (d_Best.calls kj9 ae _ _ ac _ _ l1 wV MT aBC _ ?side1 ?side2 ?side3 ?side4 A30.out).mono ?_); (case side1 => exact cS_ (cB_ ah.out HB.out)); (case side2 => exact ai.out); (case side3 => exact cS_ (cB_ HR1.out HB.out)); (case side4 => exact HC1.out); rintro e w38 ⟨aBw, rfl, ho0, hb⟩; refine ⟨_, rfl, ?_⟩; have Gb := Z_ (rL_ ho0 (fZ_ hB_)); replace eL := Z_ (bS_ eL.out hb); replace HB := Z_ (fS_ hB_ hb); (try clear hb); (try clear ho0); obtain ⟨⟨zB, zA⟩, zt, zr⟩ := f2_ eL.out) | ((with_reducible refine gate_callee (f := 53) rfl ?_); refine gL_ (some 66) Try.func53 #[.agg #[.int .i64 ae, .slice ag ac.length af], .slice A1 l1.length c1] ?_; (with_reducible refine (d_Flow.calls kj9 ae _ _ ac _ _ l1 TZ MS aBB _ ?side1 ?side2 ?side3 ?side4 A31.out).mono ?_); (case side1 => exact cS_ (cB_ ah.out HB.out)); (case side2 => exact ai.out); (case side3 => exact cS_ (cB_ HR1.out HB.out)); (case side4 => exact HC1.out); rintro e w40 ⟨aBv, rfl, ho0, hb⟩; refine ⟨_, rfl, ?_⟩; have Mi := Z_ (rL_ (Kd.R_new' ho0 (Kd.R_lt (rK_ Gb.out))) (fZ_ hB_)); replace Gb := Z_ (Kd.R_elder' (rK_ Gb.out) (Kd.R_base ho0) hb); replace eL := Z_ (bS_ eL.out hb); replace HB := Z_ (fS_ hB_ hb); (try clear hb); (try clear ho0))); (try simp only [Act.put, sT_, sZ_, sS_])
     go_cut [102] (fun a22 wc => ∃ (kq : Nat) (RA : Bool), a22 = .bool RA /\ Aside0 (w_DiffsMostSpec.j1 kq l1 T0 rn wV TZ RA ae ac = some r) /\ Aside0 (kq <= kj9) /\ Aside0 (Kd.R (Kd.int .i64) 3 wc w.heap.size (fun k_ => some k_ ≠ (aBv : Value).ownBlock) aBw wV) /\ Aside0 (Kd.R (Kd.int .i64) 3 wc w.heap.size (fun k_ => some k_ ≠ (aBw : Value).ownBlock) aBv TZ) /\ Aside0 (wc.heap[Pf]? = some (.cells #[.int .i64 ae, (.slice ag ac.length af)] 24 (0, 0))) /\ Aside0 (Below w.heap.size w wc))
     case first =>
      have H := aja.out; clear aja; by_cases c41 : aBE = T0
      .rw [if_pos c41] at H
       obtain ⟨uD, FE⟩ := be_ c41; clear c41; (try rw [uD])
       by_cases c42 : (MU != rn) = true
       .rw [if_pos c42] at H
        have uC : (MU != rn) = true := c42; (try (have C3 : decide (MU = rn) = false := by simpa using c42))
        (try (have amY : (MU == rn) = false := by simpa using c42))
        (try (have aU0 : ¬ (MU = rn) := by simpa using c42))
        clear c42; have H' := Z_ H; clear H; go_wp2; go_meet
        case rel => exact ⟨_, (true), rf_, H', ⟨by have := HJ9.out; first | omega | exact nR_ _⟩, ⟨by (with_reducible repeat (first | apply rN_ | apply rD_)); exact rM_ Gb.out (fun _ hk => hk.2)⟩, ⟨by (with_reducible repeat (first | apply rN_ | apply rD_)); exact rM_ Mi.out (fun _ hk => hk.2)⟩, ⟨bR_ eL.out⟩, ⟨hB_⟩⟩
       rw [if_neg c42] at H; have uC : (MU != rn) = false := by simpa using c42
       (try (have C3 : decide (MU = rn) = true := by simpa using c42))
       (try (have amY : (MU == rn) = true := by simpa using c42))
       clear c42; by_cases c43 : aBD = akn
       .rw [if_pos c43] at H
        obtain ⟨Oq, aUZ⟩ := be_ c43; clear c43; by_cases c44 : (MT != rn) = true
        .rw [if_pos c44] at H
         have Eo : (MT != rn) = true := c44; (try (have Wa : decide (MT = rn) = false := by simpa using c44))
         (try (have aUY : (MT == rn) = false := by simpa using c44))
         (try (have bbO : ¬ (MT = rn) := by simpa using c44))
         clear c44; have H' := Z_ H; clear H; go_wp2; go_meet
         case rel => exact ⟨_, (true), rf_, H', ⟨by have := HJ9.out; first | omega | exact nR_ _⟩, ⟨by (with_reducible repeat (first | apply rN_ | apply rD_)); exact rM_ Gb.out (fun _ hk => hk.2)⟩, ⟨by (with_reducible repeat (first | apply rN_ | apply rD_)); exact rM_ Mi.out (fun _ hk => hk.2)⟩, ⟨bR_ eL.out⟩, ⟨hB_⟩⟩
        rw [if_neg c44] at H; have Eo : (MT != rn) = false := by simpa using c44
        (try (have Wa : decide (MT = rn) = true := by simpa using c44))
        (try (have aUY : (MT == rn) = true := by simpa using c44))
        clear c44; by_cases c45 : aBC = akn
        .rw [if_pos c45] at H
         obtain ⟨En, Qq⟩ := be_ c45; clear c45; by_cases c46 : (MS != rn) = true
         .rw [if_pos c46] at H
          have LJ : (MS != rn) = true := c46; (try (have Qp : decide (MS = rn) = false := by simpa using c46))
          (try (have aCP : (MS == rn) = false := by simpa using c46))
          (try (have bbM : ¬ (MS = rn) := by simpa using c46))
          clear c46; have H' := Z_ H; clear H; go_wp2; go_meet
          case rel => exact ⟨_, (true), rf_, H', ⟨by have := HJ9.out; first | omega | exact nR_ _⟩, ⟨by (with_reducible repeat (first | apply rN_ | apply rD_)); exact rM_ Gb.out (fun _ hk => hk.2)⟩, ⟨by (with_reducible repeat (first | apply rN_ | apply rD_)); exact rM_ Mi.out (fun _ hk => hk.2)⟩, ⟨bR_ eL.out⟩, ⟨hB_⟩⟩
         rw [if_neg c46] at H; have LJ : (MS != rn) = false := by simpa using c46
         (try (have Qp : decide (MS = rn) = true := by simpa using c46))
         (try (have aCP : (MS == rn) = true := by simpa using c46))
         clear c46; have H' := Z_ H; clear H; go_wp2; go_meet
         case rel => exact ⟨_, ((aBB != akn)), rf_, H', ⟨by have := HJ9.out; first | omega | exact nR_ _⟩, ⟨by (with_reducible repeat (first | apply rN_ | apply rD_)); exact rM_ Gb.out (fun _ hk => hk.2)⟩, ⟨by (with_reducible repeat (first | apply rN_ | apply rD_)); exact rM_ Mi.out (fun _ hk => hk.2)⟩, ⟨bR_ eL.out⟩, ⟨hB_⟩⟩
        rw [if_neg c45] at H; obtain ⟨En, Qq⟩ := bn_ c45; have H' := Z_ H; clear H; go_wp2; go_meet
        case rel => exact ⟨_, (true), rf_, H', ⟨by have := HJ9.out; first | omega | exact nR_ _⟩, ⟨by (with_reducible repeat (first | apply rN_ | apply rD_)); exact rM_ Gb.out (fun _ hk => hk.2)⟩, ⟨by (with_reducible repeat (first | apply rN_ | apply rD_)); exact rM_ Mi.out (fun _ hk => hk.2)⟩, ⟨bR_ eL.out⟩, ⟨hB_⟩⟩
       rw [if_neg c43] at H; obtain ⟨Oq, aUZ⟩ := bn_ c43; have H' := Z_ H; clear H; go_wp2; go_meet
       case rel => exact ⟨_, (true), rf_, H', ⟨by have := HJ9.out; first | omega | exact nR_ _⟩, ⟨by (with_reducible repeat (first | apply rN_ | apply rD_)); exact rM_ Gb.out (fun _ hk => hk.2)⟩, ⟨by (with_reducible repeat (first | apply rN_ | apply rD_)); exact rM_ Mi.out (fun _ hk => hk.2)⟩, ⟨bR_ eL.out⟩, ⟨hB_⟩⟩
      rw [if_neg c41] at H; obtain ⟨uD, FE⟩ := bn_ c41; (try rw [uD])
      have H' := Z_ H; clear H; go_wp2; go_meet
      case rel => exact ⟨_, (true), rf_, H', ⟨by have := HJ9.out; first | omega | exact nR_ _⟩, ⟨by (with_reducible repeat (first | apply rN_ | apply rD_)); exact rM_ Gb.out (fun _ hk => hk.2)⟩, ⟨by (with_reducible repeat (first | apply rN_ | apply rD_)); exact rM_ Mi.out (fun _ hk => hk.2)⟩, ⟨bR_ eL.out⟩, ⟨hB_⟩⟩
     case rest =>
      clear aja; obtain ⟨kq, RA, rfl, HA, a9a, ez, qX, eL, HB⟩ := hcut
      cases kq with
      | zero => exact absurd HA.out (by simp [w_DiffsMostSpec.j1])
      | succ LZ =>
       have H := HA.out; clear HA; simp only [w_DiffsMostSpec.j1] at H; by_cases c47 : RA = true
       .subst c47
        rw [if_pos rfl] at H; obtain rfl := oI_ H; go_wp2; go_ret; exact ⟨eW_, hB_⟩
       replace c47 := bE_.mpr c47; subst c47; have H1 : (if rn = true then ((r_Fulfils.f LZ ae ac wV).bind fun acQ => (if acQ = true then ((r_Sum.f LZ l1 wV).bind fun TY => (if TY = T0 then ((r_CheckFlow.f LZ ae ac l1 T0 TZ).bind fun acP => (some (acP == 0))) else (some false))) else (some false))) else (if (wV.length : Int) = 0 then (some ((TZ.length : Int) == 0)) else (some false))) = some r := by rw [if_neg (show ¬ (false = true) by decide)] at H; exact H
       clear H; have H := H1; clear H1; by_cases c48 : rn = true
       .subst c48
        rw [if_pos rfl] at H; obtain ⟨acQ, A49, H⟩ := oZ_ H; by_cases c50 : acQ = true
        .subst c50
         rw [if_pos rfl] at H; obtain ⟨TY, A51, H⟩ := oZ_ H; by_cases c52 : TY = T0
         .rw [if_pos c52] at H
          obtain ⟨JI, af8⟩ := be_ c52; clear c52; obtain ⟨acP, A53, H⟩ := oZ_ H; obtain rfl := oI_ H; obtain ⟨⟨amz, amy⟩, amk, amj⟩ := f2_ eL.out; obtain ⟨aKV, aJo, aIL⟩ := rS_ ez.out; subst aIL; go_wp2_with (first | ((with_reducible refine gate_callee (f := 42) rfl ?_); refine gL_ (some 115) Try.func42 #[.agg #[.int .i64 ae, .slice ag ac.length af], .slice aKV wV.length aJo] ?_; (with_reducible refine (r_Fulfils.calls LZ ae _ _ ac _ _ wV true _ ?side1 ?side2 ?side3 ?side4 A49.out).mono ?_); (case side1 => exact cS_ (cB_ ah.out HB.out)); (case side2 => exact ai.out); (case side3 => exact cS_ (rR_ ez.out).2.2); (case side4 => exact (rR_ ez.out).2.1); rintro e w56 ⟨rfl, hb⟩; refine ⟨_, rfl, ?_⟩; replace ez := Z_ (rB_ (rK_ ez.out) hb); replace qX := Z_ (rB_ (rK_ qX.out) hb); replace eL := Z_ (bS_ eL.out hb); replace HB := Z_ (fS_ hB_ hb); (try clear hb)) | (go_at_call 54; (with_reducible refine (r_Sum.calls LZ _ _ l1 _ _ wV TY _ ?side1 ?side2 ?side3 ?side4 A51.out).mono ?_); (case side1 => exact cS_ (cB_ HR1.out HB.out)); (case side2 => exact HC1.out); (case side3 => exact cS_ (rR_ ez.out).2.2); (case side4 => exact (rR_ ez.out).2.1); rintro e w' ⟨rfl, ⟨nd, rfl⟩⟩; obtain ⟨⟨zz, zy⟩, zq, zp⟩ := f2_ eL.out; obtain ⟨Bz, Ab, afI⟩ := rS_ qX.out; subst afI) | (go_at_call 50; (with_reducible refine (r_CheckFlow.calls LZ ae _ _ ac _ _ l1 T0 _ _ TZ acP _ ?side1 ?side2 ?side3 ?side4 ?side5 ?side6 A53.out).mono ?_); (case side1 => repeat (first | exact (cB_ ah.out hB_) | (with_reducible refine Kd.C_alloc ?_ _) | (with_reducible refine Kd.C_drewN ?_ _) | (with_reducible refine Kd.C_drew ?_))); (case side2 => exact ai.out); (case side3 => repeat (first | exact (cB_ HR1.out hB_) | (with_reducible refine Kd.C_alloc ?_ _) | (with_reducible refine Kd.C_drewN ?_ _) | (with_reducible refine Kd.C_drew ?_))); (case side4 => exact HC1.out); (case side5 => exact cS_ (rR_ qX.out).2.2); (case side6 => exact (rR_ qX.out).2.1); rintro e w59 ⟨rfl, hb⟩; replace ez := Z_ (rB_ (rK_ ez.out) hb); replace qX := Z_ (rB_ (rK_ qX.out) hb); replace eL := Z_ (bS_ eL.out hb); replace HB := Z_ (fS_ hB_ hb); (try clear hb))); go_ret; exact ⟨eW_, hB_⟩
         rw [if_neg c52] at H; obtain ⟨JI, af8⟩ := bn_ c52; obtain rfl := oI_ H; obtain ⟨⟨DB, DA⟩, Dw, Dv⟩ := f2_ eL.out; obtain ⟨aYh, aUC, aIK⟩ := rS_ ez.out; subst aIK; go_wp2_with (first | ((with_reducible refine gate_callee (f := 42) rfl ?_); refine gL_ (some 115) Try.func42 #[.agg #[.int .i64 ae, .slice ag ac.length af], .slice aYh wV.length aUC] ?_; (with_reducible refine (r_Fulfils.calls LZ ae _ _ ac _ _ wV true _ ?side1 ?side2 ?side3 ?side4 A49.out).mono ?_); (case side1 => exact cS_ (cB_ ah.out HB.out)); (case side2 => exact ai.out); (case side3 => exact cS_ (rR_ ez.out).2.2); (case side4 => exact (rR_ ez.out).2.1); rintro e w62 ⟨rfl, hb⟩; refine ⟨_, rfl, ?_⟩; replace ez := Z_ (rB_ (rK_ ez.out) hb); replace qX := Z_ (rB_ (rK_ qX.out) hb); replace eL := Z_ (bS_ eL.out hb); replace HB := Z_ (fS_ hB_ hb); (try clear hb)) | (go_at_call 54; (with_reducible refine (r_Sum.calls LZ _ _ l1 _ _ wV TY _ ?side1 ?side2 ?side3 ?side4 A51.out).mono ?_); (case side1 => exact cS_ (cB_ HR1.out HB.out)); (case side2 => exact HC1.out); (case side3 => exact cS_ (rR_ ez.out).2.2); (case side4 => exact (rR_ ez.out).2.1); rintro e w' ⟨rfl, ⟨nd, rfl⟩⟩)); go_ret; exact ⟨eW_, hB_⟩
        replace c50 := bE_.mpr c50; subst c50; have H1 : (some false) = some r := by rw [if_neg (show ¬ (false = true) by decide)] at H; exact H
        clear H; have H := H1; clear H1; obtain rfl := oI_ H; obtain ⟨⟨us, ur⟩, ui, uh⟩ := f2_ eL.out; obtain ⟨xD, xj, L4⟩ := rS_ ez.out; subst L4; go_wp2_with (first | ((with_reducible refine gate_callee (f := 42) rfl ?_); refine gL_ (some 115) Try.func42 #[.agg #[.int .i64 ae, .slice ag ac.length af], .slice xD wV.length xj] ?_; (with_reducible refine (r_Fulfils.calls LZ ae _ _ ac _ _ wV false _ ?side1 ?side2 ?side3 ?side4 A49.out).mono ?_); (case side1 => exact cS_ (cB_ ah.out HB.out)); (case side2 => exact ai.out); (case side3 => exact cS_ (rR_ ez.out).2.2); (case side4 => exact (rR_ ez.out).2.1); rintro e w65 ⟨rfl, hb⟩; refine ⟨_, rfl, ?_⟩; replace ez := Z_ (rB_ (rK_ ez.out) hb); replace qX := Z_ (rB_ (rK_ qX.out) hb); replace eL := Z_ (bS_ eL.out hb); replace HB := Z_ (fS_ hB_ hb); (try clear hb))); go_ret; exact ⟨eW_, hB_⟩
       replace c48 := bE_.mpr c48; subst c48; have H1 : (if (wV.length : Int) = 0 then (some ((TZ.length : Int) == 0)) else (some false)) = some r := by rw [if_neg (show ¬ (false = true) by decide)] at H; exact H
       clear H; have H := H1; clear H1; by_cases c66 : (wV.length : Int) = 0
       .rw [if_pos c66] at H
        have Ap : ((wV.length : Int) == 0) = true := beq_iff_eq.mpr c66; have LI : ((wV.length : Int) != 0) = false := bne_eq_false_iff_eq.mpr c66; clear c66; obtain rfl := oI_ H; obtain ⟨IU, IO, aiv⟩ := rS_ ez.out; subst aiv; obtain ⟨Ic, GC, abx⟩ := rS_ qX.out; subst abx; go_wp2; go_ret; exact ⟨eW_, hB_⟩
       rw [if_neg c66] at H; have Ap : ((wV.length : Int) == 0) = false := beq_eq_false_iff_ne.mpr c66; have LI : ((wV.length : Int) != 0) = true := bne_iff_ne.mpr c66; have bbJ : ¬ (wV = []) := fun h_ => c66 (by rw [h_]; rfl)
       obtain rfl := oI_ H; obtain ⟨ajl, aiL, Pg⟩ := rS_ ez.out; subst Pg; go_wp2; go_ret; exact ⟨eW_, hB_⟩
    rw [if_neg c27] at H; obtain ⟨FG, Yr⟩ := bn_ c27; (try rw [FG])
    obtain rfl := oI_ H; go_wp2; go_ret; exact ⟨eW_, hB_⟩
 replace c9 := bE_.mpr c9; subst c9; have H1 : (some false) = some r := by rw [if_neg (show ¬ (false = true) by decide)] at H; exact H
 clear H; have H := H1; clear H1; obtain rfl := oI_ H; go_wp2; go_ret; exact ⟨eW_, hB_⟩
end Go.Proofs.Ytpolojoeabmhdaa.A
/- DiffsMostSpec, over numbers and lists alone. -/
namespace Go.Proofs.Ytpolojoeabmhdaa.A
open Go.RowKit Go.Proofs.YtpolojoeabmhdaaW.PrintWords Go.Proofs.YtpolojoeabmhdaaW.PrintLast Go.Proofs.YtpolojoeabmhdaaW.PrintMore
theorem small_some (n : Int) (L : List S39) : w_small.f n L = some (decide (n <= 16 /\ L.length <= 60)) := by
 unfold w_small.f
 by_cases h : n <= 16
 .rw [if_pos h]
  congr 1
  exact decide_eq_decide.2 (by omega)
 .rw [if_neg h]
  congr 1
  rw [decide_eq_false]
  omega
section
variable {n : Nat} {D : List S39} {w F W : List Int}
theorem rflow_ev (hV : Valid n D) (hn : n <= 16) (hD : D.length <= 60) (hw : Weighty n w) (hs : Solv D) : ∃ r : List Int × Bool, Ev (fun k => r_Flow.f k n D w) r /\ ((r.2 = false /\ r.1 = [] /\ ∀ F2, ¬ Feas n D w F2) ∨ (r.2 = true /\ Feas n D w r.1 /\ Solv (linesL D r.1) /\ ∀ k, 0 <= k -> k < (D.length : Int) -> rd r.1 k <= 1048576)) := by
 have hn0 : 0 < n := by have := hV.n1; omega
 have hwl := hw.l
 -- what the node 0 gives
 have hsum : ∀ m : Nat, m <= n -> -((m : Int) * 4096) <= sumN (rd w) m /\ sumN (rd w) m <= (m : Int) * 4096 := by
  intro m
  induction m with
  | zero => intro _; simp [sumN]
  | succ m ih =>
   intro hm
   have := ih (by omega)
   have := hw.b m (by omega) (by omega)
   simp only [sumN]
   push_cast
   omega
 obtain ⟨R, hR⟩ : ∃ R, R = sumN (rd w) n - rd w 0 := ⟨_, rfl⟩
 have b0 := hw.b 0 (by omega) (by omega)
 have bs := hsum n (Nat.le_refl _)
 let lk := w.set 0 (-R)
 have hlk : ∀ v, 0 <= v -> rd lk v = if v = 0 then -R else rd w v := fun v v0 => rd_set w 0 v (-R) (by omega) (by omega) v0
 have hll : lk.length = n := by show (w.set 0 (-R)).length = n; rw [List.length_set]; omega
 obtain ⟨r, r1, r2⟩ := rflow_go (w := w) hV.e hn0 hn hD ((phi w).toNat + 1) (List.replicate D.length 0) w lk (fi_start hw (by omega) hs) hll (fun v v0 v1 => by rw [hlk v (by omega), if_neg (by omega)]) (by
  show sumN (rd (w.set (0 : Int).toNat (-R))) n = 0
  rw [sumN_set w (k := 0) (by omega) (by omega) n (by omega) (by omega)]; omega) (by have := phi_nonneg w; omega)
 refine ⟨r, ?_, r2⟩
 -- the lists
 have k2 : ∀ (q i : Nat), q + i = n -> Ev (fun k => r_Flow.l2 k w (List.replicate D.length 0) (lk.take i) R i n D) r := by
  intro q
  induction q with
  | zero =>
   intro i hq
   rw [List.take_of_length_le (by omega)]
   exact Ev.step (fun k => by rw [r_Flow.l2, if_neg (by omega)]) r1
  | succ q ih =>
   intro i hq
   have g := ih (i + 1) (by omega)
   rw [take_snoc lk i (by omega), <- at_rd lk i (by omega), hlk i (by omega)] at g
   by_cases e : (i : Int) = 0
   .rw [if_pos e] at g
    refine Ev.step (fun k => ?_) g
    rw [r_Flow.l2, if_pos (by omega), if_pos e, if_pos (by rw [List.length_take]; omega), wrap_id (x := -R) (by omega) (by omega), wrap_id (x := (i : Int) + 1) (by omega) (by omega)]
    rfl
   .rw [if_neg e] at g
    refine Ev.step (fun k => ?_) g
    rw [r_Flow.l2, if_pos (by omega), if_neg e, if_pos (by omega), if_pos (by omega), if_pos (by rw [List.length_take]; omega), wrap_id (x := (i : Int) + 1) (by omega) (by omega)]
    rfl
 have k1 : ∀ (q i : Nat), q + i = n -> 1 <= i -> Ev (fun k => r_Flow.l1 k w (List.replicate D.length 0) (sumN (rd w) i - rd w 0) i n D) r := by
  intro q
  induction q with
  | zero =>
   intro i hq hi
   obtain rfl : i = n := by omega
   have g := k2 i 0 (by omega)
   rw [List.take_zero, hR] at g
   exact Ev.step (fun k => by rw [r_Flow.l1, if_neg (by omega)]; rfl) g
  | succ q ih =>
   intro i hq hi
   have g := ih (i + 1) (by omega) (by omega)
   have := hsum i (by omega)
   have := hw.b i (by omega) (by omega)
   refine Ev.step (fun k => ?_) g
   rw [r_Flow.l1, if_pos (by omega), if_pos (by omega), if_pos (by omega), wrap_id (x := (i : Int) + 1) (by omega) (by omega), wrap_id (by omega) (by omega), show sumN (rd w) i - rd w 0 + rd w i = sumN (rd w) (i + 1) - rd w 0 from by simp only [sumN]; omega]
   rfl
 have k0 : ∀ (q i : Nat), q + i = D.length -> Ev (fun k => r_Flow.l0 k w (List.replicate i 0) i n D) r := by
  intro q
  induction q with
  | zero =>
   intro i hq
   obtain rfl : i = D.length := by omega
   have g := k1 (n - 1) 1 (by omega) (by omega)
   rw [show sumN (rd w) 1 - rd w 0 = 0 from by simp [sumN]] at g
   exact Ev.step (fun k => by rw [r_Flow.l0, if_neg (by omega)]; rfl) g
  | succ q ih =>
   intro i hq
   have g := ih (i + 1) (by omega)
   rw [List.replicate_succ'] at g
   refine Ev.step (fun k => ?_) g
   rw [r_Flow.l0, if_pos (by omega), if_pos (by simp; omega), wrap_id (by omega) (by omega)]
   rfl
 exact k0 D.length 0 (by omega)
theorem rmost_ev (hV : Valid n D) (hn : n <= 16) (hD : D.length <= 60) (w : List Int) : ∃ a b e, Ev (fun k => r_Most.f k n D w) (a, b, e) /\ MostIs n D w a b e := by
 have hn0 : 0 < n := by have := hV.n1; omega
 have hc := rcheck_ev n D
 rw [if_pos (validB_iff.2 hV)] at hc
 obtain ⟨p, p1, p2⟩ := rweights_ev n (by omega) D w
 obtain ⟨b, hb, hse⟩ := solvable_ev hn0 (by omega) hV.e (hmul hV) (by omega)
 unfold r_Most.f
 cases p with
 | false =>
  have hno : ¬ Weighty n w := fun h => absurd (p2.2 h) (by decide)
  exact ⟨0, false, 1, hc.bind (Ev.pos rfl (p1.bind (Ev.neg (by decide) (Ev.now _)))), fun _ => ⟨rfl, rfl, rfl⟩, fun h => absurd h hno, fun h => absurd h hno, by omega⟩
 | true =>
  have hw := p2.1 rfl
  by_cases hs : Solv D
  case neg =>
   have hbf : ¬ b = true := fun h => hs (hb.1 h)
   exact ⟨0, false, 41, hc.bind (Ev.pos rfl (p1.bind (Ev.pos rfl (hse.bind (Ev.neg hbf (Ev.now _)))))), fun h => absurd hw h, fun _ _ => ⟨rfl, rfl, rfl⟩, fun _ h => absurd h hs, by omega⟩
  obtain rfl := hb.2 hs
  obtain ⟨r, r1, r2⟩ := rflow_ev hV hn hD hw hs
  rcases r2 with ⟨e1, e2, hno⟩ | ⟨e1, f1, f2, f3⟩
  .exact ⟨0, false, 0, hc.bind (Ev.pos rfl (p1.bind (Ev.pos rfl (hse.bind (Ev.pos rfl (r1.bind (Ev.neg (by rw [e1]; decide) (Ev.now _)))))))), fun h => absurd hw h, fun _ h => absurd hs h, fun _ _ => ⟨rfl, ⟨fun h => (by cases h), fun _ => ⟨rfl, hno⟩⟩⟩, by omega⟩
  .have hF : ∀ k, 0 <= k -> k < (D.length : Int) -> 0 <= rd r.1 k /\ rd r.1 k <= 1048576 := fun k k0 k1 => ⟨f1.pos k k0 k1, f3 k k0 k1⟩
   have c1 := rcost_ev hV.e f1.lf (by omega) hF (n : Int)
   obtain ⟨_, c2⟩ := cost_ev hV.e f1.lf (by omega) hF (n : Int)
   obtain ⟨x, x0, hx⟩ := f2.zero
   have hst := strong f1 hV.e x0 hx
   exact ⟨costF D r.1, true, 0, hc.bind (Ev.pos rfl (p1.bind (Ev.pos rfl (hse.bind (Ev.pos rfl (r1.bind (Ev.pos e1 (c1.bind (Ev.now _))))))))), fun h => absurd hw h, fun _ h => absurd hs h, fun _ _ => ⟨rfl, fun _ => ⟨r.1, x, f1, hst.1, rfl, hst.2⟩, fun h => by cases h⟩, c2⟩
end
theorem cflow_bad {m : Int} {L : List S39} (hv : ¬ validB m L = true) (w F : List Int) (a : Int) : Ev (fun k => d_CheckFlow.f k m L w a F) 40 := by
 have key : ∀ b : Bool, Ev (fun k => d_CheckFlow.j0 k w a F b m L) 40 := fun b => by
  have hask := asked_ev m L [weightyB m w, b] (by simp)
  rw [if_neg hv] at hask
  exact Ev.step (f := fun k => (d_asked.f k m L [weightyB m w, b]).bind fun MQ => (if MQ = 0 then ((s_Clone_int_int.f w).bind fun Xi => (d_CheckFlow.l0 k a F Xi L L.length 0 m L)) else some MQ)) (fun k => by rw [d_CheckFlow.j0, weighty_some, Option.bind_some]) (hask.bind (Ev.neg (by decide) (Ev.now _)))
 unfold d_CheckFlow.f cf97.f
 simp only [Option.bind_some]
 by_cases hl : (F.length : Int) = (L.length : Int)
 .exact Ev.pos hl (key _)
 .exact Ev.neg hl (key _)
theorem rcflow_bad {m : Int} {L : List S39} (hv : ¬ validB m L = true) (w F : List Int) (a : Int) : Ev (fun k => r_CheckFlow.f k m L w a F) 40 := by
 have hc := rcheck_ev m L
 rw [if_neg hv] at hc
 unfold r_CheckFlow.f
 exact hc.bind (Ev.neg (by decide) (Ev.now _))
theorem best_bad {m : Int} {L : List S39} (hv : ¬ validB m L = true) (w : List Int) : Ev (fun k => d_best.f k m L w) (false, [], [], 40) := by
 have hask := asked_ev m L [weightyB m w] (by simp)
 rw [if_neg hv] at hask
 unfold d_best.f
 simp only [weighty_some, Option.bind_some]
 exact hask.bind (Ev.neg (by decide) (Ev.now _))
theorem mostspec_ev (n : Int) (L : List S39) (w : List Int) (m : Int) (G : List Int) : Ev (fun k => w_DiffsMostSpec.f k n L w m G) true := by
 unfold w_DiffsMostSpec.f w_sane.f
 simp only [Option.bind_some, if_true]
 have hr := rcheck_ev n L
 by_cases hv : validB n L = true
 case neg =>
  rw [if_neg hv] at hr
  refine hr.bind (Ev.neg (by decide) ?_)
  refine Ev.step (f := fun q => _) (fun q => by rw [w_DiffsMostSpec.j0, if_neg (by decide)]) ?_
  refine (cflow_bad hv w G m).bind ((rcflow_bad hv w G m).bind (Ev.pos rfl ?_))
  have hb := best_bad hv w
  have h1 : Ev (fun k => d_Most.f k n L w) (0, false, 40) := by unfold d_Most.f; exact hb.bind (Ev.neg (by simp) (Ev.now _))
  have h2 : Ev (fun k => d_Best.f k n L w) ([], false, 40) := by unfold d_Best.f; exact hb.bind (Ev.neg (by simp) (Ev.now _))
  have h3 : Ev (fun k => d_Flow.f k n L w) ([], false, 40) := by unfold d_Flow.f; exact hb.bind (Ev.neg (by simp) (Ev.now _))
  have h4 : Ev (fun k => r_Most.f k n L w) (0, false, 40) := by unfold r_Most.f; exact hr.bind (Ev.neg (by decide) (Ev.now _))
  refine h1.bind (h4.bind (h2.bind (h3.bind (Ev.pos rfl (Ev.neg (by decide) (Ev.pos rfl (Ev.neg (by decide) (Ev.pos rfl (Ev.neg (by decide) ?_)))))))))
  exact Ev.step (f := fun _ => some true) (fun q => by rw [w_DiffsMostSpec.j1]; rfl) (Ev.now _)
 rw [if_pos hv] at hr
 refine hr.bind (Ev.pos rfl ?_)
 rw [small_some]
 simp only [Option.bind_some]
 by_cases hsm : n <= 16 /\ L.length <= 60
 case neg =>
  rw [decide_eq_false hsm]
  exact Ev.step (f := fun _ => some true) (fun q => by rw [w_DiffsMostSpec.j0]; rfl) (Ev.now _)
 rw [decide_eq_true hsm]
 have hV := validB_iff.1 hv
 obtain ⟨N, rfl⟩ : ∃ N : Nat, n = N := ⟨n.toNat, by have := hV.n1; omega⟩
 have hn0 : 0 < N := by have := hV.n1; omega
 have hm : (N : Int) * (2 * L.length) <= 1048576 := by
  have := Int.mul_le_mul (a := (N : Int)) (b := 2 * L.length) (c := 16) (d := 120) (by omega) (by omega) (by omega) (by omega)
  omega
 refine Ev.step (f := fun q => _) (fun q => by rw [w_DiffsMostSpec.j0, if_neg (by decide)]) ?_
 obtain ⟨e, g1, g2, g3, g4⟩ := cflow_code hV w G m
 obtain ⟨e', u1, u2, u3, u4⟩ := rcflow_ev hV w G m
 have hee : e = e' := by
  by_cases hA : FlowArg N L w G
  .by_cases hP : FlowIs N L w G m
   .rw [g2.2 hP, u2 hP]
   .rw [g4 hA hP, u3 hA hP]
  .rw [g3 hA, u4 hA]
 subst hee
 obtain ⟨a, b, f, x, F, t1, t2, t3, hT⟩ := trio_ev hV hm w
 obtain ⟨a', b', f', q1, q2⟩ := rmost_ev hV (by omega) (by omega) w
 obtain ⟨rfl, rfl, rfl⟩ := hT.m.unique hV.e q2
 refine g1.bind (u1.bind (Ev.pos rfl (t1.bind (q1.bind (t2.bind (t3.bind (Ev.pos rfl (Ev.neg (by simp) (Ev.pos rfl (Ev.neg (by simp) (Ev.pos rfl (Ev.neg (by simp) ?_))))))))))))
 simp only [bne_self_eq_false]
 refine Ev.step (f := fun q => _) (fun q => by rw [w_DiffsMostSpec.j1, if_neg (by decide)]) ?_
 cases b with
 | false =>
  obtain ⟨rfl, rfl⟩ := hT.no rfl
  exact Ev.neg (by decide) (Ev.pos rfl (Ev.now _))
 | true =>
  have hw : Weighty N w := Classical.byContradiction fun hw => by have := (hT.m.arg hw).2.1; cases this
  have hs : Solv L := Classical.byContradiction fun hs => by have := (hT.m.clash hw hs).2.1; cases this
  obtain ⟨hx, hxa, hFl⟩ := hT.yes hw hs rfl
  obtain ⟨p, p1, p2⟩ := rful_ev hV x
  obtain rfl := p2.2 hx
  obtain ⟨d, d1, d2, _⟩ := rcflow_ev hV w F a
  obtain rfl := d2 hFl
  have hs1 := sum_ev hw hx.l hn0 (by omega) hx.b
  rw [hxa] at hs1
  exact Ev.pos rfl (p1.bind (Ev.pos rfl (hs1.bind (Ev.pos rfl (d1.bind (Ev.now _))))))
end Go.Proofs.Ytpolojoeabmhdaa.A
