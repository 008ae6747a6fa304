/- solve, Check, asked: what they answer. -/
import Derived.Test.YtpolojoeabmhdaaPGrow
import Derived.Test.YtpolojoeabmhdaaAf77
namespace Go.Proofs.Ytpolojoeabmhdaa.A
open Go.RowKit Go.Proofs.YtpolojoeabmhdaaW.PrintWords Go.Proofs.YtpolojoeabmhdaaW.PrintLast Go.Proofs.YtpolojoeabmhdaaW.PrintMore
set_option linter.unusedVariables false
set_option linter.unusedSimpArgs false
def allL (n : Nat) : List Int := (List.range n).map fun (i : Nat) => (i : Int)
theorem mem_allL {n : Nat} {v : Int} : v ∈ allL n ↔ 0 ≤ v ∧ v < (n : Int) := by
  unfold allL
  rw [List.mem_map]
  constructor
  · rintro ⟨i, hi, rfl⟩
    have := List.mem_range.1 hi
    omega
  · intro h
    exact ⟨v.toNat, List.mem_range.2 (by omega), by omega⟩
theorem all_l0 (n : Nat) (hn : n ≤ 65536) : ∀ (q i f : Nat), q + i = n → diffs_all.l0 (f + q + 1) (allL i) n i = some (allL n)
  | 0, i, f, hq => by
    rw [diffs_all.l0, if_neg (by omega), show i = n from by omega]
  | q + 1, i, f, hq => by
    rw [show f + (q + 1) + 1 = (f + q + 1) + 1 from by omega, diffs_all.l0, if_pos (by omega), if_pos (by unfold allL; simp; omega), wrap_id (by omega) (by omega)]
    have := all_l0 n hn q (i + 1) f (by omega)
    rw [show allL (i + 1) = allL i ++ [(i : Int)] from by unfold allL; rw [List.range_succ, List.map_append]; rfl] at this
    exact this
theorem all_ev (n : Nat) (hn : n ≤ 65536) (L : List S39) : Ev (fun k => diffs_all.f k n L) (allL n) :=
  Ev.shift (n + 1) (h := fun _ => some (allL n)) (fun f => by
    unfold diffs_all.f diffs_plain_nodes.f
    simp only [Option.bind_some]
    have := all_l0 n hn n 0 f (by omega)
    rw [show ((0 : Nat) : Int) = 0 from rfl] at this
    exact this) (Ev.now _)
/-- The numbers, moved so that the first one is 0. -/
theorem solve_l0 (lo : List Int) (ha : List Bool) (la : List Int) (hl : ∀ v, 0 ≤ v → v < (lo.length : Int) → -2305843009213693952 ≤ rd lo v ∧ rd lo v ≤ 2305843009213693952) (hl2 : lo.length ≤ 65536) : ∀ (q : Nat) (i : Int) (x : List Int) (f : Nat), (q : Int) + i = lo.length → 0 ≤ i → x.length = lo.length → (∀ v, 0 ≤ v → v < (lo.length : Int) → rd x v = if v < i then rd lo v - rd lo 0 else rd lo v) →
    ∃ y, diffs_solve.l0 (f + q + 1) x lo.length i lo ha la = some (y, lo, ha, la, -1) ∧ y.length = lo.length ∧ ∀ v, 0 ≤ v → v < (lo.length : Int) → rd y v = rd lo v - rd lo 0
  | 0, i, x, f, hq, hi, hx, hv => by
    refine ⟨x, ?_, hx, fun v h0 h1 => by rw [hv v h0 h1, if_pos (by omega)]⟩
    rw [diffs_solve.l0, if_neg (by omega)]
  | q + 1, i, x, f, hq, hi, hx, hv => by
    have hlt : i < (lo.length : Int) := by omega
    have b0 := hl 0 (by omega) (by omega)
    have b1 := hl i hi hlt
    have e : rd x i = rd lo i := by rw [hv i hi hlt, if_neg (by omega)]
    rw [show f + (q + 1) + 1 = (f + q + 1) + 1 from by omega, diffs_solve.l0, if_pos hlt, if_pos hi, if_pos (by rw [hx]; exact hlt), if_pos (by omega), e, wrap_id (by omega) (by omega), wrap_id (by omega) (by omega)]
    refine solve_l0 lo ha la hl hl2 q (i + 1) _ f (by omega) (by omega) (by rw [List.length_set]; exact hx) (fun v h0 h1 => ?_)
    rw [rd_set _ _ _ _ hi (by omega) h0]
    by_cases ev : v = i
    · rw [if_pos ev, if_pos (by omega), ev]
    · rw [if_neg ev, hv v h0 h1]
      by_cases h2 : v < i
      · rw [if_pos h2, if_pos (by omega)]
      · rw [if_neg h2, if_neg (by omega)]
section
variable {n : Nat} {L : List S39}
/-- What solve answers. -/
theorem solve_ev (hn0 : 0 < n) (hn : n ≤ 65536) (hE : EdgesOk n L) (hm : (n : Int) * L.length ≤ 1048576) :
    ∃ x s bad, growP L n n (sg0 n (allL n)) = some (s, bad) ∧ GrowPost n L (fun v => v ∈ allL n) s bad ∧ Ev (fun k => diffs_solve.f k n L) (x, s.lo, s.ha, s.la, bad) ∧ (bad = -1 → (x.length = n ∧ ∀ v, 0 ≤ v → v < (n : Int) → rd x v = rd s.lo v - rd s.lo 0)) ∧ (0 ≤ bad → x = []) := by
  obtain ⟨s, bad, h1, h2, h3⟩ := grow_ev hn0 hn hE (by omega) (from_ := allL n) (by unfold allL; simp; omega) (fun i hi => mem_allL.1 hi)
  obtain ⟨b, T, hb, hb2, hB⟩ := h2.bf
  have hl1 := hB.l1
  have hbd : ∀ v, 0 ≤ v → v < (s.lo.length : Int) → -2305843009213693952 ≤ rd s.lo v ∧ rd s.lo v ≤ 2305843009213693952 := fun v h0 h1 => by
    have := h2.bounds h0 (by omega); omega
  rcases h2.res with ⟨e, _⟩ | ⟨e, _⟩
  · subst e
    obtain ⟨y, hy1, hy2, hy3⟩ : ∃ y, (∀ f, diffs_solve.l0 (f + n + 1) s.lo s.lo.length 0 s.lo s.ha s.la = some (y, s.lo, s.ha, s.la, -1)) ∧ y.length = s.lo.length ∧ ∀ v, 0 ≤ v → v < (s.lo.length : Int) → rd y v = rd s.lo v - rd s.lo 0 := by
      obtain ⟨y, a, b, c⟩ := solve_l0 s.lo s.ha s.la hbd (by omega) n 0 s.lo 0 (by omega) (by omega) rfl (fun v h0 h1 => by rw [if_neg (by omega)])
      refine ⟨y, fun f => ?_, b, c⟩
      obtain ⟨y', a', b', c'⟩ := solve_l0 s.lo s.ha s.la hbd (by omega) n 0 s.lo f (by omega) (by omega) rfl (fun v h0 h1 => by rw [if_neg (by omega)])
      rw [a']
      have e2 : y' = y := List.ext_getElem (by omega) (fun i h1 h2 => by
        have p := c' i (by omega) (by omega)
        have q := c i (by omega) (by omega)
        unfold rd at p q
        rw [List.getD_eq_getElem?_getD, Int.toNat_natCast, List.getElem?_eq_getElem (by omega)] at p q
        simp only [Option.getD_some] at p q
        rw [p, q])
      rw [e2]
    refine ⟨y, s, -1, h1, h2, ?_, fun _ => ⟨by omega, fun v h0 h1 => hy3 v h0 (by omega)⟩, fun h => by omega⟩
    unfold diffs_solve.f
    refine (all_ev n hn L).bind (h3.bind ?_)
    simp only [ge_iff_le, if_neg (show ¬ (0 : Int) ≤ -1 from by omega)]
    unfold slices_Clone_int_int.f
    rw [if_pos (by omega)]
    simp only [Option.bind_some]
    exact Ev.shift (n + 1) (h := fun _ => some _) hy1 (Ev.now _)
  · refine ⟨[], s, bad, h1, h2, ?_, fun h => by omega, fun _ => rfl⟩
    unfold diffs_solve.f
    refine (all_ev n hn L).bind (h3.bind ?_)
    simp only [ge_iff_le, if_pos e]
    exact Ev.now _
end
def edgeB (n : Int) (d : S39) : Bool := decide (0 ≤ d.f0) && decide (d.f0 < n) && decide (0 ≤ d.f1) && decide (d.f1 < n) && decide (-1073741824 ≤ d.f2) && decide (d.f2 ≤ 1073741824)
theorem edgeB_iff {n : Int} {d : S39} : edgeB n d = true ↔ EdgeOk n d := by
  simp only [edgeB, Bool.and_eq_true, decide_eq_true_eq]
  exact ⟨fun h => ⟨h.1.1.1.1.1, h.1.1.1.1.2, h.1.1.1.2, h.1.1.2, h.1.2, h.2⟩, fun h => ⟨⟨⟨⟨⟨h.a, h.b⟩, h.c⟩, h.g⟩, h.e⟩, h.f⟩⟩
def validB (n : Int) (L : List S39) : Bool := decide (1 ≤ n) && decide (n ≤ 256) && decide (L.length ≤ 4096) && L.all (edgeB n)
structure Valid (n : Int) (L : List S39) : Prop where
  n1 : 1 ≤ n
  n2 : n ≤ 256
  l : L.length ≤ 4096
  e : EdgesOk n L
theorem all_edges {n : Int} {L : List S39} : L.all (edgeB n) = true ↔ EdgesOk n L := by
  rw [List.all_eq_true]
  constructor
  · intro h k h0 h1
    refine edgeB_iff.1 (h _ ?_)
    unfold rd_T39
    rw [List.getD_eq_getElem?_getD, List.getElem?_eq_getElem (by omega)]; exact List.getElem_mem _
  · intro h d hd
    obtain ⟨i, hi, rfl⟩ := List.getElem_of_mem hd
    have := h i (by omega) (by omega)
    unfold rd_T39 at this
    rw [List.getD_eq_getElem?_getD, Int.toNat_natCast, List.getElem?_eq_getElem (by omega)] at this
    exact edgeB_iff.2 this
theorem validB_iff {n : Int} {L : List S39} : validB n L = true ↔ Valid n L := by
  simp only [validB, Bool.and_eq_true, decide_eq_true_eq, all_edges]
  exact ⟨fun h => ⟨h.1.1.1, h.1.1.2, h.1.2, h.2⟩, fun h => ⟨⟨⟨h.n1, h.n2⟩, h.l⟩, h.e⟩⟩
theorem in_some (a lo hi : Int) : diffs_in.f a lo hi = some (decide (lo ≤ a) && decide (a ≤ hi)) := by
  unfold diffs_in.f
  by_cases h : a ≥ lo
  · rw [if_pos h]; simp [show lo ≤ a from h]
  · rw [if_neg h]; simp [show ¬ lo ≤ a from h]
theorem right_some (d : S39) (n : Int) (h1 : 1 ≤ n) (h2 : n ≤ 256) : diffs_right.f d.f0 d.f1 d.f2 n = some (edgeB n d) := by
  unfold diffs_right.f
  rw [wrap_id (by omega) (by omega)]
  simp only [in_some, Option.bind_some]
  have ea : decide (d.f0 ≤ n - 1) = decide (d.f0 < n) := by congr 1; exact propext (by omega)
  have eb : decide (d.f1 ≤ n - 1) = decide (d.f1 < n) := by congr 1; exact propext (by omega)
  rw [ea, eb]
  unfold edgeB
  by_cases c1 : (decide (0 ≤ d.f0) && decide (d.f0 < n)) = true
  · rw [if_pos c1, c1]
    by_cases c2 : (decide (0 ≤ d.f1) && decide (d.f1 < n)) = true
    · rw [if_pos c2]
      simp only [Bool.true_and, c2]
    · rw [if_neg c2]
      rw [Bool.not_eq_true] at c2
      simp only [Bool.true_and, c2, Bool.false_and]
  · rw [if_neg c1]
    rw [Bool.not_eq_true] at c1
    simp only [c1, Bool.false_and]
theorem check_l0 (n : Int) (L : List S39) (h1 : 1 ≤ n) (h2 : n ≤ 256) (hl : L.length ≤ 4096) (M : List S39) : ∀ (q : Nat) (i : Int) (f : Nat), (q : Int) + i = L.length → 0 ≤ i →
    diffs_Check.l0 (f + q + 1) L L.length i n M = some (if (L.drop i.toNat).all (edgeB n) = true then 0 else 40)
  | 0, i, f, hq, hi => by
    rw [diffs_Check.l0, if_neg (by omega), List.drop_eq_nil_of_le (by omega)]
    rfl
  | q + 1, i, f, hq, hi => by
    have hlt : i < (L.length : Int) := by omega
    rw [show f + (q + 1) + 1 = (f + q + 1) + 1 from by omega, diffs_Check.l0, if_pos hlt, if_pos hi, if_pos hlt, right_some _ n h1 h2, rd_T39_drop L i hi hlt]
    simp only [Option.bind_some]
    by_cases c : edgeB n (rd_T39 L i) = true
    · have e : (rd_T39 L i :: L.drop (i + 1).toNat).all (edgeB n) = (L.drop (i + 1).toNat).all (edgeB n) := by rw [List.all_cons, c, Bool.true_and]
      rw [if_pos c, e, wrap_id (by omega) (by omega)]
      exact check_l0 n L h1 h2 hl M q (i + 1) f (by omega) (by omega)
    · have e : (rd_T39 L i :: L.drop (i + 1).toNat).all (edgeB n) = false := by
        rw [Bool.not_eq_true] at c
        rw [List.all_cons, c, Bool.false_and]
      rw [if_neg c, e]
      rfl
theorem check_ev (n : Int) (L : List S39) : Ev (fun k => diffs_Check.f k n L) (if validB n L = true then 0 else 40) := by
  unfold diffs_Check.f
  simp only [in_some, Option.bind_some]
  by_cases h : 1 ≤ n ∧ n ≤ 256
  · refine Ev.pos (by simp [h]) ?_
    refine Ev.step (f := fun k => if (decide ((L.length : Int) > 4096)) = true then some 40 else diffs_Check.l0 k L L.length 0 n L) (fun k => by rw [diffs_Check.j0]) ?_
    by_cases hl : L.length ≤ 4096
    · refine Ev.neg (by simp; omega) ?_
      have e : validB n L = L.all (edgeB n) := by
        unfold validB; simp [h, hl]
      rw [e]
      refine Ev.shift (L.length + 1) (h := fun _ => some _) (fun f => ?_) (Ev.now _)
      have := check_l0 n L h.1 h.2 hl L L.length 0 f (by omega) (by omega)
      rw [show (0 : Int).toNat = 0 from rfl, List.drop_zero] at this
      exact this
    · have e : validB n L = false := by unfold validB; simp [hl]
      rw [e]
      exact Ev.pos (by simp; omega) (Ev.now _)
  · have e : validB n L = false := by
      cases hv : validB n L with
      | false => rfl
      | true => have := validB_iff.1 hv; exact absurd ⟨this.n1, this.n2⟩ h
    rw [e]
    refine Ev.neg (by simp only [Bool.and_eq_true, decide_eq_true_eq]; exact h) ?_
    exact Ev.step (f := fun k => some 40) (fun k => by rw [diffs_Check.j0]; rfl) (Ev.now _)
theorem index_l0 (bs : List Bool) (hb : bs.length ≤ 65536) : ∀ (q : Nat) (i : Int) (f : Nat), (q : Int) + i = bs.length → 0 ≤ i →
    ∃ r, slices_Index_bool_bool.l0 (f + q + 1) bs false bs.length i = some r ∧ (0 ≤ r ↔ false ∈ bs.drop i.toNat)
  | 0, i, f, hq, hi => by
    refine ⟨-1, ?_, ?_⟩
    · rw [slices_Index_bool_bool.l0, if_neg (by omega)]
    · rw [List.drop_eq_nil_of_le (by omega)]; simp
  | q + 1, i, f, hq, hi => by
    have hlt : i < (bs.length : Int) := by omega
    have ed : bs.drop i.toNat = rdOf false bs i :: bs.drop (i + 1).toNat := by
      rw [show (i + 1).toNat = i.toNat + 1 from by omega, List.drop_eq_getElem_cons (by omega)]
      congr 1
      unfold rdOf
      rw [List.getD_eq_getElem?_getD, List.getElem?_eq_getElem (by omega)]; rfl
    rw [show f + (q + 1) + 1 = (f + q + 1) + 1 from by omega, slices_Index_bool_bool.l0, if_pos hlt, if_pos hi, if_pos hlt, ed]
    by_cases c : (false == rdOf false bs i) = true
    · rw [if_pos c]
      refine ⟨i, rfl, ?_⟩
      have : rdOf false bs i = false := by simpa using c
      rw [this]; simp [hi]
    · rw [if_neg c, wrap_id (by omega) (by omega)]
      obtain ⟨r, a, b⟩ := index_l0 bs hb q (i + 1) f (by omega) (by omega)
      refine ⟨r, a, b.trans ?_⟩
      have : rdOf false bs i = true := by simpa using c
      rw [this]; simp
theorem contains_ev (bs : List Bool) (hb : bs.length ≤ 65536) : Ev (fun k => slices_Contains_bool_bool.f k bs false) (bs.contains false) := by
  refine Ev.shift (bs.length + 1) (h := fun _ => some (bs.contains false)) (fun f => ?_) (Ev.now _)
  obtain ⟨r, a, b⟩ := index_l0 bs hb bs.length 0 f (by omega) (by omega)
  unfold slices_Contains_bool_bool.f slices_Index_bool_bool.f
  rw [show f + (bs.length + 1) = f + bs.length + 1 from rfl, a]
  simp only [Option.bind_some]
  rw [show (0 : Int).toNat = 0 from rfl, List.drop_zero] at b
  congr 1
  rw [Bool.eq_iff_iff, decide_eq_true_eq, List.contains_iff_mem]
  exact b
theorem asked_ev (n : Int) (L : List S39) (bs : List Bool) (hb : bs.length ≤ 65536) : Ev (fun k => diffs_asked.f k n L bs) (if validB n L = true then (if bs.contains false = true then 1 else 0) else 40) := by
  unfold diffs_asked.f
  refine (check_ev n L).bind ?_
  by_cases hv : validB n L = true
  · rw [if_pos hv, if_pos hv]
    refine Ev.pos rfl ((contains_ev bs hb).bind ?_)
    by_cases hc : bs.contains false = true
    · refine Ev.pos hc ?_; rw [if_pos hc]; exact Ev.now _
    · refine Ev.neg hc ?_; rw [if_neg hc]; exact Ev.now _
  · rw [if_neg hv, if_neg hv]
    exact Ev.neg (by decide) (Ev.now _)
end Go.Proofs.Ytpolojoeabmhdaa.A
