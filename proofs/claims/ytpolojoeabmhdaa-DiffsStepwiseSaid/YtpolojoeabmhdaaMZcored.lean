import Derived.Test.YtpolojoeabmhdaaMZcoreb
import Derived.Test.YtpolojoeabmhdaaMZcorec
import Derived.StillTailTactics
set_option linter.unusedVariables false
set_option linter.unusedSimpArgs false
/- The methods of *use that only read: used, givers, nodes, lines. -/
namespace Go.Proofs.Ytpolojoeabmhdaa.A
open Go.RowKit Go.Proofs.YtpolojoeabmhdaaW.PrintWords Go.Proofs.YtpolojoeabmhdaaW.PrintLast Go.Proofs.YtpolojoeabmhdaaW.PrintMore
def usedL : List Int → Int → List Int
 | [], _ => []
 | x :: xs, i => if x > 0 then i :: usedL xs (i + 1) else usedL xs (i + 1)
def giversL : List Int → Int → List Int
 | [], _ => []
 | x :: xs, i => if 0 < i ∧ x < 0 then i :: giversL xs (i + 1) else giversL xs (i + 1)
theorem drop_rd (l : List Int) (i : Int) (h0 : 0 ≤ i) (h1 : i < l.length) : l.drop i.toNat = rd l i :: l.drop (i + 1).toNat := by
 rw [show (i + 1).toNat = i.toNat + 1 from by omega]; rw [List.drop_eq_getElem_cons (by omega)]; congr 1; unfold rd; rw [List.getD_eq_getElem?_getD, List.getElem?_eq_getElem (by omega)]; rfl
theorem used_pos {l : List Int} {i : Int} {acc : List Int} (h0 : 0 ≤ i) (h1 : i < l.length) (hp : 0 < rd l i) : acc ++ usedL (l.drop i.toNat) i = (acc ++ [i]) ++ usedL (l.drop (i + 1).toNat) (i + 1) := by
 rw [drop_rd l i h0 h1, usedL, if_pos hp, List.append_assoc]; rfl
theorem used_neg {l : List Int} {i : Int} {acc : List Int} (h0 : 0 ≤ i) (h1 : i < l.length) (hp : ¬ 0 < rd l i) : acc ++ usedL (l.drop i.toNat) i = acc ++ usedL (l.drop (i + 1).toNat) (i + 1) := by
 rw [drop_rd l i h0 h1, usedL, if_neg hp]
theorem givers_pos {l : List Int} {i : Int} {acc : List Int} (h0 : 0 ≤ i) (h1 : i < l.length) (hp : 0 < i ∧ rd l i < 0) : acc ++ giversL (l.drop i.toNat) i = (acc ++ [i]) ++ giversL (l.drop (i + 1).toNat) (i + 1) := by
 rw [drop_rd l i h0 h1, giversL, if_pos hp, List.append_assoc]; rfl
theorem givers_neg {l : List Int} {i : Int} {acc : List Int} (h0 : 0 ≤ i) (h1 : i < l.length) (hp : ¬ (0 < i ∧ rd l i < 0)) : acc ++ giversL (l.drop i.toNat) i = acc ++ giversL (l.drop (i + 1).toNat) (i + 1) := by
 rw [drop_rd l i h0 h1, giversL, if_neg hp]
set_option maxHeartbeats 2000000 in
set_option maxRecDepth 100000 in
theorem use_used.calls (g : Nat) (n0 : Value) (D V : Value) (AF : Option Addr) (cF : Nat) (flow : List Int) (w : World) (hb : w.heap[g]? = some (.cells #[n0, D, .slice AF flow.length cF, V] 96 (0, 0))) (hF : Kd.C (Kd.int .i64) w AF flow.length flow) (hl : flow.length ≤ 65536) :
  Calls Try.prog 131 #[.pointer (some ⟨g, 0, none⟩)] w fun e w' => ∃ v0_ : Value, e = .returned v0_ ∧ Kd.R (Kd.int .i64) 3 w' w.heap.size (fun _ => True) v0_ (usedL flow 0) ∧ Below w.heap.size w w' := by
 have hz : w.cell? ⟨g, 2, none⟩ = some (.slice AF flow.length cF) := (bC_ hb 2).trans rfl; have HF := Z_ hF; have HL := Z_ hl; have HB := Z_ (Below.refl w.heap.size w); clear hb hF hl; go_enter Try.func131, Try.ntmps131; go_wp2; go_loopg [3, 11] flow.length (fun kq v3 v11 w' => ∃ (acc : List Int) (i : Int), v11 = .int .i64 i ∧ Aside0 (0 ≤ i ∧ (kq : Int) + i = flow.length ∧ (acc.length : Int) ≤ i ∧ acc ++ usedL (flow.drop i.toNat) i = usedL flow 0) ∧ Aside0 (Kd.R (Kd.int .i64) 3 w' w.heap.size (fun _ => True) v3 acc) ∧ Aside0 (Below w.heap.size w w'))
 case atStart => exact ⟨[], 0, rfl, ⟨by omega, by omega, by simp, by simp⟩, ⟨Kd.R_nil _ _ _ _ _⟩, HB⟩
 case round =>
  obtain ⟨acc, i, rfl, HI, HO, HB⟩ := hrel; have h0 := HI.out.1; have hk := HI.out.2.1; have hL := HL.out; by_cases hlt : i < (flow.length : Int)
  ·obtain ⟨ad, e1, hx⟩ := Kd.at_int HF.out i h0 hlt
   cases e1
   have hx1 := (HB.out.cell (World.block_lt_of_cell? w _ hx)).trans hx; clear hx; have hw64 : i + 1 ≤ 9223372036854775807 := by omega
   by_cases hp : 0 < rd flow i
   ·have e2 := Z_ (HI.out.2.2.2.symm.trans (used_pos (acc := acc) h0 hlt hp))
    have hpb : decide (rd flow i > 0) = true := eT_ hp; have hal := HI.out.2.2.1; go_wp2_with ((with_reducible refine gate_builtin (b := .append) (xs := #[.tmp 18, .tmp 20]) rfl ?_); at_builtin; refine Kd.R_append (Kd.int .i64) (w0 := w) w.heap.size rfl (.tmp 18) (.tmp 20) 29 3 (.int .i64 0) 8 rfl Try.underlying29 info3 rfl (by decide) (by omega) u3 acc i [.int .i64 i] (fun _ => True) (fun _ => False) rfl rfl ?aP (fun _ hk => hk.elim) ?aF ?aO ?aB ?aS ?aL ?_; (case aP => exact rfl); (case aB => exact hB_); (case aF => exact (fun _ _ => trivial)); (case aO => exact (rK_ HO.out)); (case aS => exact (fZ_ hB_)); (case aL => omega); intro v118 w6 ho hb hg hat; clear HB HO; have HB := Z_ hb; have HO := Z_ ho; clear ho hb hg hat); go_roundg (gk - 1)
    case measure => omega
    case rel => exact ⟨acc ++ [i], i + 1, rfl, ⟨by omega, by omega, by simp; omega, e2.out.symm⟩, HO, HB⟩
   have e2 := Z_ (HI.out.2.2.2.symm.trans (used_neg (acc := acc) h0 hlt hp)); have hpb : decide (rd flow i > 0) = false := eF_ hp; have hal := HI.out.2.2.1; go_wp2; go_roundg (gk - 1)
   case measure => omega
   case rel => exact ⟨acc, i + 1, rfl, ⟨by omega, by omega, by omega, e2.out.symm⟩, HO, HB⟩
  go_wp2; go_ret; refine ⟨_, rfl, ?_, HB.out⟩; have := HI.out.2.2.2; rw [List.drop_eq_nil_of_le (by omega)] at this; rw [← this]; simpa [usedL] using HO.out
set_option maxHeartbeats 2000000 in
set_option maxRecDepth 100000 in
theorem use_givers.calls (g : Nat) (n0 : Value) (D V : Value) (AW : Option Addr) (cW : Nat) (want : List Int) (w : World) (hb : w.heap[g]? = some (.cells #[n0, D, V, .slice AW want.length cW] 96 (0, 0))) (hF : Kd.C (Kd.int .i64) w AW want.length want) (hl : want.length ≤ 65536) :
  Calls Try.prog 127 #[.pointer (some ⟨g, 0, none⟩)] w fun e w' => ∃ v0_ : Value, e = .returned v0_ ∧ Kd.R (Kd.int .i64) 3 w' w.heap.size (fun _ => True) v0_ (0 :: giversL want 0) ∧ Below w.heap.size w w' := by
 have hz : w.cell? ⟨g, 3, none⟩ = some (.slice AW want.length cW) := (bC_ hb 3).trans rfl; have HF := Z_ hF; have HL := Z_ hl; have HB := Z_ (Below.refl w.heap.size w); clear hb hF hl; go_enter Try.func127, Try.ntmps127; go_wp2_with ((with_reducible refine gate_dst (N := 6) rfl ?_); refine Kd.R_lit (Kd.int .i64) _ 3 ?hg (N := 6) ?hd (xs := ([0] : List Int)) (inner := [.int .i64 0]) (ok := fun _ => True) (okp := fun _ => True) ?hr ?hp (fun _ hk => hk) trivial (Below.refl _ _) (nR_ _) (by simp) ?_; (case hd => rfl); (case hg => rfl); (case hr => first | (go_simp; done) | (go_simp; rfl)); (case hp => exact (Reps.one (show Kd.M (Kd.int .i64) _ _ _ 0 [.int .i64 0] from rfl) (Reps.none _ _))); intro v232 w2 ho3 hb hg_ hnew_; have hz2 := (hb.cell (World.block_lt_of_cell? w _ hz)).trans hz; clear hz HB; have HB := Z_ hb; have HO := Z_ ho3; clear ho3 hb hg_ hnew_); go_loopg [3, 12] want.length (fun kq v3 v12 w' => ∃ (acc : List Int) (i : Int), v12 = .int .i64 i ∧ Aside0 (0 ≤ i ∧ (kq : Int) + i = want.length ∧ (acc.length : Int) ≤ i + 1 ∧ acc ++ giversL (want.drop i.toNat) i = 0 :: giversL want 0) ∧ Aside0 (Kd.R (Kd.int .i64) 3 w' w.heap.size (fun _ => True) v3 acc) ∧ Aside0 (Below w.heap.size w w'))
 case atStart => exact ⟨[0], 0, rfl, ⟨by omega, by omega, by simp, by simp⟩, HO, HB⟩
 case round =>
  obtain ⟨acc, i, rfl, HI, HO, HB⟩ := hrel; have h0 := HI.out.1; have hk := HI.out.2.1; have hL := HL.out; by_cases hlt : i < (want.length : Int)
  ·obtain ⟨ad, e1, hx⟩ := Kd.at_int HF.out i h0 hlt
   cases e1
   have hx1 := (HB.out.cell (World.block_lt_of_cell? w _ hx)).trans hx; clear hx; have hw64 : i + 1 ≤ 9223372036854775807 := by omega
   by_cases hi : 0 < i
   ·have hib : decide (i > 0) = true := eT_ hi
    by_cases hq : rd want i < 0
    ·have e2 := Z_ (HI.out.2.2.2.symm.trans (givers_pos (acc := acc) h0 hlt ⟨hi, hq⟩))
     have hqb : decide (rd want i < 0) = true := eT_ hq; have hal := HI.out.2.2.1; go_wp2_with ((with_reducible refine gate_builtin (b := .append) (xs := #[.tmp 23, .tmp 25]) rfl ?_); at_builtin; refine Kd.R_append (Kd.int .i64) (w0 := w) w.heap.size rfl (.tmp 23) (.tmp 25) 29 3 (.int .i64 0) 8 rfl Try.underlying29 info3 rfl (by decide) (by omega) u3 acc i [.int .i64 i] (fun _ => True) (fun _ => False) rfl rfl ?aP (fun _ hk => hk.elim) ?aF ?aO ?aB ?aS ?aL ?_; (case aP => exact rfl); (case aB => exact hB_); (case aF => exact (fun _ _ => trivial)); (case aO => exact (rK_ HO.out)); (case aS => exact (fZ_ hB_)); (case aL => omega); intro v118 w6 ho hb hg hat; clear HB HO; have HB := Z_ hb; have HO := Z_ ho; clear ho hb hg hat); go_roundg (gk - 1)
     case measure => omega
     case rel => exact ⟨acc ++ [i], i + 1, rfl, ⟨by omega, by omega, by simp; omega, e2.out.symm⟩, HO, HB⟩
    have e2 := Z_ (HI.out.2.2.2.symm.trans (givers_neg (acc := acc) h0 hlt (fun h => hq h.2))); have hqb : decide (rd want i < 0) = false := eF_ hq; have hal := HI.out.2.2.1; go_wp2; go_roundg (gk - 1)
    case measure => omega
    case rel => exact ⟨acc, i + 1, rfl, ⟨by omega, by omega, by omega, e2.out.symm⟩, HO, HB⟩
   have hib : decide (i > 0) = false := eF_ hi; have e2 := Z_ (HI.out.2.2.2.symm.trans (givers_neg (acc := acc) h0 hlt (fun h => hi h.1))); have hal := HI.out.2.2.1; go_wp2; go_roundg (gk - 1)
   case measure => omega
   case rel => exact ⟨acc, i + 1, rfl, ⟨by omega, by omega, by omega, e2.out.symm⟩, HO, HB⟩
  go_wp2; go_ret; refine ⟨_, rfl, ?_, HB.out⟩; have := HI.out.2.2.2; rw [List.drop_eq_nil_of_le (by omega)] at this; rw [← this]; simpa [giversL] using HO.out
section
variable {P : Program} {ops : Array Oper} {Q : Exit → Act → World → Prop}
/-- A struct of three numbers is stored into its own block. -/
theorem store_box3 {rest : List Oper} {o : Oper} {a : Act} {W : World} (hgd : o.guard = none) (hd : o.dst = none) (p x : Operand) (ho : o.op = .store 39 p x) (hinfo : (P.info? 39).map (·.size) = some 3)
  (g : Nat) (haddr : a.eval p = .pointer (some ⟨g, 0, none⟩)) (d0 d1 d2 : Int) (hx : a.eval x = .agg #[.int .i64 d0, .int .i64 d1, .int .i64 d2]) (cs : Array Value) (hb : W.heap[g]? = some (.cells cs 39 (0, 0))) (hcs : cs.size = 3)
  (h : ∀ w1, w1.heap[g]? = some (.cells #[.int .i64 d0, .int .i64 d1, .int .i64 d2] 39 (0, 0)) → W.grownBy w1 (some g) → wpList P ops Q rest a w1) : wpList P ops Q (o :: rest) a W := by
 have hrun := run_store_run (P := P) (w := W) (g := g) (o := 0) (e := 39) (cur := cs) 39 (.agg #[.int .i64 d0, .int .i64 d1, .int .i64 d2]) [.int .i64 d0, .int .i64 d1, .int .i64 d2] hb rfl hinfo (by simp [hcs]) (by intro q hq; simp only [List.mem_cons, List.not_mem_nil, or_false] at hq; rcases hq with rfl | rfl | rfl <;> rfl); obtain ⟨cur', h3, h4, h5⟩ := setCells_row [Value.int .i64 d0, .int .i64 d1, .int .i64 d2] 0 W cs hb (by simp [hcs]); obtain ⟨s1, s2, s3, s4⟩ := setCells_same g [Value.int .i64 d0, .int .i64 d1, .int .i64 d2] 0 W
 have e : cur' = #[.int .i64 d0, .int .i64 d1, .int .i64 d2] := by
  apply Array.ext'; rw [h5]; have : cs.toList.drop 3 = [] := List.drop_eq_nil_of_le (by simp [hcs]); simp [this]
 subst e; refine wpList_plain hgd fun K hK => ?_
 unfold Oper.wp execOp; simp only [ho, Sem.run_bind, haddr, hx, hrun, Result.andThen_ok, Sem.run_pure, mT_, mC_, mN_]; have h' := h _ h3 ⟨s1, s2, s3, by rw [s4]; exact nR_ _, fun k _ hk => setCells_far _ _ k (fun he => hk (by rw [he]))⟩; have ea : a.put o.dst undef = a := by rw [hd]; rfl
 first | exact hK _ _ (by rw [ea]; exact h') | (refine hK _ _ ?_; simpa [hd, Act.put] using h')
end
def turnD (d : S39) : S39 := ⟨d.f1, d.f0, -d.f2⟩
def linesL (diffs : List S39) (flow : List Int) : List S39 := diffs ++ (usedL flow 0).map fun k => turnD (rd_T39 diffs k)
theorem usedL_mem : ∀ (l : List Int) (i k : Int), k ∈ usedL l i → i ≤ k ∧ k < i + l.length
 | [], _, _, h => by simp [usedL] at h
 | x :: xs, i, k, h => by
  unfold usedL at h
  have key : k ∈ usedL xs (i + 1) → i ≤ k ∧ k < i + (x :: xs).length := fun h => by
   have := usedL_mem xs (i + 1) k h; simp only [List.length_cons]; omega
  by_cases hp : x > 0
  ·rw [if_pos hp] at h
   rcases List.mem_cons.1 h with rfl | h
   ·simp only [List.length_cons]; omega
   exact key h
  rw [if_neg hp] at h; exact key h
theorem usedL_len : ∀ (l : List Int) (i : Int), (usedL l i).length ≤ l.length
 | [], _ => by simp [usedL]
 | x :: xs, i => by
  unfold usedL; have := usedL_len xs (i + 1); by_cases hp : x > 0; ·rw [if_pos hp]; simp; omega
  rw [if_neg hp]; simp; omega
set_option maxHeartbeats 1000000 in
theorem use_nodes.calls (g : Nat) (n0 : Int) (D F V : Value) (w : World) (hb : w.heap[g]? = some (.cells #[.int .i64 n0, D, F, V] 96 (0, 0))) :
  Calls Try.prog 149 #[.pointer (some ⟨g, 0, none⟩)] w fun e w' => e = .returned (.int .i64 n0) ∧ Below w.heap.size w w' := by
 have hz : w.cell? ⟨g, 0, none⟩ = some (.int .i64 n0) := (bC_ hb 0).trans rfl; clear hb; go_enter Try.func149, Try.ntmps149; go_wp2; go_ret; exact ⟨rfl, Below.refl _ _⟩
set_option maxHeartbeats 4000000 in
set_option maxRecDepth 100000 in
theorem use_lines.calls (g : Nat) (n0 : Value) (AD : Option Addr) (cD : Nat) (diffs : List S39) (V : Value) (AF : Option Addr) (cF : Nat) (flow : List Int) (w : World) (hb : w.heap[g]? = some (.cells #[n0, .slice AD diffs.length cD, .slice AF flow.length cF, V] 96 (0, 0)))
  (hD : Kd.C k39 w AD diffs.length diffs) (hcD : diffs.length ≤ cD) (hF : Kd.C (Kd.int .i64) w AF flow.length flow) (hfd : flow.length = diffs.length) (hl : diffs.length ≤ 65536) (hm : ∀ d ∈ diffs, -4611686018427387904 ≤ d.f2 ∧ d.f2 ≤ 4611686018427387904) :
  Calls Try.prog 130 #[.pointer (some ⟨g, 0, none⟩)] w fun e w' => ∃ v0_ : Value, e = .returned v0_ ∧ Kd.R k39 39 w' w.heap.size (fun _ => True) v0_ (linesL diffs flow) ∧ Below w.heap.size w w' := by
 have hz : w.cell? ⟨g, 1, none⟩ = some (.slice AD diffs.length cD) := (bC_ hb 1).trans rfl; have HD := Z_ hD; have HCD := Z_ hcD; have HF := Z_ hF; have HFD := Z_ hfd; have HL := Z_ hl; have HM := Z_ hm; have BU0 := Z_ hb; have HB := Z_ (Below.refl w.heap.size w); clear hb hD hcD hF hfd hl hm; go_enter Try.func130, Try.ntmps130
 go_wp2_with (first
  | ((with_reducible refine gate_callee (f := 62) rfl ?_); refine gL_ (some 12) Try.func62 #[.slice AD diffs.length cD] ?_; (refine (api_Diff_62.calls AD cD diffs diffs _ HD.out HCD.out (by unfold api_Diff_62.f; rw [if_pos HL.out])).mono ?_); rintro e w1 ⟨v3, rfl, ho, hb⟩; refine ⟨_, rfl, ?_⟩; have HO := Z_ ho; clear HB; have HB := Z_ hb; clear ho hb)
  | ((with_reducible refine gate_callee (f := 131) rfl ?_); refine gL_ (some 14) Try.func131 #[.pointer (some ⟨g, 0, none⟩)] ?_; (refine (use_used.calls g n0 _ V AF cF flow _ (bB_ BU0.out HB.out) (cB_ HF.out HB.out) (by have := HL.out; have := HFD.out; omega)).mono ?_); rintro e w2 ⟨vU, rfl, ho2, hb2⟩; refine ⟨_, rfl, ?_⟩; have HO2 := Z_ (rB_ HO.out hb2); have HU := Z_ (rL_ ho2 HB.out.size); have HB2 := Z_ (fS_ HB.out hb2); clear HB HO ho2 hb2; have HB := HB2; have HO := HO2; clear HB2 HO2; obtain ⟨U, hUe⟩ : ∃ U, U = usedL flow 0 := ⟨_, rfl⟩; rw [← hUe] at HU; have HUE := Z_ hUe; clear hUe; (obtain ⟨AU, cU, rfl⟩ := own_slice (Kd.own_of_R HU.out))))
 have BU := Z_ (bB_ BU0.out HB.out)
 have HX := Z_ (show ∀ i, 0 ≤ i → i < (U.length : Int) → 0 ≤ rd U i ∧ rd U i < (diffs.length : Int) from fun i h0 h1 => by
  have hm : rd U i ∈ U := by
   unfold rd; rw [List.getD_eq_getElem?_getD, List.getElem?_eq_getElem (by omega)]; exact List.getElem_mem _
  have hm2 : ∀ x, x ∈ U → x ∈ usedL flow 0 := by rw [HUE.out]; exact fun _ h => h
  have := usedL_mem flow 0 _ (hm2 _ hm); have := HFD.out; omega)
 have HUL := Z_ (show U.length ≤ 65536 from by rw [HUE.out]; have := usedL_len flow 0; have := HFD.out; have := HL.out; omega); go_loopg [3, 16] U.length (fun kq v3 v16 w' => ∃ (acc : List S39) (i : Int), v16 = .int .i64 i ∧ Aside0 (0 ≤ i ∧ (kq : Int) + i = U.length ∧ (acc.length : Int) ≤ 65536 + i ∧ acc ++ (U.drop i.toNat).map (fun k => turnD (rd_T39 diffs k)) = linesL diffs flow) ∧ Aside0 (Kd.R k39 39 w' w.heap.size (fun _ => True) v3 acc) ∧ Aside0 (Kd.R (Kd.int .i64) 3 w' w.heap.size (fun _ => True) (Value.slice AU U.length cU) U) ∧ Aside0 (w'.heap[g]? = some (.cells #[n0, .slice AD diffs.length cD, .slice AF flow.length cF, V] 96 (0, 0))) ∧ Aside0 (Below w.heap.size w w'))
 case atStart => exact ⟨diffs, 0, rfl, ⟨by omega, by omega, by have := HL.out; omega, by rw [HUE.out]; rfl⟩, HO, HU, BU, HB⟩
 case round =>
  clear hz; obtain ⟨acc, i, rfl, HI, HO, HU, BU, HB⟩ := hrel; have h0 := HI.out.1; have hk := HI.out.2.1; have hUL := HUL.out; by_cases hlt : i < (U.length : Int)
  ·obtain ⟨adu, e1, hxu⟩ := Kd.at_int (rR_ HU.out).2.2 i h0 hlt
   cases e1
   have p0 := (HX.out i h0 hlt).1; have p1 := (HX.out i h0 hlt).2; obtain ⟨add, e2, hy0, hy1, hy2⟩ := at_T39 HD.out (rd U i) p0 p1; cases e2
   replace hy0 := (HB.out.cell (World.block_lt_of_cell? w _ hy0)).trans hy0; replace hy1 := (HB.out.cell (World.block_lt_of_cell? w _ hy1)).trans hy1; replace hy2 := (HB.out.cell (World.block_lt_of_cell? w _ hy2)).trans hy2; have hgz : wr.cell? ⟨g, 1, none⟩ = some (.slice (some add) diffs.length cD) := (bC_ BU.out 1).trans rfl; have hal := HI.out.2.2.1; have hw64 : i + 1 ≤ 9223372036854775807 := by omega
   have hmm := HM.out (rd_T39 diffs (rd U i)) (by
    unfold rd_T39; rw [List.getD_eq_getElem?_getD, List.getElem?_eq_getElem (by omega)]; exact List.getElem_mem _)
   have hm1 := hmm.1; have hm2 := hmm.2; clear hmm; have hneg : IntKind.i64.wrap (-(rd_T39 diffs (rd U i)).f2) = -(rd_T39 diffs (rd U i)).f2 := by rw [IntKind.wrap_i64]; omega
   have e3 := Z_ (show (acc ++ [turnD (rd_T39 diffs (rd U i))]) ++ (U.drop (i + 1).toNat).map (fun k => turnD (rd_T39 diffs k)) = linesL diffs flow from by
    rw [← HI.out.2.2.2, drop_rd U i h0 hlt, mC_, List.append_assoc]; rfl)
   go_wp2_with (first | ((with_reducible refine gate_dst (N := 6) rfl ?_); go_must (refine bX_ 6 #[.int .i64 0, .int .i64 0, .int .i64 0] 39 ?_; intro g6 hg w5 hbox hb; have n0_ := Z_ (rB_ HO.out hb); have n1_ := Z_ (rB_ HU.out hb); have n2_ := Z_ (bB_ BU.out hb); have n3_ := Z_ (fS_ HB.out hb); have n4_ := Z_ (show some g6 ≠ u3.ownBlock ∧ some g6 ≠ (Value.slice (some adu) U.length cU).ownBlock ∧ w.heap.size ≤ g6 ∧ g ≠ g6 from ⟨fun e => (by have := Kd.R_lt HO.out g6 e.symm; omega), fun e => (by have := Kd.R_lt HU.out g6 e.symm; omega), (by rw [hg]; exact HB.out.size), (by have := blk_lt BU.out; omega)⟩); have BK := Z_ hbox; clear HO HU BU HB hb hbox hg; have HO := n0_; have HU := n1_; have BU := n2_; have HB := n3_; have NE := n4_; clear n0_ n1_ n2_ n3_ n4_)) | (refine gate_store (t := 39) (p := 6) (v := .tmp 27) rfl ?_; refine store_box3 rfl rfl (.tmp 6) (.tmp 27) rfl (by rfl) g6 rfl _ _ _ rfl _ BK.out rfl ?_; intro w6 hb6 hg6; replace HO := Z_ (Kd.R_grown1 HO.out rfl hg6 NE.out.1); replace HU := Z_ (Kd.R_grown1 HU.out rfl hg6 NE.out.2.1); replace BU := Z_ (blk_grown BU.out hg6 (fun e => NE.out.2.2.2 (oI_ e))); replace HB := Z_ (HB.out.grown hg6 HB.out.size (fun k hk => by cases hk; exact NE.out.2.2.1)); clear BK hg6; have hz0 : w6.cell? ⟨g6, 0, none⟩ = _ := (bC_ hb6 0).trans rfl; have hz1 : w6.cell? ⟨g6, 1, none⟩ = _ := (bC_ hb6 1).trans rfl; have hz2 : w6.cell? ⟨g6, 2, none⟩ = _ := (bC_ hb6 2).trans rfl; clear hb6) | ((with_reducible refine gate_builtin (b := .append) (xs := #[.tmp 28, .tmp 37]) rfl ?_); at_builtin; refine Kd.R_append k39 (w0 := w) w.heap.size rfl (.tmp 28) (.tmp 37) 22 39 (.agg #[(.int .i64 0), (.int .i64 0), (.int .i64 0)]) 24 rfl Try.underlying22 info39 rfl (by decide) (by omega) u3 acc (turnD (rd_T39 diffs (rd U i))) [.int .i64 (rd_T39 diffs (rd U i)).f1, .int .i64 (rd_T39 diffs (rd U i)).f0, .int .i64 (-(rd_T39 diffs (rd U i)).f2)] (fun _ => True) (fun _ => False) rfl (by first | (go_simp; done) | (go_simp; rfl)) ?aP (fun _ hk => hk.elim) ?aF ?aO ?aB ?aS ?aL ?_; (case aP => exact k39_mkM _ _ _ (turnD (rd_T39 diffs (rd U i)))); (case aB => exact hB_); (case aF => exact (fun _ _ => trivial)); (case aO => exact (rK_ HO.out)); (case aS => exact (fZ_ hB_)); (case aL => omega); intro v118 w8 ho hb hg hat; have n0_ := Z_ (Kd.R_over' (rK_ HU.out) (Kd.R_typed (rK_ HO.out)) (by decide) hg); have n1_ := Z_ (blk_grown (bR_ BU.out) hg (Kd.R_ne HO.out BU.out (by decide))); clear HB HO HU BU; have HB := Z_ hb; have HO := Z_ ho; have HU := n0_; have BU := n1_; clear n0_ n1_ ho hb hg hat)); go_roundg (gk - 1)
   case measure => omega
   case rel => exact ⟨acc ++ [turnD (rd_T39 diffs (rd U i))], i + 1, rfl, ⟨by omega, by omega, by simp; omega, e3.out⟩, HO, HU, BU, HB⟩
  go_wp2; go_ret; refine ⟨_, rfl, ?_, HB.out⟩; have := HI.out.2.2.2; rw [List.drop_eq_nil_of_le (by omega)] at this; rw [← this]; simpa using HO.out
theorem f130_ok : Try.prog.funcs[130]? = some Try.f130 := by kernel_rfl
theorem f149_ok : Try.prog.funcs[149]? = some Try.f149 := by kernel_rfl
theorem graph_use {g : Nat} {n0 : Int} {AD : Option Addr} {cD : Nat} {diffs : List S39} {V : Value} {AF : Option Addr} {cF : Nat} {flow : List Int} {w : World} (hb : w.heap[g]? = some (.cells #[.int .i64 n0, .slice AD diffs.length cD, .slice AF flow.length cF, V] 96 (0, 0)))
  (hD : Kd.C k39 w AD diffs.length diffs) (hcD : diffs.length ≤ cD) (hF : Kd.C (Kd.int .i64) w AF flow.length flow) (hfd : flow.length = diffs.length) (hl : diffs.length ≤ 65536) (hm : ∀ d ∈ diffs, -4611686018427387904 ≤ d.f2 ∧ d.f2 ≤ 4611686018427387904) :
  Graph w 91 (.pointer (some ⟨g, 0, none⟩)) n0 (linesL diffs flow) :=
 ⟨130, 149, .pointer (some ⟨g, 0, none⟩), .pointer (some ⟨g, 0, none⟩), Try.f130, Try.f149, fun W => m_use_lines _ W, fun W => m_use_nodes _ W, ⟨f130_ok, rfl, rfl⟩, ⟨f149_ok, rfl, rfl⟩,
  fun W hW => (use_lines.calls g (.int .i64 n0) AD cD diffs V AF cF flow W (bB_ hb hW) (cB_ hD hW) hcD (cB_ hF hW) hfd hl hm).mono fun e W' h => by
   obtain ⟨v, rfl, ho, hb2⟩ := h; obtain ⟨A, c, rfl, hc, hC⟩ := Kd.R_reads ho; exact ⟨A, c, rfl, hc, hC, hb2⟩,
  fun W hW => use_nodes.calls g n0 _ _ V W (bB_ hb hW)⟩
end Go.Proofs.Ytpolojoeabmhdaa.A
/- step: as much as possible along one shortest walk. -/
namespace Go.Proofs.Ytpolojoeabmhdaa.A
open Go.RowKit Go.Proofs.YtpolojoeabmhdaaW.PrintWords Go.Proofs.YtpolojoeabmhdaaW.PrintLast Go.Proofs.YtpolojoeabmhdaaW.PrintMore
attribute [local go_sem] max2_int min2_int max_two min_two max_three min_three max_four min_four
section
variable {P : Program} {ops : Array Oper} {Q : Exit → Act → World → Prop}
/-- A struct is stored into its own block. -/
theorem store_box {rest : List Oper} {o : Oper} {a : Act} {W : World} (hgd : o.guard = none) (hd : o.dst = none) (t : TypeId) (p x : Operand) (ho : o.op = .store t p x) (seg : List Value) (hinfo : (P.info? t).map (·.size) = some seg.length)
  (g : Nat) (haddr : a.eval p = .pointer (some ⟨g, 0, none⟩)) (u : Value) (hx : a.eval x = u) (hu : u.cells.toList = seg) (h1 : ∀ q ∈ seg, q.oneCell' = true) (cs : Array Value) (hb : W.heap[g]? = some (.cells cs t (0, 0))) (hcs : cs.size = seg.length)
  (h : ∀ w1, w1.heap[g]? = some (.cells seg.toArray t (0, 0)) → W.grownBy w1 (some g) → wpList P ops Q rest a w1) : wpList P ops Q (o :: rest) a W := by
 have hrun := run_store_run (P := P) (w := W) (g := g) (o := 0) (e := t) (cur := cs) t u seg hb hu hinfo (by omega) h1; obtain ⟨cur', h3, h4, h5⟩ := setCells_row seg 0 W cs hb (by omega); obtain ⟨s1, s2, s3, s4⟩ := setCells_same g seg 0 W
 have e : cur' = seg.toArray := by
  apply Array.ext'; rw [h5]; have : cs.toList.drop seg.length = [] := List.drop_eq_nil_of_le (by simp [hcs]); simp [this]
 subst e; refine wpList_plain hgd fun K hK => ?_
 unfold Oper.wp execOp; simp only [ho, Sem.run_bind, haddr, hx, hrun, Result.andThen_ok, Sem.run_pure, mT_, mC_, mN_]; have h' := h _ h3 ⟨s1, s2, s3, by rw [s4]; exact nR_ _, fun k _ hk => setCells_far _ _ k (fun he => hk (by rw [he]))⟩; refine hK _ _ ?_; simpa [hd, Act.put] using h'
end
/-- Two values lie in blocks of their own. -/
def Dj (u v : Value) : Prop := ∀ k, u.ownBlock = some k → v.ownBlock ≠ some k
theorem Dj.symm {u v : Value} (h : Dj u v) : Dj v u := fun k hk e => h k e hk
theorem Dj.ne {u v : Value} (h : Dj u v) : ∀ k, u.ownBlock = some k → some k ≠ v.ownBlock := fun k hk e => h k hk e.symm
theorem Dj.fresh {α β : Type} {d : Kd α} {d' : Kd β} {e e' base base' : Nat} {ok ok' : Nat → Prop} {w w1 : World} {u v : Value} {xs : List α} {ys : List β} (hu : d.R e w base ok u xs) (hv : d'.R e' w1 base' ok' v ys) (hb : w.heap.size ≤ base') : Dj u v := fun k hk hv2 => by
 have := Kd.R_lt hu k hk; have := Kd.R_base hv k hv2; omega
def pathL (L : List S39) (last : List Int) : Nat → Int → List Int → Option (List Int × Int)
 | 0, _, _ => none
 | k + 1, v, acc => if 0 ≤ v ∧ v < last.length then
   (if rd last v ≥ 0 then (if rd last v < L.length ∧ acc.length < 65536 then pathL L last k (rd_T39 L (rd last v)).f0 (acc ++ [rd last v]) else none) else some (acc, v)) else none
def muchL (nd : Int) (flow U : List Int) : List Int → Int → Option Int
 | [], m => some m
 | k :: ks, m => if k ≥ nd then (if (0 ≤ wrap64 (k - nd) ∧ wrap64 (k - nd) < U.length) ∧ 0 ≤ rd U (wrap64 (k - nd)) ∧ rd U (wrap64 (k - nd)) < flow.length then muchL nd flow U ks (min m (rd flow (rd U (wrap64 (k - nd))))) else none) else muchL nd flow U ks m
def applyL (nd : Int) (U : List Int) (much : Int) : List Int → List Int → Option (List Int)
 | [], flow => some flow
 | k :: ks, flow => if k ≥ nd then (if (0 ≤ wrap64 (k - nd) ∧ wrap64 (k - nd) < U.length) ∧ 0 ≤ rd U (wrap64 (k - nd)) ∧ rd U (wrap64 (k - nd)) < flow.length then applyL nd U much ks (flow.set (rd U (wrap64 (k - nd))).toNat (wrap64 (rd flow (rd U (wrap64 (k - nd))) - much))) else none)
   else (if 0 ≤ k ∧ k < flow.length then applyL nd U much ks (flow.set k.toNat (wrap64 (rd flow k + much))) else none)
def much1 (want : List Int) (tg : Int) : Int := if tg = 0 then 1152921504606846976 else rd want tg
def much2 (want : List Int) (tg v : Int) : Int := if v = 0 then much1 want tg else min (much1 want tg) (wrap64 (-(rd want v)))
def want1 (want : List Int) (tg m : Int) : List Int := if tg = 0 then want else want.set tg.toNat (wrap64 (rd want tg - m))
def want2 (want : List Int) (tg v m : Int) : List Int := if v = 0 then want1 want tg m else (want1 want tg m).set v.toNat (wrap64 (rd (want1 want tg m) v + m))
def stepL (k : Nat) (n0 : Int) (diffs : List S39) (flow want : List Int) (tg : Int) (givers : List Int) : Option (Bool × List Int × List Int) :=
 (diffs_grow.f k n0 (linesL diffs flow) givers).bind fun t =>
  if 0 ≤ tg ∧ tg < t.2.1.length ∧ tg < want.length then
   (if rdOf false t.2.1 tg = false then some (false, flow, want)
   else (pathL (linesL diffs flow) t.2.2.1 k tg []).bind fun p =>
    if p.2 < want.length then
     (muchL (diffs.length : Int) flow (usedL flow 0) p.1 (much2 want tg p.2)).bind fun m =>
      (applyL (diffs.length : Int) (usedL flow 0) m p.1 flow).bind fun flow' => some (true, flow', want2 want tg p.2 m)
    else none)
  else none
/-- What step holds in the memory, behind the growing. -/
structure St (g g9 : Nat) (C1 C9 : Array Value) (vF vW vL vU vA : Value) (L : List S39) (U la : List Int) (w0 : World) (flow want : List Int) (W : World) : Prop where
 bu : W.heap[g]? = some (.cells C1 96 (0, 0))
 bt : W.heap[g9]? = some (.cells C9 88 (0, 0))
 rf : Kd.R (Kd.int .i64) 3 W w0.heap.size (fun _ => True) vF flow
 rw : Kd.R (Kd.int .i64) 3 W w0.heap.size (fun _ => True) vW want
 rl : Kd.R k39 39 W w0.heap.size (fun _ => True) vL L
 ru : Kd.R (Kd.int .i64) 3 W w0.heap.size (fun _ => True) vU U
 ra : Kd.R (Kd.int .i64) 3 W w0.heap.size (fun _ => True) vA la
 hb : Below w0.heap.size w0 W
/-- A block that is none of these. -/
structure Away (g g9 : Nat) (vF vW vL vU vA : Value) (w0 : World) (k : Nat) : Prop where
 g : k ≠ g
 g9 : k ≠ g9
 f : vF.ownBlock ≠ some k
 w : vW.ownBlock ≠ some k
 l : vL.ownBlock ≠ some k
 u : vU.ownBlock ≠ some k
 a : vA.ownBlock ≠ some k
 b : w0.heap.size ≤ k
section
variable {g g9 : Nat} {C1 C9 : Array Value} {vF vW vL vU vA : Value} {L : List S39} {U la flow want : List Int} {w0 W W1 : World}
theorem St.away (h : St g g9 C1 C9 vF vW vL vU vA L U la w0 flow want W) {k : Nat} (hk : W.heap.size ≤ k) : Away g g9 vF vW vL vU vA w0 k :=
 ⟨fun e => by have := blk_lt h.bu; omega, fun e => by have := blk_lt h.bt; omega, fun e => by have := Kd.R_lt h.rf k e; omega, fun e => by have := Kd.R_lt h.rw k e; omega, fun e => by have := Kd.R_lt h.rl k e; omega, fun e => by have := Kd.R_lt h.ru k e; omega, fun e => by have := Kd.R_lt h.ra k e; omega, Nat.le_trans h.hb.size hk⟩
theorem St.grown (h : St g g9 C1 C9 vF vW vL vU vA L U la w0 flow want W) {row : Option Nat} (hg : W.grownBy W1 row) (ha : ∀ k, row = some k → Away g g9 vF vW vL vU vA w0 k) : St g g9 C1 C9 vF vW vL vU vA L U la w0 flow want W1 :=
 ⟨blk_grown h.bu hg (fun e => (ha _ e.symm).g rfl), blk_grown h.bt hg (fun e => (ha _ e.symm).g9 rfl), Kd.R_grown2 h.rf rfl hg (fun k e e2 => (ha k e).f e2.symm), Kd.R_grown2 h.rw rfl hg (fun k e e2 => (ha k e).w e2.symm), Kd.R_grown2 h.rl rfl hg (fun k e e2 => (ha k e).l e2.symm), Kd.R_grown2 h.ru rfl hg (fun k e e2 => (ha k e).u e2.symm), Kd.R_grown2 h.ra rfl hg (fun k e e2 => (ha k e).a e2.symm), h.hb.grown hg h.hb.size (fun k e => (ha k e).b)⟩
theorem St.below (h : St g g9 C1 C9 vF vW vL vU vA L U la w0 flow want W) (hb : Below W.heap.size W W1) : St g g9 C1 C9 vF vW vL vU vA L U la w0 flow want W1 := h.grown (grown_of_below hb none) (fun _ e => by cases e)
/-- The flow is written in place. -/
theorem St.setF (h : St g g9 C1 C9 vF vW vL vU vA L U la w0 flow want W) {flow' : List Int} {k : Nat} (hk : vF.ownBlock = some k) (hg : W.grownBy W1 (some k)) (hr : Kd.R (Kd.int .i64) 3 W1 w0.heap.size (fun _ => True) vF flow') (h1 : k ≠ g) (h2 : k ≠ g9) (h3 : vW.ownBlock ≠ some k) (h4 : vL.ownBlock ≠ some k) (h5 : vU.ownBlock ≠ some k) (h6 : vA.ownBlock ≠ some k) : St g g9 C1 C9 vF vW vL vU vA L U la w0 flow' want W1 :=
 ⟨blk_grown h.bu hg (fun e => h1 (oI_ e).symm), blk_grown h.bt hg (fun e => h2 (oI_ e).symm), hr, Kd.R_grown2 h.rw rfl hg (fun k' e e2 => h3 (by rw [← e2, e])), Kd.R_grown2 h.rl rfl hg (fun k' e e2 => h4 (by rw [← e2, e])), Kd.R_grown2 h.ru rfl hg (fun k' e e2 => h5 (by rw [← e2, e])), Kd.R_grown2 h.ra rfl hg (fun k' e e2 => h6 (by rw [← e2, e])), h.hb.grown hg h.hb.size (fun k' e => by cases e; exact Kd.R_base h.rf k hk)⟩
theorem St.setW (h : St g g9 C1 C9 vF vW vL vU vA L U la w0 flow want W) {want' : List Int} {k : Nat} (hk : vW.ownBlock = some k) (hg : W.grownBy W1 (some k)) (hr : Kd.R (Kd.int .i64) 3 W1 w0.heap.size (fun _ => True) vW want') (h1 : k ≠ g) (h2 : k ≠ g9) (h3 : vF.ownBlock ≠ some k) (h4 : vL.ownBlock ≠ some k) (h5 : vU.ownBlock ≠ some k) (h6 : vA.ownBlock ≠ some k) : St g g9 C1 C9 vF vW vL vU vA L U la w0 flow want' W1 :=
 ⟨blk_grown h.bu hg (fun e => h1 (oI_ e).symm), blk_grown h.bt hg (fun e => h2 (oI_ e).symm), Kd.R_grown2 h.rf rfl hg (fun k' e e2 => h3 (by rw [← e2, e])), hr, Kd.R_grown2 h.rl rfl hg (fun k' e e2 => h4 (by rw [← e2, e])), Kd.R_grown2 h.ru rfl hg (fun k' e e2 => h5 (by rw [← e2, e])), Kd.R_grown2 h.ra rfl hg (fun k' e e2 => h6 (by rw [← e2, e])), h.hb.grown hg h.hb.size (fun k' e => by cases e; exact Kd.R_base h.rw k hk)⟩
theorem grown_set (w : World) (a : Addr) (u : Value) : w.grownBy (w.setCell a u) (some a.block) :=
 ⟨rfl, rfl, rfl, Nat.le_of_eq (by simp), fun k _ h => Below.heap_setCell w a u k (fun e => h (by rw [e]))⟩
/-- One element of the flow is written. -/
theorem St.putF {gF n c : Nat} (h : St g g9 C1 C9 (.slice (some ⟨gF, 0, none⟩) n c) vW vL vU vA L U la w0 flow want W) (i x : Int) (d1 : Dj (.slice (some ⟨gF, 0, none⟩) n c) vW) (d2 : Dj (.slice (some ⟨gF, 0, none⟩) n c) vU) (d3 : Dj (.slice (some ⟨gF, 0, none⟩) n c) vA) : St g g9 C1 C9 (.slice (some ⟨gF, 0, none⟩) n c) vW vL vU vA L U la w0 (flow.set i.toNat x) want (W.setCell ⟨gF, i.toNat, none⟩ (.int .i64 x)) := by
 obtain ⟨rfl, _⟩ := rR_ h.rf; have hp := Kd.R_put h.rf i x; refine h.setF rfl hp.2 ?_ (fun e => Kd.R_ne h.rf h.bu (by decide) (by rw [← e]; rfl)) (fun e => Kd.R_ne h.rf h.bt (by decide) (by rw [← e]; rfl)) (d1 _ rfl) (fun e => ?_) (d2 _ rfl) (d3 _ rfl); ·exact hp.1
 obtain ⟨cells, hc⟩ := Kd.R_typed h.rf gF rfl; obtain ⟨cells', hc'⟩ := Kd.R_typed h.rl gF e; rw [hc] at hc'; simp at hc'
/-- One element of what is wanted is written. -/
theorem St.putW {gF n c : Nat} (h : St g g9 C1 C9 vF (.slice (some ⟨gF, 0, none⟩) n c) vL vU vA L U la w0 flow want W) (i x : Int) (d1 : Dj vF (.slice (some ⟨gF, 0, none⟩) n c)) (d2 : Dj (.slice (some ⟨gF, 0, none⟩) n c) vU) (d3 : Dj (.slice (some ⟨gF, 0, none⟩) n c) vA) : St g g9 C1 C9 vF (.slice (some ⟨gF, 0, none⟩) n c) vL vU vA L U la w0 flow (want.set i.toNat x) (W.setCell ⟨gF, i.toNat, none⟩ (.int .i64 x)) := by
 obtain ⟨rfl, _⟩ := rR_ h.rw; have hp := Kd.R_put h.rw i x; refine h.setW rfl hp.2 ?_ (fun e => Kd.R_ne h.rw h.bu (by decide) (by rw [← e]; rfl)) (fun e => Kd.R_ne h.rw h.bt (by decide) (by rw [← e]; rfl)) (d1.symm _ rfl) (fun e => ?_) (d2 _ rfl) (d3 _ rfl); ·exact hp.1
 obtain ⟨cells, hc⟩ := Kd.R_typed h.rw gF rfl; obtain ⟨cells', hc'⟩ := Kd.R_typed h.rl gF e; rw [hc] at hc'; simp at hc'
end
set_option maxHeartbeats 8000000 in
set_option maxRecDepth 100000 in
theorem use_step.calls (k : Nat) (g : Nat) (n0 : Int) (AD : Option Addr) (cD : Nat) (diffs : List S39) (vF vW : Value) (flow want : List Int) (tg : Int) (AG : Option Addr) (cG : Nat) (givers : List Int) (r1 : Bool) (r2 r3 : List Int) (w0 w : World)
  (hB : Below w0.heap.size w0 w) (hg : w0.heap.size ≤ g) (hb : w.heap[g]? = some (.cells #[.int .i64 n0, .slice AD diffs.length cD, vF, vW] 96 (0, 0)))
  (hD : Kd.C k39 w0 AD diffs.length diffs) (hcD : diffs.length ≤ cD) (hF : Kd.R (Kd.int .i64) 3 w w0.heap.size (fun _ => True) vF flow) (hW : Kd.R (Kd.int .i64) 3 w w0.heap.size (fun _ => True) vW want) (hne : Dj vF vW)
  (hG : Kd.C (Kd.int .i64) w AG givers.length givers) (hcG : givers.length ≤ cG) (hfd : flow.length = diffs.length) (hl : diffs.length ≤ 65536) (hm : ∀ d ∈ diffs, -4611686018427387904 ≤ d.f2 ∧ d.f2 ≤ 4611686018427387904)
  (h : stepL k n0 diffs flow want tg givers = some (r1, r2, r3)) :
  Calls Try.prog 126 #[.pointer (some ⟨g, 0, none⟩), .int .i64 tg, .slice AG givers.length cG] w fun e w' => e = .returned (.bool r1) ∧ w'.heap[g]? = some (.cells #[.int .i64 n0, .slice AD diffs.length cD, vF, vW] 96 (0, 0)) ∧ Kd.R (Kd.int .i64) 3 w' w0.heap.size (fun _ => True) vF r2 ∧ Kd.R (Kd.int .i64) 3 w' w0.heap.size (fun _ => True) vW r3 ∧ Below w0.heap.size w0 w' := by
 unfold stepL at h; obtain ⟨⟨lo, ha, la, bad⟩, hgr, h⟩ := oS_.mp h; simp only at h; by_cases hto : 0 ≤ tg ∧ tg < (ha.length : Int) ∧ tg < (want.length : Int)
 case neg => rw [if_neg hto] at h; exact absurd h (by simp)
 rw [if_pos hto] at h; obtain ⟨AF, cF, rfl⟩ := own_slice (Kd.own_of_R hF); obtain ⟨AW, cW, rfl⟩ := own_slice (Kd.own_of_R hW); have HD := Z_ hD; have HCD := Z_ hcD; have HF := Z_ hF; have HW := Z_ hW; have DFW := Z_ hne; have HG := Z_ hG; have HCG := Z_ hcG; have HFD := Z_ hfd; have HL := Z_ hl; have HM := Z_ hm; have HGR := Z_ hgr; have HTO := Z_ hto; have HB := Z_ hB; have HGE := Z_ hg; have BU := Z_ hb; have HX := Z_ (Below.refl w.heap.size w); clear hB hg hb hD hcD hF hW hne hG hcG hfd hl hm hgr; by_cases hv : rdOf false ha tg = false
 ·rw [if_pos hv] at h
  simp only [oJ_, pI_] at h; obtain ⟨rfl, rfl, rfl⟩ := h; have HV := Z_ hv; clear hv hto; go_enter Try.func126, Try.ntmps126
  go_wp2_with (first
   | ((with_reducible refine gate_callee (f := 130) rfl ?_); refine gL_ (some 19) Try.func130 #[.pointer (some ⟨g, 0, none⟩)] ?_; (refine (use_lines.calls g _ AD cD diffs _ AF cF flow _ BU.out (cB_ HD.out HB.out) HCD.out (rR_ HF.out).2.2 HFD.out HL.out HM.out).mono ?_); rintro e w1 ⟨vL, rfl, ho, hb⟩; refine ⟨_, rfl, ?_⟩; have HLI := Z_ ho; clear HX; have HX := Z_ hb; clear ho hb; (obtain ⟨AL, cL, rfl⟩ := (show ∃ A c, vL = .slice A (linesL diffs flow).length c from (by obtain ⟨A, c, e, _⟩ := Kd.R_reads HLI.out; exact ⟨A, c, e⟩))))
   | ((with_reducible refine gate_callee (f := 131) rfl ?_); refine gL_ (some 21) Try.func131 #[.pointer (some ⟨g, 0, none⟩)] ?_; (refine (use_used.calls g _ _ _ AF cF flow _ (bB_ BU.out HX.out) (cB_ (rR_ HF.out).2.2 HX.out) (by have := HL.out; have := HFD.out; omega)).mono ?_); rintro e w2 ⟨vU, rfl, ho2, hb2⟩; refine ⟨_, rfl, ?_⟩; have n0_ := Z_ (rB_ HLI.out hb2); have HU := Z_ (rL_ ho2 HX.out.size); have DFU := Z_ (Dj.fresh HF.out ho2 HX.out.size); have DWU := Z_ (Dj.fresh HW.out ho2 HX.out.size); have n1_ := Z_ (fS_ HX.out hb2); clear HX HLI ho2 hb2; have HX := n1_; have HLI := n0_; clear n0_ n1_; (obtain ⟨AU, cU, rfl⟩ := own_slice (Kd.own_of_R HU.out)))
   | ((with_reducible refine gate_callee (f := 82) rfl ?_); refine gL_ (some 26) Try.func82 #[.iface 91 (.pointer (some ⟨g, 0, none⟩)), .slice AG givers.length cG] ?_; (refine (diffs_grow.any k 91 _ n0 (linesL diffs flow) AG cG givers lo ha la bad _ (graph_use (bB_ BU.out HX.out) (cB_ (cB_ HD.out HB.out) HX.out) HCD.out (cB_ (rR_ HF.out).2.2 HX.out) HFD.out HL.out HM.out) (cB_ HG.out HX.out) HCG.out HGR.out).mono ?_); rintro e w3 ⟨vlo, vha, vla, rfl, ho1, ho2, ho3, hb3⟩; refine ⟨_, rfl, ?_⟩; have VLO := Z_ (show ∃ A n c, vlo = Value.slice A n c from (by obtain ⟨A, c, e, _⟩ := Kd.R_reads ho1; exact ⟨A, _, c, e⟩)); have DFA := Z_ (Dj.fresh HF.out ho3 HX.out.size); have DWA := Z_ (Dj.fresh HW.out ho3 HX.out.size); have DUA := Z_ (Dj.fresh HU.out ho3 (nR_ _)); have n0_ := Z_ (rB_ HLI.out hb3); have n1_ := Z_ (rB_ HU.out hb3); have HHA := Z_ (rL_ (rM_ ho2 (fun _ _ => trivial)) HX.out.size); have HLA := Z_ (rL_ (rM_ ho3 (fun _ _ => trivial)) HX.out.size); have n2_ := Z_ (fS_ HX.out hb3); clear HX HLI HU ho1 ho2 ho3 hb3; have HX := n2_; have HLI := n0_; have HU := n1_; clear n0_ n1_ n2_; (obtain ⟨AH, cH, rfl⟩ := (show ∃ A c, vha = .slice A ha.length c from (by obtain ⟨A, c, e, _⟩ := Kd.R_reads HHA.out; exact ⟨A, c, e⟩))); (obtain ⟨AA, cA, rfl⟩ := (show ∃ A c, vla = .slice A la.length c from (by obtain ⟨A, c, e, _⟩ := Kd.R_reads HLA.out; exact ⟨A, c, e⟩))))
   | ((with_reducible refine gate_dst (N := 9) rfl ?_); refine bX_ 9 #[.slice none 0 0, .slice none 0 0, .slice none 0 0] 88 ?_; intro g9 hg9 w4 hbox hb4; have n0_ := Z_ (rB_ HLI.out hb4); have n1_ := Z_ (rB_ HU.out hb4); have n3_ := Z_ (rB_ HLA.out hb4); have n4_ := Z_ (rB_ HHA.out hb4); have n2_ := Z_ (fS_ HX.out hb4); have BT := Z_ hbox; have NG := Z_ (show w.heap.size ≤ g9 ∧ (∀ k, (Value.slice AL (linesL diffs flow).length cL).ownBlock = some k → k ≠ g9) ∧ (∀ k, (Value.slice AU (usedL flow 0).length cU).ownBlock = some k → k ≠ g9) ∧ (∀ k, (Value.slice AA la.length cA).ownBlock = some k → k ≠ g9) ∧ (∀ k, (Value.slice AH ha.length cH).ownBlock = some k → k ≠ g9) from ⟨by rw [hg9]; exact HX.out.size, fun k e => by have := Kd.R_lt HLI.out k e; omega, fun k e => by have := Kd.R_lt HU.out k e; omega, fun k e => by have := Kd.R_lt HLA.out k e; omega, fun k e => by have := Kd.R_lt HHA.out k e; omega⟩); clear HX HLI HU HLA HHA hb4 hbox hg9; have HX := n2_; have HLI := n0_; have HU := n1_; have HLA := n3_; have HHA := n4_; clear n0_ n1_ n2_ n3_ n4_)
   | (refine gate_store (t := 88) (p := 9) (v := .tmp 27) rfl ?_; refine store_box rfl rfl 88 (.tmp 9) (.tmp 27) rfl [vlo, .slice AH ha.length cH, .slice AA la.length cA] (by rfl) g9 rfl _ rfl (by have := VLO.out; obtain ⟨Ao, no, co, rfl⟩ := this; rfl) (by intro q hq; simp only [List.mem_cons, List.not_mem_nil, or_false] at hq; obtain ⟨Ao, no, co, e⟩ := VLO.out; rcases hq with rfl | rfl | rfl; (subst e; rfl); rfl; rfl) _ BT.out rfl ?_; intro w5 hb5 hg5; have HS := Z_ (St.mk (vF := .slice AF flow.length cF) (vW := .slice AW want.length cW) (blk_grown (bB_ BU.out HX.out) hg5 (fun e => by have := blk_lt BU.out; have := NG.out.1; have := oI_ e; omega)) hb5 (Kd.R_grown2 (rB_ HF.out HX.out) rfl hg5 (fun k e e2 => by have := Kd.R_lt HF.out k e2.symm; have := NG.out.1; have := oI_ e; omega)) (Kd.R_grown2 (rB_ HW.out HX.out) rfl hg5 (fun k e e2 => by have := Kd.R_lt HW.out k e2.symm; have := NG.out.1; have := oI_ e; omega)) (rL_ (Kd.R_grown2 HLI.out rfl hg5 (fun k e e2 => NG.out.2.1 k e2.symm (oI_ e).symm)) HB.out.size) (rL_ (Kd.R_grown2 HU.out rfl hg5 (fun k e e2 => NG.out.2.2.1 k e2.symm (oI_ e).symm)) HB.out.size) (rL_ (Kd.R_grown2 HLA.out rfl hg5 (fun k e e2 => NG.out.2.2.2.1 k e2.symm (oI_ e).symm)) HB.out.size) ((fS_ HB.out HX.out).grown hg5 (Nat.le_trans HB.out.size HX.out.size) (fun k e => by have := NG.out.1; have := HB.out.size; have := oI_ e; omega))); have HA5 := Z_ (Kd.R_grown2 HHA.out rfl hg5 (fun k e e2 => NG.out.2.2.2.2 k e2.symm (oI_ e).symm)); have hz0 : w5.cell? ⟨g9, 1, none⟩ = some (.slice AH ha.length cH) := (bC_ hb5 1).trans rfl; clear BT hb5 hg5; (obtain ⟨adh, eh, hx0⟩ := Kd.at_bool (rR_ HA5.out).2.2 tg HTO.out.1 HTO.out.2.1); cases eh; rw [HV.out] at hx0; have p0 := HTO.out.1; have p1 := HTO.out.2.1))
  go_ret; exact ⟨rfl, HS.out.bu, HS.out.rf, HS.out.rw, HS.out.hb⟩
 rw [if_neg hv] at h; replace hv : rdOf false ha tg = true := by simpa using hv
 have HV := Z_ hv; obtain ⟨⟨pl, pv⟩, hp, h⟩ := oS_.mp h; simp only at h; have HP := Z_ hp; have HH := Z_ h; clear hv hto h hp; go_enter Try.func126, Try.ntmps126
 go_wp2_with (first
  | ((with_reducible refine gate_callee (f := 130) rfl ?_); refine gL_ (some 19) Try.func130 #[.pointer (some ⟨g, 0, none⟩)] ?_; (refine (use_lines.calls g _ AD cD diffs _ AF cF flow _ BU.out (cB_ HD.out HB.out) HCD.out (rR_ HF.out).2.2 HFD.out HL.out HM.out).mono ?_); rintro e w1 ⟨vL, rfl, ho, hb⟩; refine ⟨_, rfl, ?_⟩; have HLI := Z_ ho; clear HX; have HX := Z_ hb; clear ho hb; (obtain ⟨AL, cL, rfl⟩ := (show ∃ A c, vL = .slice A (linesL diffs flow).length c from (by obtain ⟨A, c, e, _⟩ := Kd.R_reads HLI.out; exact ⟨A, c, e⟩))))
  | ((with_reducible refine gate_callee (f := 131) rfl ?_); refine gL_ (some 21) Try.func131 #[.pointer (some ⟨g, 0, none⟩)] ?_; (refine (use_used.calls g _ _ _ AF cF flow _ (bB_ BU.out HX.out) (cB_ (rR_ HF.out).2.2 HX.out) (by have := HL.out; have := HFD.out; omega)).mono ?_); rintro e w2 ⟨vU, rfl, ho2, hb2⟩; refine ⟨_, rfl, ?_⟩; have n0_ := Z_ (rB_ HLI.out hb2); have HU := Z_ (rL_ ho2 HX.out.size); have DFU := Z_ (Dj.fresh HF.out ho2 HX.out.size); have DWU := Z_ (Dj.fresh HW.out ho2 HX.out.size); have n1_ := Z_ (fS_ HX.out hb2); clear HX HLI ho2 hb2; have HX := n1_; have HLI := n0_; clear n0_ n1_; (obtain ⟨AU, cU, rfl⟩ := own_slice (Kd.own_of_R HU.out)))
  | ((with_reducible refine gate_callee (f := 82) rfl ?_); refine gL_ (some 26) Try.func82 #[.iface 91 (.pointer (some ⟨g, 0, none⟩)), .slice AG givers.length cG] ?_; (refine (diffs_grow.any k 91 _ n0 (linesL diffs flow) AG cG givers lo ha la bad _ (graph_use (bB_ BU.out HX.out) (cB_ (cB_ HD.out HB.out) HX.out) HCD.out (cB_ (rR_ HF.out).2.2 HX.out) HFD.out HL.out HM.out) (cB_ HG.out HX.out) HCG.out HGR.out).mono ?_); rintro e w3 ⟨vlo, vha, vla, rfl, ho1, ho2, ho3, hb3⟩; refine ⟨_, rfl, ?_⟩; have VLO := Z_ (show ∃ A n c, vlo = Value.slice A n c from (by obtain ⟨A, c, e, _⟩ := Kd.R_reads ho1; exact ⟨A, _, c, e⟩)); have DFA := Z_ (Dj.fresh HF.out ho3 HX.out.size); have DWA := Z_ (Dj.fresh HW.out ho3 HX.out.size); have DUA := Z_ (Dj.fresh HU.out ho3 (nR_ _)); have n0_ := Z_ (rB_ HLI.out hb3); have n1_ := Z_ (rB_ HU.out hb3); have HHA := Z_ (rL_ (rM_ ho2 (fun _ _ => trivial)) HX.out.size); have HLA := Z_ (rL_ (rM_ ho3 (fun _ _ => trivial)) HX.out.size); have n2_ := Z_ (fS_ HX.out hb3); clear HX HLI HU ho1 ho2 ho3 hb3; have HX := n2_; have HLI := n0_; have HU := n1_; clear n0_ n1_ n2_; (obtain ⟨AH, cH, rfl⟩ := (show ∃ A c, vha = .slice A ha.length c from (by obtain ⟨A, c, e, _⟩ := Kd.R_reads HHA.out; exact ⟨A, c, e⟩))); (obtain ⟨AA, cA, rfl⟩ := (show ∃ A c, vla = .slice A la.length c from (by obtain ⟨A, c, e, _⟩ := Kd.R_reads HLA.out; exact ⟨A, c, e⟩))))
  | ((with_reducible refine gate_dst (N := 9) rfl ?_); refine bX_ 9 #[.slice none 0 0, .slice none 0 0, .slice none 0 0] 88 ?_; intro g9 hg9 w4 hbox hb4; have n0_ := Z_ (rB_ HLI.out hb4); have n1_ := Z_ (rB_ HU.out hb4); have n3_ := Z_ (rB_ HLA.out hb4); have n4_ := Z_ (rB_ HHA.out hb4); have n2_ := Z_ (fS_ HX.out hb4); have BT := Z_ hbox; have NG := Z_ (show w.heap.size ≤ g9 ∧ (∀ k, (Value.slice AL (linesL diffs flow).length cL).ownBlock = some k → k ≠ g9) ∧ (∀ k, (Value.slice AU (usedL flow 0).length cU).ownBlock = some k → k ≠ g9) ∧ (∀ k, (Value.slice AA la.length cA).ownBlock = some k → k ≠ g9) ∧ (∀ k, (Value.slice AH ha.length cH).ownBlock = some k → k ≠ g9) from ⟨by rw [hg9]; exact HX.out.size, fun k e => by have := Kd.R_lt HLI.out k e; omega, fun k e => by have := Kd.R_lt HU.out k e; omega, fun k e => by have := Kd.R_lt HLA.out k e; omega, fun k e => by have := Kd.R_lt HHA.out k e; omega⟩); clear HX HLI HU HLA HHA hb4 hbox hg9; have HX := n2_; have HLI := n0_; have HU := n1_; have HLA := n3_; have HHA := n4_; clear n0_ n1_ n2_ n3_ n4_)
  | (refine gate_store (t := 88) (p := 9) (v := .tmp 27) rfl ?_; refine store_box rfl rfl 88 (.tmp 9) (.tmp 27) rfl [vlo, .slice AH ha.length cH, .slice AA la.length cA] (by rfl) g9 rfl _ rfl (by have := VLO.out; obtain ⟨Ao, no, co, rfl⟩ := this; rfl) (by intro q hq; simp only [List.mem_cons, List.not_mem_nil, or_false] at hq; obtain ⟨Ao, no, co, e⟩ := VLO.out; rcases hq with rfl | rfl | rfl; (subst e; rfl); rfl; rfl) _ BT.out rfl ?_; intro w5 hb5 hg5; have HS := Z_ (St.mk (vF := .slice AF flow.length cF) (vW := .slice AW want.length cW) (blk_grown (bB_ BU.out HX.out) hg5 (fun e => by have := blk_lt BU.out; have := NG.out.1; have := oI_ e; omega)) hb5 (Kd.R_grown2 (rB_ HF.out HX.out) rfl hg5 (fun k e e2 => by have := Kd.R_lt HF.out k e2.symm; have := NG.out.1; have := oI_ e; omega)) (Kd.R_grown2 (rB_ HW.out HX.out) rfl hg5 (fun k e e2 => by have := Kd.R_lt HW.out k e2.symm; have := NG.out.1; have := oI_ e; omega)) (rL_ (Kd.R_grown2 HLI.out rfl hg5 (fun k e e2 => NG.out.2.1 k e2.symm (oI_ e).symm)) HB.out.size) (rL_ (Kd.R_grown2 HU.out rfl hg5 (fun k e e2 => NG.out.2.2.1 k e2.symm (oI_ e).symm)) HB.out.size) (rL_ (Kd.R_grown2 HLA.out rfl hg5 (fun k e e2 => NG.out.2.2.2.1 k e2.symm (oI_ e).symm)) HB.out.size) ((fS_ HB.out HX.out).grown hg5 (Nat.le_trans HB.out.size HX.out.size) (fun k e => by have := NG.out.1; have := HB.out.size; have := oI_ e; omega))); have HA5 := Z_ (Kd.R_grown2 HHA.out rfl hg5 (fun k e e2 => NG.out.2.2.2.2 k e2.symm (oI_ e).symm)); have hz0 : w5.cell? ⟨g9, 1, none⟩ = some (.slice AH ha.length cH) := (bC_ hb5 1).trans rfl; clear BT hb5 hg5; (obtain ⟨adh, eh, hx0⟩ := Kd.at_bool (rR_ HA5.out).2.2 tg HTO.out.1 HTO.out.2.1); cases eh; rw [HV.out] at hx0; have p0 := HTO.out.1; have p1 := HTO.out.2.1))
 go_loopg [11, 12] k (fun kq v11 v12 w' => ∃ (acc : List Int) (v : Int), v12 = .int .i64 v ∧ Aside0 (pathL (linesL diffs flow) la kq v acc = some (pl, pv)) ∧ Aside0 (Kd.R (Kd.int .i64) 3 w' w0.heap.size (fun _ => True) v11 acc) ∧ Aside0 (∀ k, v11.ownBlock = some k → Away g g9 (Value.slice AF flow.length cF) (Value.slice AW want.length cW) (Value.slice AL (linesL diffs flow).length cL) (Value.slice AU (usedL flow 0).length cU) (Value.slice AA la.length cA) w0 k) ∧ Aside0 (St g g9 #[Value.int IntKind.i64 n0, Value.slice AD diffs.length cD, Value.slice AF flow.length cF, Value.slice AW want.length cW] #[vlo, Value.slice (some adh) ha.length cH, Value.slice AA la.length cA] (Value.slice AF flow.length cF) (Value.slice AW want.length cW) (Value.slice AL (linesL diffs flow).length cL) (Value.slice AU (usedL flow 0).length cU) (Value.slice AA la.length cA) (linesL diffs flow) (usedL flow 0) la w0 flow want w'))
 case atStart => exact ⟨[], tg, rfl, HP, ⟨Kd.R_nil _ _ _ _ _⟩, ⟨fun k e => by simp [Value.ownBlock] at e⟩, HS⟩
 case round =>
  clear HS hx0 hz0; obtain ⟨acc, v, rfl, HP, HO, HA, HS⟩ := hrel
  cases gk with
  | zero => exact absurd HP.out (by simp [pathL])
  | succ k1 =>
   have hP := HP.out; clear HP; unfold pathL at hP; by_cases c1 : 0 ≤ v ∧ v < (la.length : Int)
   case neg => rw [if_neg c1] at hP; exact absurd hP (by simp)
   rw [if_pos c1] at hP; have q0 := c1.1; have q1 := c1.2; obtain ⟨ada, e1, hx1⟩ := Kd.at_int (rR_ HS.out.ra).2.2 v q0 q1; cases e1
   have hz1 : wr.cell? ⟨g9, 2, none⟩ = some (.slice (some ada) la.length cA) := (bC_ HS.out.bt 2).trans rfl; by_cases c2 : rd la v ≥ 0
   ·rw [if_pos c2] at hP
    have c2b : decide (rd la v ≥ 0) = true := eT_ c2; by_cases c3 : rd la v < ((linesL diffs flow).length : Int) ∧ acc.length < 65536
    case neg => rw [if_neg c3] at hP; exact absurd hP (by simp)
    rw [if_pos c3] at hP; have HP := Z_ hP; have q2 : 0 ≤ rd la v := c2; have q3 := c3.1; have q4 := c3.2; clear hP c1 c2 c3; go_wp2_with (first | ((with_reducible refine gate_builtin (b := .append) (xs := #[.tmp 51, .tmp 57]) rfl ?_); at_builtin; go_must (refine Kd.R_append (Kd.int .i64) (w0 := w0) w0.heap.size rfl (.tmp 51) (.tmp 57) 29 3 (.int .i64 0) 8 rfl Try.underlying29 info3 rfl (by decide) (by omega) u11 acc (rd la v) [.int .i64 (rd la v)] (fun _ => True) (fun _ => False) rfl rfl ?aP (fun _ hk => hk.elim) ?aF ?aO ?aB ?aS ?aL ?_; (case aP => exact rfl); (case aB => exact HS.out.hb); (case aF => exact (fun _ _ => trivial)); (case aO => exact HO.out); (case aS => exact (fZ_ HS.out.hb)); (case aL => omega); intro v118 w8 ho hb hg hat; have HS1 := HS.out; have n0_ := Z_ (HS1.grown hg HA.out); have n1_ := Z_ (show ∀ k, v118.ownBlock = some k → Away g g9 (Value.slice AF flow.length cF) (Value.slice AW want.length cW) (Value.slice AL (linesL diffs flow).length cL) (Value.slice AU (usedL flow 0).length cU) (Value.slice (some ada) la.length cA) w0 k from fun k e => (by rcases hat with e2 | ⟨b, e2, hb2⟩; exact HA.out k (e2.symm.trans e); exact HS1.away (by rw [e2] at e; cases e; exact hb2))); clear HS HA HO HS1 hg hat; have HS := n0_; have HA := n1_; have HO := Z_ ho; clear n0_ n1_ ho hb; have hz2 : w8.cell? ⟨g9, 2, none⟩ = some (.slice (some ada) la.length cA) := (bC_ HS.out.bt 2).trans rfl; (obtain ⟨ada2, e2, hx2⟩ := Kd.at_int (rR_ HS.out.ra).2.2 v q0 q1); cases e2; (obtain ⟨adl, e3, hy0, _⟩ := at_T39 (rR_ HS.out.rl).2.2 (rd la v) q2 q3); cases e3))); go_roundg k1
    case measure => omega
    case rel => exact ⟨acc ++ [rd la v], (rd_T39 (linesL diffs flow) (rd la v)).f0, rfl, HP, HO, HA, HS⟩
   rw [if_neg c2] at hP; have c2b : decide (rd la v ≥ 0) = false := eF_ c2; simp only [oJ_, pI_] at hP; obtain ⟨rfl, rfl⟩ := hP; have hh := HH.out; clear HH; by_cases cw : v < (want.length : Int)
   case neg => rw [if_neg cw] at hh; exact absurd hh (by simp)
   rw [if_pos cw] at hh; obtain ⟨m, hmu, hh⟩ := oS_.mp hh; obtain ⟨flow', hap, hh⟩ := oS_.mp hh; simp only [oJ_, pI_] at hh; obtain ⟨rfl, rfl, rfl⟩ := hh; have HMU := Z_ hmu; have HAP := Z_ hap; have HCW := Z_ (show 0 ≤ v ∧ v < (want.length : Int) from ⟨q0, cw⟩); have HT0 := Z_ (show 0 ≤ tg ∧ tg < (want.length : Int) from ⟨HTO.out.1, HTO.out.2.2⟩); clear hmu hap cw c1 p0 p1; obtain ⟨Al, cl, rfl⟩ := own_slice (Kd.own_of_R HO.out); go_upto_if 60 with (fail); go_cut [13] (fun v13 wc => v13 = .int .i64 (much1 want tg) ∧ Aside0 (Kd.R (Kd.int .i64) 3 wc w0.heap.size (fun _ => True) (Value.slice Al acc.length cl) acc) ∧ Aside0 (St g g9 #[Value.int IntKind.i64 n0, Value.slice AD diffs.length cD, Value.slice AF flow.length cF, Value.slice AW want.length cW] #[vlo, Value.slice (some adh) ha.length cH, Value.slice (some ada) la.length cA] (Value.slice AF flow.length cF) (Value.slice AW want.length cW) (Value.slice AL (linesL diffs flow).length cL) (Value.slice AU (usedL flow 0).length cU) (Value.slice (some ada) la.length cA) (linesL diffs flow) (usedL flow 0) la w0 flow want wc))
   case first =>
    by_cases ct : tg = 0
    ·have ctb : (tg != 0) = false := bne_eq_false_iff_eq.mpr ct
     have e1 := Z_ (show much1 want tg = 1152921504606846976 from if_pos ct); clear ct; go_wp2; go_meet
     case rel => exact ⟨by rw [e1.out], HO, HS⟩
    have ctb : (tg != 0) = true := bne_iff_ne.mpr ct; have e1 := Z_ (show much1 want tg = rd want tg from if_neg ct); clear ct; obtain ⟨adw, ew, hw⟩ := Kd.at_int (rR_ HS.out.rw).2.2 tg HT0.out.1 HT0.out.2; cases ew
    have hg3 : wr.cell? ⟨g, 3, none⟩ = some (.slice (some adw) want.length cW) := (bC_ HS.out.bu 3).trans rfl; have p0 := HT0.out.1; have p1 := HT0.out.2; go_wp2; go_meet
    case rel => exact ⟨by rw [e1.out], HO, HS⟩
   case rest =>
    obtain ⟨rfl, HO, HS⟩ := hcut; go_upto_if 69 with (fail); go_cut [13] (fun v13 wd => v13 = .int .i64 (much2 want tg v) ∧ Aside0 (Kd.R (Kd.int .i64) 3 wd w0.heap.size (fun _ => True) (Value.slice Al acc.length cl) acc) ∧ Aside0 (St g g9 #[Value.int IntKind.i64 n0, Value.slice AD diffs.length cD, Value.slice AF flow.length cF, Value.slice AW want.length cW] #[vlo, Value.slice (some adh) ha.length cH, Value.slice (some ada) la.length cA] (Value.slice AF flow.length cF) (Value.slice AW want.length cW) (Value.slice AL (linesL diffs flow).length cL) (Value.slice AU (usedL flow 0).length cU) (Value.slice (some ada) la.length cA) (linesL diffs flow) (usedL flow 0) la w0 flow want wd))
    case first =>
     by_cases ct : v = 0
     ·have ctb : (v != 0) = false := bne_eq_false_iff_eq.mpr ct
      have e1 := Z_ (show much2 want tg v = much1 want tg from if_pos ct); clear ct; go_wp2; go_meet
      case rel => exact ⟨by rw [e1.out], HO, HS⟩
     have ctb : (v != 0) = true := bne_iff_ne.mpr ct; have e1 := Z_ (show much2 want tg v = min (much1 want tg) (wrap64 (-(rd want v))) from if_neg ct); clear ct; obtain ⟨adw, ew, hw⟩ := Kd.at_int (rR_ HS.out.rw).2.2 v HCW.out.1 HCW.out.2; cases ew
     have hg3 : wc.cell? ⟨g, 3, none⟩ = some (.slice (some adw) want.length cW) := (bC_ HS.out.bu 3).trans rfl; have p0 := HCW.out.1; have p1 := HCW.out.2; go_wp2
     ·go_meet
      case rel => exact ⟨by rw [e1.out, Int.min_eq_right (by omega)], HO, HS⟩
     go_meet
     case rel => exact ⟨by rw [e1.out, Int.min_eq_left (by omega)], HO, HS⟩
    case rest =>
     obtain ⟨rfl, HO, HS⟩ := hcut; go_wp2; go_loopg [13, 82] acc.length (fun kq v13 v82 w' => ∃ (mm i : Int), v13 = .int .i64 mm ∧ v82 = .int .i64 i ∧ Aside0 (0 ≤ i ∧ (kq : Int) + i = acc.length ∧ muchL (diffs.length : Int) flow (usedL flow 0) (acc.drop i.toNat) mm = some m) ∧ Aside0 (Kd.R (Kd.int .i64) 3 w' w0.heap.size (fun _ => True) (Value.slice Al acc.length cl) acc) ∧ Aside0 (St g g9 #[Value.int IntKind.i64 n0, Value.slice AD diffs.length cD, Value.slice AF flow.length cF, Value.slice AW want.length cW] #[vlo, Value.slice (some adh) ha.length cH, Value.slice (some ada) la.length cA] (Value.slice AF flow.length cF) (Value.slice AW want.length cW) (Value.slice AL (linesL diffs flow).length cL) (Value.slice AU (usedL flow 0).length cU) (Value.slice (some ada) la.length cA) (linesL diffs flow) (usedL flow 0) la w0 flow want w'))
     case atStart => exact ⟨_, 0, rfl, rfl, ⟨by omega, by omega, HMU.out⟩, HO, HS⟩
     case round =>
      obtain ⟨mm, i, rfl, rfl, HI, HO, HS⟩ := hrel; have h0 := HI.out.1; have hk := HI.out.2.1; have hM := HI.out.2.2; have hN := HL.out; by_cases hlt : i < (acc.length : Int)
      ·obtain ⟨adk, ek, hxk⟩ := Kd.at_int (rR_ HO.out).2.2 i h0 hlt
       cases ek
       rw [drop_rd acc i h0 hlt] at hM; unfold muchL at hM; have hz1 : wr.cell? ⟨g, 1, none⟩ = some (.slice AD diffs.length cD) := (bC_ HS.out.bu 1).trans rfl; have hz2 : wr.cell? ⟨g, 2, none⟩ = some (.slice AF flow.length cF) := (bC_ HS.out.bu 2).trans rfl; have hmx := (rR_ HO.out).2.2.2.1; have hw64 : i + 1 ≤ 9223372036854775807 := by omega
       clear hmx; by_cases ck : rd acc i ≥ (diffs.length : Int)
       ·rw [if_pos ck] at hM
        have ckb : decide (rd acc i ≥ (diffs.length : Int)) = true := eT_ ck; by_cases cc : (0 ≤ wrap64 (rd acc i - (diffs.length : Int)) ∧ wrap64 (rd acc i - (diffs.length : Int)) < ((usedL flow 0).length : Int)) ∧ 0 ≤ rd (usedL flow 0) (wrap64 (rd acc i - (diffs.length : Int))) ∧ rd (usedL flow 0) (wrap64 (rd acc i - (diffs.length : Int))) < (flow.length : Int)
        case neg => rw [if_neg cc] at hM; exact absurd hM (by simp)
        rw [if_pos cc] at hM; have HM2 := Z_ hM; obtain ⟨⟨s0, s1⟩, s2, s3⟩ := cc; obtain ⟨adu, eu, hxu⟩ := Kd.at_int (rR_ HS.out.ru).2.2 _ s0 s1; cases eu
        obtain ⟨adf, ef, hxf⟩ := Kd.at_int (rR_ HS.out.rf).2.2 _ s2 s3; cases ef
        clear hM; by_cases cm : rd flow (rd (usedL flow 0) (wrap64 (rd acc i - (diffs.length : Int)))) < mm
        ·have e1 := Z_ (Int.min_eq_right (a := mm) (b := rd flow (rd (usedL flow 0) (wrap64 (rd acc i - (diffs.length : Int))))) (by omega))
         go_wp2; go_quiet (fail); go_wp2; go_roundg (gk - 1)
         case measure => omega
         case rel => exact ⟨_, i + 1, rfl, rfl, ⟨by omega, by omega, by rw [← e1.out]; exact HM2.out⟩, ⟨rN_ HO.out _⟩, ⟨HS.out.below (pB_ (Below.refl _ _) _)⟩⟩
        have e1 := Z_ (Int.min_eq_left (a := mm) (b := rd flow (rd (usedL flow 0) (wrap64 (rd acc i - (diffs.length : Int))))) (by omega)); go_wp2; go_quiet (fail); go_wp2; go_roundg (gk - 1)
        case measure => omega
        case rel => exact ⟨_, i + 1, rfl, rfl, ⟨by omega, by omega, by rw [← e1.out]; exact HM2.out⟩, ⟨rN_ HO.out _⟩, ⟨HS.out.below (pB_ (Below.refl _ _) _)⟩⟩
       rw [if_neg ck] at hM; have ckb : decide (rd acc i ≥ (diffs.length : Int)) = false := eF_ ck; have HM2 := Z_ hM; clear hM; go_wp2; go_roundg (gk - 1)
       case measure => omega
       case rel => exact ⟨mm, i + 1, rfl, rfl, ⟨by omega, by omega, HM2.out⟩, HO, HS⟩
      have e0 := Z_ (show mm = m from by rw [List.drop_eq_nil_of_le (by omega)] at hM; exact oI_ hM); clear hM HMU; go_wp2; go_loopg [116] acc.length (fun kq v116 w' => ∃ (fl : List Int) (i : Int), v116 = .int .i64 i ∧ Aside0 (0 ≤ i ∧ (kq : Int) + i = acc.length ∧ fl.length = flow.length ∧ applyL (diffs.length : Int) (usedL flow 0) m (acc.drop i.toNat) fl = some flow') ∧ Aside0 (Kd.R (Kd.int .i64) 3 w' w0.heap.size (fun _ => True) (Value.slice Al acc.length cl) acc) ∧ Aside0 (St g g9 #[Value.int IntKind.i64 n0, Value.slice AD diffs.length cD, Value.slice AF flow.length cF, Value.slice AW want.length cW] #[vlo, Value.slice (some adh) ha.length cH, Value.slice (some ada) la.length cA] (Value.slice AF flow.length cF) (Value.slice AW want.length cW) (Value.slice AL (linesL diffs flow).length cL) (Value.slice AU (usedL flow 0).length cU) (Value.slice (some ada) la.length cA) (linesL diffs flow) (usedL flow 0) la w0 fl want w'))
      case atStart => exact ⟨flow, 0, rfl, ⟨by omega, by omega, rfl, HAP.out⟩, HO, HS⟩
      case round =>
       clear HO HS HI; obtain ⟨fl, i, rfl, HI, HO, HS⟩ := hrel; have h0 := HI.out.1; have hk := HI.out.2.1; have hfl := HI.out.2.2.1; have hM := HI.out.2.2.2; by_cases hlt : i < (acc.length : Int)
       ·obtain ⟨adk, ek, hxk⟩ := Kd.at_int (rR_ HO.out).2.2 i h0 hlt
        cases ek
        rw [drop_rd acc i h0 hlt] at hM; unfold applyL at hM; have hz1 : wr.cell? ⟨g, 1, none⟩ = some (.slice AD diffs.length cD) := (bC_ HS.out.bu 1).trans rfl; have hw64 : i + 1 ≤ 9223372036854775807 := by have := (rR_ HO.out).2.2.2.1; omega
        by_cases ck : rd acc i ≥ (diffs.length : Int)
        ·rw [if_pos ck] at hM
         have ckb : decide (rd acc i ≥ (diffs.length : Int)) = true := eT_ ck; obtain ⟨o1, ho1⟩ : ∃ o1, o1 = wrap64 (rd acc i - (diffs.length : Int)) := ⟨_, rfl⟩; rw [← ho1] at hM; obtain ⟨o2, ho2⟩ : ∃ o2, o2 = rd (usedL flow 0) o1 := ⟨_, rfl⟩; rw [← ho2] at hM; obtain ⟨o3, ho3⟩ : ∃ o3, o3 = wrap64 (rd fl o2 - m) := ⟨_, rfl⟩; rw [← ho3] at hM; by_cases cc : (0 ≤ o1 ∧ o1 < ((usedL flow 0).length : Int)) ∧ 0 ≤ o2 ∧ o2 < (fl.length : Int)
         case neg => rw [if_neg cc] at hM; exact absurd hM (by simp)
         rw [if_pos cc] at hM; have HM2 := Z_ hM; obtain ⟨⟨s0, s1⟩, s2, s3'⟩ := cc; have s3 : o2 < (flow.length : Int) := by rw [← hfl]; exact s3'
         obtain ⟨adu, eu, hxu⟩ := Kd.at_int (rR_ HS.out.ru).2.2 o1 s0 s1; cases eu
         rw [← ho2] at hxu; obtain ⟨gF, cF', eF, _, _, _⟩ := Kd.R_form HS.out.rf (by omega); injection eF with e1 e2 e3; subst e1; clear e2 e3; have hz2 : wr.cell? ⟨g, 2, none⟩ = some (.slice (some ⟨gF, 0, none⟩) flow.length cF) := (bC_ HS.out.bu 2).trans rfl; have hxf : wr.cell? ⟨gF, o2.toNat, none⟩ = some (.int .i64 (rd fl o2)) := (Kd.R_celln 0 HS.out.rf o2 s2 s3).1; have hff := (Kd.R_celln 0 HS.out.rf o2 s2 s3).2; have hwr : IntKind.i64.wrap (rd acc i - (diffs.length : Int)) = o1 := by rw [ho1]; exact i64_w _
         have hwv : IntKind.i64.wrap (rd fl o2 - mm) = o3 := by rw [ho3, e0.out]; exact i64_w _
         have N0 := Z_ (HS.out.below (pB_ (Below.refl _ _) 1)); have N1 := Z_ (rN_ HO.out 1); clear hM ho1 ho2 ho3; go_wp2; go_still_tail 20, (by kernel_rfl); change wpList _ _ _ _ _ (wr.drewN 1); have hff1 : (wr.drewN 1).frozen? ⟨gF, o2.toNat, none⟩ = false := hff; have hxf1 : (wr.drewN 1).cell? ⟨gF, o2.toNat, none⟩ = some (.int .i64 (rd fl o2)) := hxf; generalize wr.drewN 1 = wq at N0 N1 hff1 hxf1 ⊢; go_wp2; have N2 := Z_ (N0.out.putF o2 o3 DFW.out DFU.out DFA.out); have N3 := Z_ (Kd.R_grown2 N1.out rfl (grown_set wq ⟨gF, o2.toNat, none⟩ (.int .i64 o3)) (fun k e e2 => (HA.out k e2.symm).f e)); go_roundg (gk - 1)
         case measure => omega
         case rel => exact ⟨fl.set o2.toNat o3, i + 1, rfl, ⟨by omega, by omega, by rw [List.length_set]; exact hfl, HM2.out⟩, N3, N2⟩
        rw [if_neg ck] at hM; have ckb : decide (rd acc i ≥ (diffs.length : Int)) = false := eF_ ck; obtain ⟨o3, ho3⟩ : ∃ o3, o3 = wrap64 (rd fl (rd acc i) + m) := ⟨_, rfl⟩; rw [← ho3] at hM; by_cases cc : 0 ≤ rd acc i ∧ rd acc i < (fl.length : Int)
        case neg => rw [if_neg cc] at hM; exact absurd hM (by simp)
        rw [if_pos cc] at hM; have HM2 := Z_ hM; obtain ⟨s2, s3'⟩ := cc; have s3 : rd acc i < (flow.length : Int) := by rw [← hfl]; exact s3'
        obtain ⟨gF, cF', eF, _, _, _⟩ := Kd.R_form HS.out.rf (by omega); injection eF with e1 e2 e3; subst e1; clear e2 e3; have hz2 : wr.cell? ⟨g, 2, none⟩ = some (.slice (some ⟨gF, 0, none⟩) flow.length cF) := (bC_ HS.out.bu 2).trans rfl; have hxf : wr.cell? ⟨gF, (rd acc i).toNat, none⟩ = some (.int .i64 (rd fl (rd acc i))) := (Kd.R_celln 0 HS.out.rf _ s2 s3).1; have hff := (Kd.R_celln 0 HS.out.rf _ s2 s3).2; have hwv : IntKind.i64.wrap (rd fl (rd acc i) + mm) = o3 := by rw [ho3, e0.out]; exact i64_w _
        have N2 := Z_ (HS.out.putF (rd acc i) o3 DFW.out DFU.out DFA.out); have N3 := Z_ (Kd.R_grown2 HO.out rfl (grown_set wr ⟨gF, (rd acc i).toNat, none⟩ (.int .i64 o3)) (fun k e e2 => (HA.out k e2.symm).f e)); clear hM ho3; go_wp2; go_roundg (gk - 1)
        case measure => omega
        case rel => exact ⟨fl.set (rd acc i).toNat o3, i + 1, rfl, ⟨by omega, by omega, by rw [List.length_set]; exact hfl, HM2.out⟩, N3, N2⟩
       have e1 := Z_ (show fl = flow' from by rw [List.drop_eq_nil_of_le (by omega)] at hM; exact oI_ hM); clear hM HAP; go_upto_if 160 with (fail); go_cut [13] (fun v13 wc => v13 = .int .i64 mm ∧ Aside0 (St g g9 #[Value.int IntKind.i64 n0, Value.slice AD diffs.length cD, Value.slice AF flow.length cF, Value.slice AW want.length cW] #[vlo, Value.slice (some adh) ha.length cH, Value.slice (some ada) la.length cA] (Value.slice AF flow.length cF) (Value.slice AW want.length cW) (Value.slice AL (linesL diffs flow).length cL) (Value.slice AU (usedL flow 0).length cU) (Value.slice (some ada) la.length cA) (linesL diffs flow) (usedL flow 0) la w0 fl (want1 want tg m) wc))
       case first =>
        by_cases ct : tg = 0
        ·have ctb : (tg != 0) = false := bne_eq_false_iff_eq.mpr ct
         have e2 := Z_ (show want1 want tg m = want from if_pos ct); clear ct; go_wp2; go_meet
         case rel => exact ⟨rfl, by rw [e2.out]; exact HS⟩
        have ctb : (tg != 0) = true := bne_iff_ne.mpr ct; obtain ⟨o3, ho3⟩ : ∃ o3, o3 = wrap64 (rd want tg - m) := ⟨_, rfl⟩; have e2 := Z_ (show want1 want tg m = want.set tg.toNat o3 from by rw [ho3]; exact if_neg ct); clear ct; have p0 := HT0.out.1; have p1 := HT0.out.2; obtain ⟨gF, cF', eF, _, _, _⟩ := Kd.R_form HS.out.rw (by omega); injection eF with ea eb ec; subst ea; clear eb ec; have hz3 : wr.cell? ⟨g, 3, none⟩ = some (.slice (some ⟨gF, 0, none⟩) want.length cW) := (bC_ HS.out.bu 3).trans rfl; have hxf : wr.cell? ⟨gF, tg.toNat, none⟩ = some (.int .i64 (rd want tg)) := (Kd.R_celln 0 HS.out.rw _ p0 p1).1; have hff := (Kd.R_celln 0 HS.out.rw _ p0 p1).2; have hwv : IntKind.i64.wrap (rd want tg - mm) = o3 := by rw [ho3, e0.out]; exact i64_w _
        have N2 := Z_ (HS.out.putW tg o3 DFW.out DWU.out DWA.out); clear ho3; go_wp2; go_meet
        case rel => exact ⟨rfl, by rw [e2.out]; exact N2⟩
       case rest =>
        obtain ⟨rfl, HS⟩ := hcut; have hlw : (want1 want tg m).length = want.length := by unfold want1; split; rfl; exact List.length_set ..
        have HLW := Z_ hlw; clear hlw; obtain ⟨wt, hwt⟩ : ∃ wt, wt = want1 want tg m := ⟨_, rfl⟩; rw [← hwt] at HS HLW; have HWT := Z_ hwt; clear hwt; go_upto_if 172 with (fail); go_cut [13] (fun v13 wd => v13 = .int .i64 mm ∧ Aside0 (St g g9 #[Value.int IntKind.i64 n0, Value.slice AD diffs.length cD, Value.slice AF flow.length cF, Value.slice AW want.length cW] #[vlo, Value.slice (some adh) ha.length cH, Value.slice (some ada) la.length cA] (Value.slice AF flow.length cF) (Value.slice AW want.length cW) (Value.slice AL (linesL diffs flow).length cL) (Value.slice AU (usedL flow 0).length cU) (Value.slice (some ada) la.length cA) (linesL diffs flow) (usedL flow 0) la w0 fl (want2 want tg v m) wd))
        case first =>
         by_cases ct : v = 0
         ·have ctb : (v != 0) = false := bne_eq_false_iff_eq.mpr ct
          have e2 := Z_ (show want2 want tg v m = wt from (if_pos ct).trans HWT.out.symm); clear ct; go_wp2; go_meet
          case rel => exact ⟨rfl, by rw [e2.out]; exact HS⟩
         have ctb : (v != 0) = true := bne_iff_ne.mpr ct; obtain ⟨o3, ho3⟩ : ∃ o3, o3 = wrap64 (rd wt v + m) := ⟨_, rfl⟩; have e2 := Z_ (show want2 want tg v m = wt.set v.toNat o3 from by rw [ho3, HWT.out]; exact if_neg ct); clear ct; have p0 := HCW.out.1; have p1 := HCW.out.2; obtain ⟨gF, cF', eF, _, _, _⟩ := Kd.R_form HS.out.rw (by have := HLW.out; omega); injection eF with ea eb ec; subst ea; clear eb ec; have hz3 : wc.cell? ⟨g, 3, none⟩ = some (.slice (some ⟨gF, 0, none⟩) want.length cW) := (bC_ HS.out.bu 3).trans rfl; have hxf : wc.cell? ⟨gF, v.toNat, none⟩ = some (.int .i64 (rd wt v)) := (Kd.R_celln 0 HS.out.rw _ p0 p1).1; have hff := (Kd.R_celln 0 HS.out.rw _ p0 p1).2; have hwv : IntKind.i64.wrap (rd wt v + mm) = o3 := by rw [ho3, e0.out]; exact i64_w _
         have N2 := Z_ (HS.out.putW v o3 DFW.out DWU.out DWA.out); clear ho3; go_wp2; go_meet
         case rel => exact ⟨rfl, by rw [e2.out]; exact N2⟩
        case rest =>
         obtain ⟨rfl, HS⟩ := hcut; go_wp2; go_ret; have e4 := e1.out; subst e4; exact ⟨rfl, HS.out.bu, HS.out.rf, HS.out.rw, HS.out.hb⟩
end Go.Proofs.Ytpolojoeabmhdaa.A
/- fill: all nodes get what they want, step by step. -/
namespace Go.Proofs.Ytpolojoeabmhdaa.A
open Go.RowKit Go.Proofs.YtpolojoeabmhdaaW.PrintWords Go.Proofs.YtpolojoeabmhdaaW.PrintLast Go.Proofs.YtpolojoeabmhdaaW.PrintMore
def fillA (k : Nat) (n0 : Int) (diffs : List S39) : Nat → Int → List Int → List Int → Option (Bool × List Int × List Int)
 | 0, _, _, _ => none
 | q + 1, i, fl, wn => if i < n0 then (if 0 ≤ i ∧ i < wn.length then (if rd wn i > 0 then ((stepL k n0 diffs fl wn i (0 :: giversL wn 0)).bind fun r => if r.1 = false then some (false, r.2.1, r.2.2) else fillA k n0 diffs q i r.2.1 r.2.2) else fillA k n0 diffs q (i + 1) fl wn) else none) else some (true, fl, wn)
def fillB (k : Nat) (n0 : Int) (diffs : List S39) : Nat → Int → List Int → List Int → Option (Bool × List Int × List Int)
 | 0, _, _, _ => none
 | q + 1, i, fl, wn => if i < n0 then (if 0 ≤ i ∧ i < wn.length then (if rd wn i < 0 then ((stepL k n0 diffs fl wn 0 [i]).bind fun r => if r.1 = false then some (false, r.2.1, r.2.2) else fillB k n0 diffs q i r.2.1 r.2.2) else fillB k n0 diffs q (i + 1) fl wn) else none) else some (true, fl, wn)
def fillL (k : Nat) (n0 : Int) (diffs : List S39) (fl wn : List Int) : Option (Bool × List Int × List Int) :=
 (fillA k n0 diffs k 1 fl wn).bind fun r => if r.1 = false then some r else fillB k n0 diffs k 1 r.2.1 r.2.2
/-- What fill holds in the memory. -/
structure Us (g : Nat) (n0 : Int) (AD : Option Addr) (nD cD : Nat) (AF : Option Addr) (nF cF : Nat) (AW : Option Addr) (nW cW : Nat) (w0 : World) (fl wn : List Int) (W : World) : Prop where
 bu : W.heap[g]? = some (.cells #[.int .i64 n0, .slice AD nD cD, .slice AF nF cF, .slice AW nW cW] 96 (0, 0))
 rf : Kd.R (Kd.int .i64) 3 W w0.heap.size (fun _ => True) (.slice AF nF cF) fl
 rw : Kd.R (Kd.int .i64) 3 W w0.heap.size (fun _ => True) (.slice AW nW cW) wn
 hb : Below w0.heap.size w0 W
section
variable {g : Nat} {n0 : Int} {AD : Option Addr} {nD cD : Nat} {AF : Option Addr} {nF cF : Nat} {AW : Option Addr} {nW cW : Nat} {w0 : World} {fl wn : List Int} {W W1 : World}
theorem Us.below (h : Us g n0 AD nD cD AF nF cF AW nW cW w0 fl wn W) (hb : Below W.heap.size W W1) : Us g n0 AD nD cD AF nF cF AW nW cW w0 fl wn W1 :=
 ⟨bB_ h.bu hb, rB_ h.rf hb, rB_ h.rw hb, below_then h.hb h.hb.size hb⟩
theorem Us.grown (h : Us g n0 AD nD cD AF nF cF AW nW cW w0 fl wn W) (hg : W.grownBy W1 none) : Us g n0 AD nD cD AF nF cF AW nW cW w0 fl wn W1 :=
 ⟨blk_grown h.bu hg (by simp), Kd.R_grown h.rf hg (fun _ _ => by simp), Kd.R_grown h.rw hg (fun _ _ => by simp), h.hb.grown hg h.hb.size (fun k hk => by cases hk)⟩
theorem Us.givers (h : Us g n0 AD nD cD AF nF cF AW nW cW w0 fl wn W) (hn : nW ≤ 65536) : Calls Try.prog 127 #[.pointer (some ⟨g, 0, none⟩)] W fun e w' => ∃ v0_ : Value, e = .returned v0_ ∧ Kd.R (Kd.int .i64) 3 w' W.heap.size (fun _ => True) v0_ (0 :: giversL wn 0) ∧ Below W.heap.size W w' := by
 obtain ⟨rfl, h2, h3⟩ := rR_ h.rw; exact use_givers.calls g (.int .i64 n0) _ _ AW cW wn W h.bu h3 hn
end
theorem Us.step {g : Nat} {n0 : Int} {AD : Option Addr} {diffs : List S39} {cD : Nat} {AF : Option Addr} {nF cF : Nat} {AW : Option Addr} {nW cW : Nat} {w0 : World} {fl wn : List Int} {W : World} (h : Us g n0 AD diffs.length cD AF nF cF AW nW cW w0 fl wn W) {k : Nat} {tg : Int} {AG : Option Addr} {cG : Nat} {givers : List Int} {r1 : Bool} {r2 r3 : List Int}
  (hg : w0.heap.size ≤ g) (hD : Kd.C k39 w0 AD diffs.length diffs) (hcD : diffs.length ≤ cD) (hne : Dj (.slice AF nF cF) (.slice AW nW cW)) (hG : Kd.R (Kd.int .i64) 3 W w0.heap.size (fun _ => True) (.slice AG givers.length cG) givers) (hfd : nF = diffs.length) (hl : diffs.length ≤ 65536) (hm : ∀ d ∈ diffs, -4611686018427387904 ≤ d.f2 ∧ d.f2 ≤ 4611686018427387904)
  (hs : stepL k n0 diffs fl wn tg givers = some (r1, r2, r3)) : Calls Try.prog 126 #[.pointer (some ⟨g, 0, none⟩), .int .i64 tg, .slice AG givers.length cG] W fun e w' => e = .returned (.bool r1) ∧ Us g n0 AD diffs.length cD AF nF cF AW nW cW w0 r2 r3 w' := by
 have hr := rR_ hG; refine (use_step.calls k g n0 AD cD diffs _ _ fl wn tg AG cG givers r1 r2 r3 w0 W h.hb hg h.bu hD hcD h.rf h.rw hne hr.2.2 hr.2.1 ((rR_ h.rf).1.symm.trans hfd) hl hm hs).mono ?_; rintro e w' ⟨rfl, a, b, c, d⟩; exact ⟨rfl, a, b, c, d⟩
set_option maxHeartbeats 4000000 in
set_option maxRecDepth 100000 in
theorem use_fill.calls (k : Nat) (g : Nat) (n0 : Int) (AD : Option Addr) (cD : Nat) (diffs : List S39) (AF : Option Addr) (nF cF : Nat) (AW : Option Addr) (nW cW : Nat) (flow want : List Int) (r1 : Bool) (r2 r3 : List Int) (w0 w : World)
  (hU : Us g n0 AD diffs.length cD AF nF cF AW nW cW w0 flow want w) (hg : w0.heap.size ≤ g)
  (hD : Kd.C k39 w0 AD diffs.length diffs) (hcD : diffs.length ≤ cD) (hne : Dj (.slice AF nF cF) (.slice AW nW cW))
  (hfd : nF = diffs.length) (hl : diffs.length ≤ 65536) (hwl : nW ≤ 65536) (hn0 : n0 ≤ 4611686018427387904) (hm : ∀ d ∈ diffs, -4611686018427387904 ≤ d.f2 ∧ d.f2 ≤ 4611686018427387904)
  (h : fillL k n0 diffs flow want = some (r1, r2, r3)) :
  Calls Try.prog 110 #[.pointer (some ⟨g, 0, none⟩)] w fun e w' => e = .returned (.bool r1) ∧ Us g n0 AD diffs.length cD AF nF cF AW nW cW w0 r2 r3 w' := by
 unfold fillL at h; obtain ⟨⟨b, fm, wm⟩, hA, h⟩ := oS_.mp h; have HA := Z_ hA; have HH := Z_ h; have HS := Z_ hU; have HGE := Z_ hg; have HD := Z_ hD; have HCD := Z_ hcD; have HNE := Z_ hne; have HFD := Z_ hfd; have HL := Z_ hl; have HM := Z_ hm; have HWL := Z_ hwl; clear hA h hU hg hD hcD hne hfd hl hm hwl; go_enter Try.func110, Try.ntmps110; go_wp2; go_loopg [3] k (fun kq v3 w' => ∃ (i : Int) (fl wn : List Int), v3 = .int .i64 i ∧ Aside0 (1 ≤ i ∧ kq ≤ k ∧ fillA k n0 diffs kq i fl wn = some (b, fm, wm)) ∧ Aside0 (Us g n0 AD diffs.length cD AF nF cF AW nW cW w0 fl wn w'))
 case atStart => exact ⟨1, flow, want, rfl, ⟨by omega, by omega, HA.out⟩, HS⟩
 case round =>
  clear HS HA; obtain ⟨i, fl, wn, rfl, HA, HS⟩ := hrel
  cases gk with
  | zero => exact absurd HA.out.2.2 (by simp [fillA])
  | succ q =>
   have hA := HA.out.2.2; have hi1 := HA.out.1; have hqk := HA.out.2.1; have hz0 : wr.cell? ⟨g, 0, none⟩ = some (.int .i64 n0) := (bC_ HS.out.bu 0).trans rfl; unfold fillA at hA; by_cases c1 : i < n0
   ·have hA0 := Z_ HA.out.2.2
    clear hA HA; have c1b : decide (i < n0) = true := eT_ c1; go_wp2; go_loopg [] (q + 1) (fun kq w' => ∃ (fl wn : List Int), Aside0 (kq ≤ q + 1 ∧ fillA k n0 diffs kq i fl wn = some (b, fm, wm)) ∧ Aside0 (Us g n0 AD diffs.length cD AF nF cF AW nW cW w0 fl wn w'))
    case atStart => exact ⟨fl, wn, ⟨nR_ _, hA0.out⟩, HS⟩
    case round =>
     clear HS hA0 hz0; obtain ⟨fl, wn, HA, HS⟩ := hrel
     cases gk with
     | zero => exact absurd HA.out.2 (by simp [fillA])
     | succ q2 =>
      have hA := HA.out.2; have hq2 := HA.out.1; clear HA; unfold fillA at hA; rw [if_pos c1] at hA; by_cases c2 : 0 ≤ i ∧ i < (wn.length : Int)
      case neg => rw [if_neg c2] at hA; exact absurd hA (by simp)
      rw [if_pos c2] at hA; have hnw := (rR_ HS.out.rw).1; obtain ⟨adw, ew, hxw⟩ := Kd.at_int (rR_ HS.out.rw).2.2 i c2.1 c2.2; cases ew
      have p0 := c2.1; have p1 : i < (nW : Int) := by rw [hnw]; exact c2.2
      have hz3 : wr.cell? ⟨g, 3, none⟩ = some (.slice (some adw) nW cW) := (bC_ HS.out.bu 3).trans rfl; clear hnw c2; by_cases c3 : rd wn i > 0
      ·rw [if_pos c3] at hA
       have c3b : decide (rd wn i > 0) = true := eT_ c3; obtain ⟨⟨b1, f1, n1⟩, hS, hA⟩ := oS_.mp hA; have HST := Z_ hS; have HA := Z_ hA; clear hS hA
       cases b1 with
       | false =>
        have hA := HA.out; clear HA; simp only [if_pos, oJ_, pI_] at hA; obtain ⟨rfl, rfl, rfl⟩ := hA; have hh := HH.out; clear HH; simp only [if_pos, oJ_, pI_] at hh; obtain ⟨rfl, rfl, rfl⟩ := hh
        go_wp2_with (first
         | ((with_reducible refine gate_callee (f := 127) rfl ?_); refine gL_ (some 25) Try.func127 #[.pointer (some ⟨g, 0, none⟩)] ?_; refine (HS.out.givers HWL.out).mono ?_; rintro e w1 ⟨vG, rfl, ho, hb⟩; refine ⟨_, rfl, ?_⟩; have n0_ := Z_ (HS.out.below hb); have HG := Z_ (rL_ ho HS.out.hb.size); clear HS ho hb; have HS := n0_; clear n0_; (obtain ⟨AG, cG, rfl⟩ := own_slice (Kd.own_of_R HG.out)))
         | ((with_reducible refine gate_callee (f := 126) rfl ?_); refine gL_ (some 26) Try.func126 #[.pointer (some ⟨g, 0, none⟩), .int .i64 i, .slice AG (0 :: giversL wn 0).length cG] ?_; refine (HS.out.step HGE.out HD.out HCD.out HNE.out HG.out HFD.out HL.out HM.out HST.out).mono ?_; rintro e w2 ⟨rfl, hu⟩; refine ⟨_, rfl, ?_⟩; have n0_ := Z_ hu; clear HS HG hu; have HS := n0_; clear n0_))
        go_ret; exact ⟨rfl, HS.out⟩
       | true =>
        go_wp2_with (first
         | ((with_reducible refine gate_callee (f := 127) rfl ?_); refine gL_ (some 25) Try.func127 #[.pointer (some ⟨g, 0, none⟩)] ?_; refine (HS.out.givers HWL.out).mono ?_; rintro e w1 ⟨vG, rfl, ho, hb⟩; refine ⟨_, rfl, ?_⟩; have n0_ := Z_ (HS.out.below hb); have HG := Z_ (rL_ ho HS.out.hb.size); clear HS ho hb; have HS := n0_; clear n0_; (obtain ⟨AG, cG, rfl⟩ := own_slice (Kd.own_of_R HG.out)))
         | ((with_reducible refine gate_callee (f := 126) rfl ?_); refine gL_ (some 26) Try.func126 #[.pointer (some ⟨g, 0, none⟩), .int .i64 i, .slice AG (0 :: giversL wn 0).length cG] ?_; refine (HS.out.step HGE.out HD.out HCD.out HNE.out HG.out HFD.out HL.out HM.out HST.out).mono ?_; rintro e w2 ⟨rfl, hu⟩; refine ⟨_, rfl, ?_⟩; have n0_ := Z_ hu; clear HS HG hu; have HS := n0_; clear n0_))
        go_roundg q2
        case measure => omega
        case rel => exact ⟨f1, n1, ⟨by omega, HA.out⟩, HS⟩
      rw [if_neg c3] at hA; have c3b : decide (rd wn i > 0) = false := eF_ c3; have HA := Z_ hA; have hw64 : i + 1 ≤ 9223372036854775807 := by omega
      clear hA; go_wp2; go_roundg q2
      case measure => omega
      case rel => exact ⟨i + 1, fl, wn, rfl, ⟨by omega, by omega, HA.out⟩, HS⟩
   rw [if_neg c1] at hA; have c1b : decide (i < n0) = false := eF_ c1; simp only [oJ_, pI_] at hA; obtain ⟨rfl, rfl, rfl⟩ := hA; have hh := HH.out; rw [if_neg (by simp)] at hh; have HB := Z_ hh; clear hh HH HA hqk hi1; go_wp2; go_loopg [4] k (fun kq v4 w' => ∃ (i : Int) (fl wn : List Int), v4 = .int .i64 i ∧ Aside0 (1 ≤ i ∧ kq ≤ k ∧ fillB k n0 diffs kq i fl wn = some (r1, r2, r3)) ∧ Aside0 (Us g n0 AD diffs.length cD AF nF cF AW nW cW w0 fl wn w'))
   case atStart => exact ⟨1, fl, wn, rfl, ⟨by omega, by omega, HB.out⟩, HS⟩
   case round =>
    clear HS HB; obtain ⟨i, fl, wn, rfl, HA, HS⟩ := hrel
    cases gk with
    | zero => exact absurd HA.out.2.2 (by simp [fillB])
    | succ q =>
     have hA := HA.out.2.2; have hi1 := HA.out.1; have hqk := HA.out.2.1; have hz0 : wr.cell? ⟨g, 0, none⟩ = some (.int .i64 n0) := (bC_ HS.out.bu 0).trans rfl; unfold fillB at hA; by_cases c1 : i < n0
     ·have hA0 := Z_ HA.out.2.2
      clear hA HA; have c1b : decide (i < n0) = true := eT_ c1; go_wp2; go_loopg [] (q + 1) (fun kq w' => ∃ (fl wn : List Int), Aside0 (kq ≤ q + 1 ∧ fillB k n0 diffs kq i fl wn = some (r1, r2, r3)) ∧ Aside0 (Us g n0 AD diffs.length cD AF nF cF AW nW cW w0 fl wn w'))
      case atStart => exact ⟨fl, wn, ⟨nR_ _, hA0.out⟩, HS⟩
      case round =>
       clear HS hA0 hz0; obtain ⟨fl, wn, HA, HS⟩ := hrel
       cases gk with
       | zero => exact absurd HA.out.2 (by simp [fillB])
       | succ q2 =>
        have hA := HA.out.2; have hq2 := HA.out.1; clear HA; unfold fillB at hA; rw [if_pos c1] at hA; by_cases c2 : 0 ≤ i ∧ i < (wn.length : Int)
        case neg => rw [if_neg c2] at hA; exact absurd hA (by simp)
        rw [if_pos c2] at hA; have hnw := (rR_ HS.out.rw).1; obtain ⟨adw, ew, hxw⟩ := Kd.at_int (rR_ HS.out.rw).2.2 i c2.1 c2.2; cases ew
        have p0 := c2.1; have p1 : i < (nW : Int) := by rw [hnw]; exact c2.2
        have hz3 : wr.cell? ⟨g, 3, none⟩ = some (.slice (some adw) nW cW) := (bC_ HS.out.bu 3).trans rfl; clear hnw c2; by_cases c3 : rd wn i < 0
        ·rw [if_pos c3] at hA
         have c3b : decide (rd wn i < 0) = true := eT_ c3; obtain ⟨⟨b1, f1, n1⟩, hS, hA⟩ := oS_.mp hA; have HST := Z_ hS; have HA := Z_ hA; clear hS hA
         cases b1 with
         | false =>
          have hA := HA.out; clear HA; simp only [if_pos, oJ_, pI_] at hA; obtain ⟨rfl, rfl, rfl⟩ := hA
          go_wp2_with (first
           | ((with_reducible refine gate_dst (N := 47) rfl ?_); refine Kd.R_lit (w0 := w0) (Kd.int .i64) w0.heap.size 3 ?hg (N := 47) ?hd (xs := ([i] : List Int)) (inner := [.int .i64 i]) (ok := fun _ => True) (okp := fun _ => True) ?hr ?hp (fun _ hk => hk) trivial HS.out.hb HS.out.hb.size (by simp) ?_; (case hd => rfl); (case hg => rfl); (case hr => first | (go_simp; done) | (go_simp; rfl)); (case hp => exact (Reps.one (show Kd.M (Kd.int .i64) _ _ _ i [.int .i64 i] from rfl) (Reps.none _ _))); intro vG w1 ho hb hg_ hnew_; have n0_ := Z_ (HS.out.grown hg_); have HG := Z_ ho; clear HS ho hb hg_ hnew_; have HS := n0_; clear n0_; (obtain ⟨AG, cG, rfl⟩ := own_slice (Kd.own_of_R HG.out)))
           | ((with_reducible refine gate_callee (f := 126) rfl ?_); refine gL_ (some 48) Try.func126 #[.pointer (some ⟨g, 0, none⟩), .int .i64 0, .slice AG ([i]).length cG] ?_; refine (HS.out.step HGE.out HD.out HCD.out HNE.out HG.out HFD.out HL.out HM.out HST.out).mono ?_; rintro e w2 ⟨rfl, hu⟩; refine ⟨_, rfl, ?_⟩; have n0_ := Z_ hu; clear HS HG hu; have HS := n0_; clear n0_))
          go_ret; exact ⟨rfl, HS.out⟩
         | true =>
          go_wp2_with (first
           | ((with_reducible refine gate_dst (N := 47) rfl ?_); refine Kd.R_lit (w0 := w0) (Kd.int .i64) w0.heap.size 3 ?hg (N := 47) ?hd (xs := ([i] : List Int)) (inner := [.int .i64 i]) (ok := fun _ => True) (okp := fun _ => True) ?hr ?hp (fun _ hk => hk) trivial HS.out.hb HS.out.hb.size (by simp) ?_; (case hd => rfl); (case hg => rfl); (case hr => first | (go_simp; done) | (go_simp; rfl)); (case hp => exact (Reps.one (show Kd.M (Kd.int .i64) _ _ _ i [.int .i64 i] from rfl) (Reps.none _ _))); intro vG w1 ho hb hg_ hnew_; have n0_ := Z_ (HS.out.grown hg_); have HG := Z_ ho; clear HS ho hb hg_ hnew_; have HS := n0_; clear n0_; (obtain ⟨AG, cG, rfl⟩ := own_slice (Kd.own_of_R HG.out)))
           | ((with_reducible refine gate_callee (f := 126) rfl ?_); refine gL_ (some 48) Try.func126 #[.pointer (some ⟨g, 0, none⟩), .int .i64 0, .slice AG ([i]).length cG] ?_; refine (HS.out.step HGE.out HD.out HCD.out HNE.out HG.out HFD.out HL.out HM.out HST.out).mono ?_; rintro e w2 ⟨rfl, hu⟩; refine ⟨_, rfl, ?_⟩; have n0_ := Z_ hu; clear HS HG hu; have HS := n0_; clear n0_))
          go_roundg q2
          case measure => omega
          case rel => exact ⟨f1, n1, ⟨by omega, HA.out⟩, HS⟩
        rw [if_neg c3] at hA; have c3b : decide (rd wn i < 0) = false := eF_ c3; have HA := Z_ hA; have hw64 : i + 1 ≤ 9223372036854775807 := by omega
        clear hA; go_wp2; go_roundg q2
        case measure => omega
        case rel => exact ⟨i + 1, fl, wn, rfl, ⟨by omega, by omega, HA.out⟩, HS⟩
     rw [if_neg c1] at hA; have c1b : decide (i < n0) = false := eF_ c1; simp only [oJ_, pI_] at hA; obtain ⟨rfl, rfl, rfl⟩ := hA; go_wp2; go_ret; exact ⟨rfl, HS.out⟩
end Go.Proofs.Ytpolojoeabmhdaa.A
/- all and solve: the walks of Go's text, over any graph whose two methods answer. Turned from what wrap.py printed (mksolve.py). -/
namespace Go.Proofs.Ytpolojoeabmhdaa.A
open Go.RowKit Go.Proofs.YtpolojoeabmhdaaW.PrintWords Go.Proofs.YtpolojoeabmhdaaW.PrintLast Go.Proofs.YtpolojoeabmhdaaW.PrintMore
attribute [local go_sem] max2_int min2_int max_two min_two max_three min_three max_four min_four
theorem Graph.below {w W : World} {T : TypeId} {gv : Value} {n : Int} {l : List S39} (h : Graph w T gv n l) (hb : Below w.heap.size w W) : Graph W T gv n l := by
 obtain ⟨fL, fN, rL, rN, gL, gN, h1, h2, h3, h4, h5, h6⟩ := h.out; exact ⟨fL, fN, rL, rN, gL, gN, h1, h2, h3, h4, fun W' hW => h5 W' (below_then hb hb.size hW), fun W' hW => h6 W' (below_then hb hb.size hW)⟩
def diffs_all.l0 : Nat → List Int → Int → Int → Option (List Int)
 | 0, _, _, _ => none
 | k + 1, x3, x6, x7 => if x7 < x6 then (if x3.length < 17592186044416 then (diffs_all.l0 k (x3 ++ [x7]) x6 (wrap64 (x7 + 1))) else (none)) else (some x3)
def diffs_all.f (k : Nat) (a0_0 : Int) (l0_1 : List (S39)) : Option (List Int) := (diffs_plain_nodes.f a0_0 l0_1).bind fun t116 => (diffs_all.l0 k ([] : List Int) t116 0)
theorem diffs_all.mono_l : ∀ k, (∀ y0 y1 y2, LeO (diffs_all.l0 k y0 y1 y2) (diffs_all.l0 (k + 1) y0 y1 y2))
 | 0 => fun _ _ _ r h => by simp [diffs_all.l0] at h
 | k + 1 => by
  have ih0 := diffs_all.mono_l k; intro y0 y1 y2; unfold diffs_all.l0; repeat' first | (with_reducible first | exact ih0 _ _ _ | exact LeO.refl _ | exact LeO.none _ | refine LeO.ite ?_ ?_ | refine LeO.bind ?_ (fun _ => ?_)) | exact ih0 _ _ _ | exact LeO.none _ | refine LeO.ite ?_ ?_ | refine LeO.bind ?_ (fun _ => ?_)
theorem diffs_all.mono : ∀ a0 a1 k, LeO (diffs_all.f k a0 a1) (diffs_all.f (k + 1) a0 a1) := by
 intro a0 a1 k; have ih0 := diffs_all.mono_l k; unfold diffs_all.f; repeat' first | (with_reducible first | exact ih0 _ _ _ | exact LeO.refl _ | exact LeO.none _ | refine LeO.ite ?_ ?_ | refine LeO.bind ?_ (fun _ => ?_)) | exact ih0 _ _ _ | exact LeO.none _ | refine LeO.ite ?_ ?_ | refine LeO.bind ?_ (fun _ => ?_)
set_option maxHeartbeats 8000000 in
set_option maxRecDepth 100000 in
theorem diffs_all.any (k : Nat) (T : TypeId) (gv : Value) (a0_0 : Int) (l0_1 : List (S39)) (r : List Int) (w : World) (hG : Graph w T gv a0_0 l0_1) (h : diffs_all.f k a0_0 l0_1 = some r) :
  Calls Try.prog 111 #[.iface T gv] w fun e w' => ∃ v0_ : Value, e = .returned (v0_) ∧ Kd.R (Kd.int .i64) 3 w' w.heap.size (fun _ => True) v0_ r ∧ Below w.heap.size w w' := by
 obtain ⟨⟨fL, fN, rL, rN, gL, gN, hmL0, hmN0, hfL0, hfN0, hL0, hN0⟩⟩ := hG; have hmN := Z_ hmN0; have hfN := Z_ hfN0; have HB := Z_ (Below.refl w.heap.size w); have H : ((diffs_plain_nodes.f a0_0 l0_1).bind fun t116 => (diffs_all.l0 k ([] : List Int) t116 0)) = some r := h; clear h; replace H := oS_.mp H; obtain ⟨t116, A20, H⟩ := H; replace H : (diffs_all.l0 k ([] : List Int) t116 0) = some r := H; have A2 := Z_ A20; clear A20; have hN := Z_ (show ∀ W, Below w.heap.size w W → Calls Try.prog fN #[rN] W fun e W' => e = .returned (.int .i64 t116) ∧ Below W.heap.size W W' from (oI_ A2.out : a0_0 = t116) ▸ hN0); clear hmL0 hmN0 hfL0 hfN0 hL0 hN0; have H' := Z_ H; clear H; go_enter Try.func111, Try.ntmps111; go_wp2_with (first | (refine goesIL_ (some 6) rfl rfl rfl rfl (hmN.out _) hfN.out.1 hfN.out.2.1 hfN.out.2.2 ?_; refine (hN.out _ ?sN).mono ?_; (case sN => repeat (first | exact HB.out | apply fA_ | apply pB_ | apply fD_)); rintro e w3 ⟨rfl, hb⟩; refine ⟨_, rfl, ?_⟩; replace HB := Z_ (fS_ hB_ hb); (try clear hb))); go_loopg [3, 7] k (fun kq v3 v7 w' => ∃ (x3_1 : List Int) (x7_1 : Int), v7 = .int .i64 x7_1 ∧ Aside0 (diffs_all.l0 kq x3_1 t116 x7_1 = some r) ∧ Aside0 (kq ≤ k) ∧ Aside0 (Kd.R (Kd.int .i64) 3 w' w.heap.size (fun _ => True) v3 x3_1) ∧ Aside0 (Below w.heap.size w w'))
 case atStart => exact ⟨(([] : List Int)), (0), rf_, H', ⟨nR_ _⟩, ⟨by first | exact Kd.R_nil _ _ _ _ _ | exact Kd.N_nil _ _ _ _ _ | exact Kd.V_nil _ _ _ _ _ | exact Kd.Q_nil _ _ _ _ _ | exact Kd.S_nil _ _ _ _ _⟩, ⟨hB_⟩⟩
 case round =>
  clear H'; obtain ⟨x3_1, x7_1, rfl, HA, HK1, HO_3, HB⟩ := hrel
  cases gk with
  | zero => exact absurd HA.out (by simp [diffs_all.l0])
  | succ k1 =>
   have H := HA.out; clear HA; simp only [diffs_all.l0] at H; by_cases c4 : x7_1 < t116
   ·rw [if_pos c4] at H
    have c4b0 : decide (x7_1 < t116) = true := eT_ c4; clear c4; by_cases c5 : x3_1.length < 17592186044416
    ·rw [if_pos c5] at H
     have LMc5 := Z_ c5; clear c5; obtain ⟨y117, hy117⟩ : ∃ y_ : List Int, y_ = (x3_1 ++ [x7_1]) := ⟨_, rfl⟩; replace H : (diffs_all.l0 k1 y117 t116 (wrap64 (x7_1 + 1))) = some r := by first | (rw [hy117]; with_reducible exact H) | (have H2_ := (oB_ _ _).symm.trans H; rw [hy117]; with_reducible exact H2_) | (have H2_ := (oB_ _ _).symm.trans H; with_reducible exact H2_) | with_reducible exact H | (rw [hy117]; exact H) | exact H
     have Ny117 := Z_ hy117; clear hy117; have H' := Z_ H; clear H; go_wp2_with (first | ((with_reducible refine gate_builtin (b := .append) (xs := #[.tmp 10, .tmp 12]) rfl ?_); at_builtin; refine Kd.R_append (Kd.int .i64) (w0 := w) w.heap.size rfl (.tmp 10) (.tmp 12) 29 3 (.int .i64 0) 8 rfl Try.underlying29 info3 rfl (by decide) (by omega) u3 x3_1 x7_1 [.int .i64 x7_1] (fun _ => True) (fun _ => False) rfl rfl ?aP (fun _ hk => hk.elim) ?aF ?aO ?aB ?aS ?aL ?_; (case aP => exact rfl); (case aB => exact hB_); (case aF => exact (fun _ _ => trivial)); (case aO => exact (rK_ HO_3.out)); (case aS => exact (fZ_ hB_)); (case aL => have := LMc5.out; omega); intro v118 w6 ho hb hg hat; rw [← Ny117.out] at ho; replace HB := Z_ (hb); have HO119 := Z_ (ho); clear HO_3; clear ho hb hg hat)); go_roundg k1
     case measure => have := HK1.out; omega
     case rel => exact ⟨(y117), (wrap64 (x7_1 + 1)), rf_, H', ⟨by have := HK1.out; omega⟩, ⟨rK_ HO119.out⟩, ⟨hB_⟩⟩
    rw [if_neg c5] at H; exact absurd H (by simp)
   rw [if_neg c4] at H; have c4b0 : decide (x7_1 < t116) = false := eF_ c4; clear c4; obtain rfl := oI_ H; go_wp2; go_ret; exact ⟨_, eW_, rK_ HO_3.out, hB_⟩
def diffs_solve.l0 : Nat → List Int → Int → Int → List Int → List Bool → List Int → Option (List Int × List Int × List Bool × List Int × Int)
 | 0, _, _, _, _, _, _ => none
 | k + 1, x7, x24, x25, x135000, x135001, x135002 => if x25 < x24 then (if 0 ≤ x25 then (if x25 < (x7.length : Int) then (if 0 < (x135000.length : Int) then (diffs_solve.l0 k (x7.set (x25 : Int).toNat (wrap64 ((rd x7 x25) - (rd x135000 0)))) x24 (wrap64 (x25 + 1)) x135000 x135001 x135002) else (none)) else (none)) else (none)) else (some (x7, x135000, x135001, x135002, (-1)))
def diffs_solve.f (k : Nat) (a0_0 : Int) (l0_1 : List (S39)) : Option (List Int × List Int × List Bool × List Int × Int) := (diffs_all.f k a0_0 l0_1).bind fun t121 => ((diffs_grow.f k a0_0 l0_1 t121).bind fun bt124 => (if bt124.2.2.2 ≥ 0 then (some (([] : List Int), bt124.1, bt124.2.1, bt124.2.2.1, bt124.2.2.2)) else ((slices_Clone_int_int.f bt124.1).bind fun t135 => (diffs_solve.l0 k t135 (t135.length : Int) 0 bt124.1 bt124.2.1 bt124.2.2.1))))
theorem diffs_solve.mono_l : ∀ k, (∀ y0 y1 y2 y3 y4 y5, LeO (diffs_solve.l0 k y0 y1 y2 y3 y4 y5) (diffs_solve.l0 (k + 1) y0 y1 y2 y3 y4 y5))
 | 0 => fun _ _ _ _ _ _ r h => by simp [diffs_solve.l0] at h
 | k + 1 => by
  have ih0 := diffs_solve.mono_l k; intro y0 y1 y2 y3 y4 y5; unfold diffs_solve.l0; repeat' first | (with_reducible first | exact ih0 _ _ _ _ _ _ | exact diffs_all.mono _ _ _ | exact diffs_grow.mono _ _ _ _ | exact LeO.refl _ | exact LeO.none _ | refine LeO.ite ?_ ?_ | refine LeO.bind ?_ (fun _ => ?_)) | exact ih0 _ _ _ _ _ _ | exact diffs_all.mono _ _ _ | exact diffs_grow.mono _ _ _ _ | exact LeO.none _ | refine LeO.ite ?_ ?_ | refine LeO.bind ?_ (fun _ => ?_)
theorem diffs_solve.mono : ∀ a0 a1 k, LeO (diffs_solve.f k a0 a1) (diffs_solve.f (k + 1) a0 a1) := by
 intro a0 a1 k; have ih0 := diffs_solve.mono_l k; unfold diffs_solve.f; repeat' first | (with_reducible first | exact ih0 _ _ _ _ _ _ | exact diffs_all.mono _ _ _ | exact diffs_grow.mono _ _ _ _ | exact LeO.refl _ | exact LeO.none _ | refine LeO.ite ?_ ?_ | refine LeO.bind ?_ (fun _ => ?_)) | exact ih0 _ _ _ _ _ _ | exact diffs_all.mono _ _ _ | exact diffs_grow.mono _ _ _ _ | exact LeO.none _ | refine LeO.ite ?_ ?_ | refine LeO.bind ?_ (fun _ => ?_)
def diffs_solve.T8 : Bool × List (List Nat × List Nat) := (true, [([], []), ([], []), ([0, 1], [0, 1]), ([2], [2]), ([], []), ([4], [4]), ([5], [5]), ([6], [6]), ([3, 7], [3, 7]), ([0, 1, 0, 1, 2, 3, 4, 5, 6, 7, 8], [0, 1]), ([9, 8, 0, 1, 2, 3, 4, 5, 6, 7, 8], [8, 9])])
def diffs_solve.B8 : List Nat := [0, 0, 3, 7, 0, 16, 48, 112, 255, 511, 1023]
theorem diffs_solve.tab8 : rtab .any (opsOf Try.f81 8) = diffs_solve.T8 := by kernel_rfl
theorem diffs_solve.bits8 : waitsOk diffs_solve.T8.2 diffs_solve.B8 = true := by kernel_rfl
set_option maxHeartbeats 8000000 in
set_option maxRecDepth 100000 in
theorem diffs_solve.any (k : Nat) (T : TypeId) (gv : Value) (a0_0 : Int) (l0_1 : List (S39)) (r1 : List Int) (r2 : List Int) (r3 : List Bool) (r4 : List Int) (r5 : Int) (w : World) (hG : Graph w T gv a0_0 l0_1) (h : diffs_solve.f k a0_0 l0_1 = some (r1, r2, r3, r4, r5)) :
  Calls Try.prog 81 #[.iface T gv] w fun e w' => ∃ v0_ v1_ v2_ v3_ : Value, e = .returned (.tuple #[v0_, .agg #[v1_, v2_, v3_], .int .i64 r5]) ∧ Kd.R (Kd.int .i64) 3 w' w.heap.size (fun k_ => some k_ ≠ (v1_ : Value).ownBlock ∧ some k_ ≠ (v3_ : Value).ownBlock) v0_ r1 ∧ Kd.R (Kd.int .i64) 3 w' w.heap.size (fun k_ => some k_ ≠ (v0_ : Value).ownBlock ∧ some k_ ≠ (v3_ : Value).ownBlock) v1_ r2 ∧ Kd.R Kd.bool 4 w' w.heap.size (fun _ => True) v2_ r3 ∧ Kd.R (Kd.int .i64) 3 w' w.heap.size (fun k_ => some k_ ≠ (v0_ : Value).ownBlock ∧ some k_ ≠ (v1_ : Value).ownBlock) v3_ r4 ∧ Below w.heap.size w w' := by
 have hu88 := Try.underlying88; have HG := Z_ hG; clear hG; have HB := Z_ (Below.refl w.heap.size w); have H : ((diffs_all.f k a0_0 l0_1).bind fun t121 => ((diffs_grow.f k a0_0 l0_1 t121).bind fun bt124 => (if bt124.2.2.2 ≥ 0 then (some (([] : List Int), bt124.1, bt124.2.1, bt124.2.2.1, bt124.2.2.2)) else ((slices_Clone_int_int.f bt124.1).bind fun t135 => (diffs_solve.l0 k t135 (t135.length : Int) 0 bt124.1 bt124.2.1 bt124.2.2.1))))) = some (r1, r2, r3, r4, r5) := h; clear h; replace H := oS_.mp H; obtain ⟨t121, A20, H⟩ := H; replace H : ((diffs_grow.f k a0_0 l0_1 t121).bind fun bt124 => (if bt124.2.2.2 ≥ 0 then (some (([] : List Int), bt124.1, bt124.2.1, bt124.2.2.1, bt124.2.2.2)) else ((slices_Clone_int_int.f bt124.1).bind fun t135 => (diffs_solve.l0 k t135 (t135.length : Int) 0 bt124.1 bt124.2.1 bt124.2.2.1)))) = some (r1, r2, r3, r4, r5) := H; have A2 := Z_ A20; clear A20; replace H := oS_.mp H; obtain ⟨⟨t124, t127, t130, t133⟩, A30, H⟩ := H; replace H : (if t133 ≥ 0 then (some (([] : List Int), t124, t127, t130, t133)) else ((slices_Clone_int_int.f t124).bind fun t135 => (diffs_solve.l0 k t135 (t135.length : Int) 0 t124 t127 t130))) = some (r1, r2, r3, r4, r5) := H; have A3 := Z_ A30; clear A30; by_cases c4 : t133 ≥ 0
 ·rw [if_pos c4] at H
  have c4b0 : decide (0 ≤ t133) = true := eT_ c4; clear c4; simp only [oJ_, pI_] at H; obtain ⟨rfl, rfl, rfl, rfl, rfl⟩ := H; go_enter Try.func81, Try.ntmps81; try go_wp2_with (first | ((with_reducible refine gate_dst (N := 3) rfl ?_); refine bX_ 3 #[.slice none 0 0, .slice none 0 0, .slice none 0 0] 88 ?_; intro gb120 hg w5 hbox hb; have BK120 := Z_ (hbox); have GW120 := Z_ ((by rw [hg]; exact (fZ_ hB_) : w.heap.size ≤ gb120)); have GE120 := Z_ ((by rw [hg]; exact (fZ_ hB_) : w.heap.size ≤ gb120)); replace HB := Z_ (fS_ hB_ hb); clear hb hbox hg) | ((with_reducible refine gate_callee (f := 111) rfl ?_); refine gL_ (some 12) Try.func111 #[.iface T gv] ?_; (with_reducible refine (diffs_all.any k T gv a0_0 l0_1 t121 _ ?side1 A2.out).mono ?_); (case side1 => exact HG.out.below (by repeat (first | exact HB.out | apply fA_ | apply pB_ | apply fD_ | refine fE_ ?_ GE120.out))); rintro e w6 ⟨v122, rfl, ho0, hb⟩; refine ⟨_, rfl, ?_⟩; have HO123 := Z_ (rL_ ho0 (fZ_ hB_)); replace BK120 := Z_ (bS_ BK120.out hb); replace HB := Z_ (fS_ hB_ hb); (try clear hb); (try clear ho0); obtain ⟨Ao7, co7, eo7⟩ := rS_ HO123.out; subst eo7) | ((with_reducible refine gate_callee (f := 82) rfl ?_); refine gL_ (some 13) Try.func82 #[.iface T gv, .slice Ao7 t121.length co7] ?_; (with_reducible refine (diffs_grow.any k T gv a0_0 l0_1 _ _ t121 t124 t127 t130 t133 _ ?side1 ?side3 ?side4 A3.out).mono ?_); (case side1 => exact HG.out.below (by repeat (first | exact HB.out | apply fA_ | apply pB_ | apply fD_ | refine fE_ ?_ GE120.out))); (case side3 => exact cS_ (rR_ HO123.out).2.2); (case side4 => exact (rR_ HO123.out).2.1); rintro e w8 ⟨v125, v128, v131, rfl, ho0, ho1, ho2, hb⟩; refine ⟨_, rfl, ?_⟩; have HO126 := Z_ (rL_ (Kd.R_new' ho0 (Kd.R_lt (rK_ HO123.out))) (fZ_ hB_)); have HO129 := Z_ (rL_ ho1 (fZ_ hB_)); have HO132 := Z_ (rL_ (Kd.R_new' ho2 (Kd.R_lt (rK_ HO123.out))) (fZ_ hB_)); replace HO123 := Z_ (rM_ (Kd.R_told (Kd.R_told (Kd.R_old (rK_ HO123.out) hb) (Kd.R_base ho0)) (Kd.R_base ho2)) (fun _ h_ => h_.1)); replace BK120 := Z_ (bS_ BK120.out hb); replace HB := Z_ (fS_ hB_ hb); (try clear hb); (try clear ho0); (try clear ho1); (try clear ho2)) | ((with_reducible refine gate_dst (N := 5) rfl ?_); refine bX_ 5 #[.slice none 0 0, .slice none 0 0, .slice none 0 0] 88 ?_; intro gb134 hg w9 hbox hb; replace HO123 := Z_ (rB_ (rK_ HO123.out) hb); replace HO126 := Z_ (rB_ (rK_ HO126.out) hb); replace HO129 := Z_ (rB_ (rK_ HO129.out) hb); replace HO132 := Z_ (rB_ (rK_ HO132.out) hb); have BK134 := Z_ (hbox); have GW134 := Z_ ((by rw [hg]; exact (fZ_ hB_) : w.heap.size ≤ gb134)); have GE134 := Z_ ((by rw [hg]; exact (fZ_ hB_) : w.heap.size ≤ gb134)); replace HB := Z_ (fS_ hB_ hb); have NB120_134 := Z_ ((nB_ hg BK120.out : gb120 ≠ gb134)); have NB134_120 := Z_ ((by rw [hg]; exact Nat.ne_of_gt (blk_lt (g := gb120) (o := .cells #[.slice none 0 0, .slice none 0 0, .slice none 0 0] 88 (0, 0)) (bR_ BK120.out)) : gb134 ≠ gb120)); replace BK120 := Z_ (bS_ BK120.out hb); clear hb hbox hg; obtain ⟨Ao10, co10, eo10⟩ := rS_ HO126.out; subst eo10; have hnb11 := NB134_120.out; have hnc11 := NB120_134.out; obtain ⟨⟨hcz12_0, hcz12_1, hcz12_2⟩, hfz12_0, hfz12_1, hfz12_2⟩ := f3_ BK134.out; obtain ⟨Ao13, co13, eo13⟩ := rS_ HO129.out; subst eo13; obtain ⟨Ao14, co14, eo14⟩ := rS_ HO132.out; subst eo14))
  have n0_ : Aside0 (Kd.R (Kd.int .i64) 3 (((w9.setCell ⟨gb134, 0, none⟩ (.slice Ao10 t124.length co10)).setCell ⟨gb134, 1, none⟩ (.slice Ao13 t127.length co13)).setCell ⟨gb134, 2, none⟩ (.slice Ao14 t130.length co14)) w.heap.size (fun k_ => some k_ ≠ (.slice Ao10 t124.length co10 : Value).ownBlock ∧ some k_ ≠ (.slice Ao14 t130.length co14 : Value).ownBlock) (.slice Ao7 t121.length co7) t121) := ⟨by (with_reducible repeat (first | apply rA_ | apply rN_ | apply rD_)); exact rM_ (rF_ (p := ⟨gb134, 2, none⟩) (rF_ (p := ⟨gb134, 1, none⟩) (rF_ (p := ⟨gb134, 0, none⟩) (Kd.R_types HO123.out BK134.out (by decide)) (fun _ hk => hk.2) (.slice Ao10 t124.length co10)) (fun _ hk => hk.2) (.slice Ao13 t127.length co13)) (fun _ hk => hk.2) (.slice Ao14 t130.length co14)) (fun _ hk => ⟨hk.1.1.2, hk.1.2⟩)⟩; have n1_ : Aside0 (Kd.R (Kd.int .i64) 3 (((w9.setCell ⟨gb134, 0, none⟩ (.slice Ao10 t124.length co10)).setCell ⟨gb134, 1, none⟩ (.slice Ao13 t127.length co13)).setCell ⟨gb134, 2, none⟩ (.slice Ao14 t130.length co14)) w.heap.size (fun k_ => some k_ ≠ (.slice Ao7 t121.length co7 : Value).ownBlock ∧ some k_ ≠ (.slice Ao14 t130.length co14 : Value).ownBlock) (.slice Ao10 t124.length co10) t124) := ⟨by (with_reducible repeat (first | apply rA_ | apply rN_ | apply rD_)); exact rM_ (rF_ (p := ⟨gb134, 2, none⟩) (rF_ (p := ⟨gb134, 1, none⟩) (rF_ (p := ⟨gb134, 0, none⟩) (Kd.R_types HO126.out BK134.out (by decide)) (fun _ hk => hk.2) (.slice Ao10 t124.length co10)) (fun _ hk => hk.2) (.slice Ao13 t127.length co13)) (fun _ hk => hk.2) (.slice Ao14 t130.length co14)) (fun _ hk => ⟨hk.1.2, hk.1.1⟩)⟩; have n2_ : Aside0 (Kd.R Kd.bool 4 (((w9.setCell ⟨gb134, 0, none⟩ (.slice Ao10 t124.length co10)).setCell ⟨gb134, 1, none⟩ (.slice Ao13 t127.length co13)).setCell ⟨gb134, 2, none⟩ (.slice Ao14 t130.length co14)) w.heap.size (fun _ => True) (.slice Ao13 t127.length co13) t127) := ⟨by (with_reducible repeat (first | apply rA_ | apply rN_ | apply rD_)); exact rM_ (rF_ (p := ⟨gb134, 2, none⟩) (rF_ (p := ⟨gb134, 1, none⟩) (rF_ (p := ⟨gb134, 0, none⟩) (Kd.R_types HO129.out BK134.out (by decide)) (fun _ hk => hk.2) (.slice Ao10 t124.length co10)) (fun _ hk => hk.2) (.slice Ao13 t127.length co13)) (fun _ hk => hk.2) (.slice Ao14 t130.length co14)) (fun _ hk => trivial)⟩; have n3_ : Aside0 (Kd.R (Kd.int .i64) 3 (((w9.setCell ⟨gb134, 0, none⟩ (.slice Ao10 t124.length co10)).setCell ⟨gb134, 1, none⟩ (.slice Ao13 t127.length co13)).setCell ⟨gb134, 2, none⟩ (.slice Ao14 t130.length co14)) w.heap.size (fun k_ => some k_ ≠ (.slice Ao7 t121.length co7 : Value).ownBlock ∧ some k_ ≠ (.slice Ao10 t124.length co10 : Value).ownBlock) (.slice Ao14 t130.length co14) t130) := ⟨by (with_reducible repeat (first | apply rA_ | apply rN_ | apply rD_)); exact rM_ (rF_ (p := ⟨gb134, 2, none⟩) (rF_ (p := ⟨gb134, 1, none⟩) (rF_ (p := ⟨gb134, 0, none⟩) (Kd.R_types HO132.out BK134.out (by decide)) (fun _ hk => hk.2) (.slice Ao10 t124.length co10)) (fun _ hk => hk.2) (.slice Ao13 t127.length co13)) (fun _ hk => hk.2) (.slice Ao14 t130.length co14)) (fun _ hk => ⟨hk.1.2, hk.1.1⟩)⟩; have n4_ : Aside0 ((((w9.setCell ⟨gb134, 0, none⟩ (.slice Ao10 t124.length co10)).setCell ⟨gb134, 1, none⟩ (.slice Ao13 t127.length co13)).setCell ⟨gb134, 2, none⟩ (.slice Ao14 t130.length co14)).heap[gb120]? = some (.cells #[.slice none 0 0, .slice none 0 0, .slice none 0 0] 88 (0, 0))) := ⟨by (with_reducible repeat (first | refine bN_ ?_ _ | refine bD_ ?_ | refine bA_ ?_ _)); refine blk_far ?_ NB120_134.out _; (with_reducible repeat (first | refine bN_ ?_ _ | refine bD_ ?_ | refine bA_ ?_ _)); refine blk_far ?_ NB120_134.out _; (with_reducible repeat (first | refine bN_ ?_ _ | refine bD_ ?_ | refine bA_ ?_ _)); refine blk_far ?_ NB120_134.out _; (with_reducible repeat (first | refine bN_ ?_ _ | refine bD_ ?_ | refine bA_ ?_ _)); exact BK120.out⟩; have n5_ : Aside0 ((((w9.setCell ⟨gb134, 0, none⟩ (.slice Ao10 t124.length co10)).setCell ⟨gb134, 1, none⟩ (.slice Ao13 t127.length co13)).setCell ⟨gb134, 2, none⟩ (.slice Ao14 t130.length co14)).heap[gb134]? = some (.cells #[.slice Ao10 t124.length co10, .slice Ao13 t127.length co13, .slice Ao14 t130.length co14] 88 (0, 0))) := ⟨by (with_reducible repeat (first | refine bN_ ?_ _ | refine bD_ ?_ | refine bA_ ?_ _)); refine blk_put (cs := #[.slice Ao10 t124.length co10, .slice Ao13 t127.length co13, .slice none 0 0]) ?_ 2 _ rfl; (with_reducible repeat (first | refine bN_ ?_ _ | refine bD_ ?_ | refine bA_ ?_ _)); refine blk_put (cs := #[.slice Ao10 t124.length co10, .slice none 0 0, .slice none 0 0]) ?_ 1 _ rfl; (with_reducible repeat (first | refine bN_ ?_ _ | refine bD_ ?_ | refine bA_ ?_ _)); refine blk_put (cs := #[.slice none 0 0, .slice none 0 0, .slice none 0 0]) ?_ 0 _ rfl; (with_reducible repeat (first | refine bN_ ?_ _ | refine bD_ ?_ | refine bA_ ?_ _)); exact BK134.out⟩; have n6_ : Aside0 (Below w.heap.size w (((w9.setCell ⟨gb134, 0, none⟩ (.slice Ao10 t124.length co10)).setCell ⟨gb134, 1, none⟩ (.slice Ao13 t127.length co13)).setCell ⟨gb134, 2, none⟩ (.slice Ao14 t130.length co14))) := ⟨hB_⟩; (try clear HO123)
  (try clear HO126)
  (try clear HO129)
  (try clear HO132)
  (try clear BK120)
  (try clear BK134)
  (try clear HB)
  generalize (((w9.setCell ⟨gb134, 0, none⟩ (.slice Ao10 t124.length co10)).setCell ⟨gb134, 1, none⟩ (.slice Ao13 t127.length co13)).setCell ⟨gb134, 2, none⟩ (.slice Ao14 t130.length co14)) = w15 at n0_ n1_ n2_ n3_ n4_ n5_ n6_ ⊢; have HO123 := n0_; have HO126 := n1_; have HO129 := n2_; have HO132 := n3_; have BK120 := n4_; have BK134 := n5_; have HB := n6_; clear n0_ n1_ n2_ n3_ n4_ n5_ n6_; replace HO123 := Z_ (rD_ HO123.out); replace HO126 := Z_ (rD_ HO126.out); replace HO129 := Z_ (rD_ HO129.out); replace HO132 := Z_ (rD_ HO132.out); replace BK120 := Z_ (bD_ BK120.out); replace BK134 := Z_ (bD_ BK134.out); replace HB := Z_ (fD_ HB.out); refine start_ (n := 5) (S := fun w' => w'.cell? ⟨gb134, 0, none⟩ = some (.slice Ao10 t124.length co10) ∧ w'.cell? ⟨gb134, 1, none⟩ = some (.slice Ao13 t127.length co13) ∧ w'.cell? ⟨gb134, 2, none⟩ = some (.slice Ao14 t130.length co14)) (ds := []) #[false, false, false, false, false] (by kernel_rfl) rfl rfl ⟨(bC_ BK134.out 0).trans rfl, (bC_ BK134.out 1).trans rfl, (bC_ BK134.out 2).trans rfl⟩ (fun hHeld => ?_); generalize w15.drew = w16 at HO123 HO126 HO129 HO132 BK120 BK134 HB hHeld ⊢; refine pP_ 1 19 ?_; refine pP_ 2 2 ?_; refine pT_ 0 18 ?_; refine oN_ 3 none (fun K hK => ?_); have hs17 : w16.cell? ⟨gb120, 0, none⟩ = some (.slice none 0 0) := (bC_ BK120.out 0).trans rfl; have hfs17 := bF_ BK120.out 0; have hns17_1 := NB134_120.out; have hms17_1 := NB120_134.out; have hs18 : w16.cell? ⟨gb120, 1, none⟩ = some (.slice none 0 0) := (bC_ BK120.out 1).trans rfl; have hfs18 := bF_ BK120.out 1; have hns18_1 := NB134_120.out; have hms18_1 := NB120_134.out; have hs19 : w16.cell? ⟨gb120, 2, none⟩ = some (.slice none 0 0) := (bC_ BK120.out 2).trans rfl; have hfs19 := bF_ BK120.out 2; have hns19_1 := NB134_120.out; have hms19_1 := NB120_134.out; refine skip_ (w1 := ?_) (by rfl) rfl ?_ ?_; rotate_left
  ·go_simp
   rfl
  refine hK.out _ _ ⟨((cell_far (p := ⟨gb120, _, none⟩) NB134_120.out _).trans (((cell_far (p := ⟨gb120, _, none⟩) NB134_120.out _).trans (((cell_far (p := ⟨gb120, _, none⟩) NB134_120.out _).trans (hHeld.1)))))), ((cell_far (p := ⟨gb120, _, none⟩) NB134_120.out _).trans (((cell_far (p := ⟨gb120, _, none⟩) NB134_120.out _).trans (((cell_far (p := ⟨gb120, _, none⟩) NB134_120.out _).trans (hHeld.2.1)))))), ((cell_far (p := ⟨gb120, _, none⟩) NB134_120.out _).trans (((cell_far (p := ⟨gb120, _, none⟩) NB134_120.out _).trans (((cell_far (p := ⟨gb120, _, none⟩) NB134_120.out _).trans (hHeld.2.2))))))⟩ (fun hHeld => ?_); clear hK K; refine pP_ 4 4 ?_; refine dN_ ?_; try go_wp2
  refine bodyPost_ret (results_list (rs := [.tmp 2, .cell 3 88, .tmp 4]) rfl (by simp) (.tmp (.cell gb120 88 #[.slice Ao10 t124.length co10, .slice Ao13 t127.length co13, .slice Ao14 t130.length co14] (0, 0) _ rfl (by (with_reducible repeat (first | refine bN_ ?_ _ | refine bD_ ?_ | refine bA_ ?_ _)); refine blk_put (cs := #[.slice Ao10 t124.length co10, .slice Ao13 t127.length co13, .slice none 0 0]) ?_ 2 _ rfl; (with_reducible repeat (first | refine bN_ ?_ _ | refine bD_ ?_ | refine bA_ ?_ _)); refine blk_put (cs := #[.slice Ao10 t124.length co10, .slice none 0 0, .slice none 0 0]) ?_ 1 _ rfl; (with_reducible repeat (first | refine bN_ ?_ _ | refine bD_ ?_ | refine bA_ ?_ _)); refine blk_put (cs := #[.slice none 0 0, .slice none 0 0, .slice none 0 0]) ?_ 0 _ rfl; (with_reducible repeat (first | refine bN_ ?_ _ | refine bD_ ?_ | refine bA_ ?_ _)); exact BK120.out) Try.underlying88 rfl (by kernel_rfl) (.tmp .nil)))) rfl ?_; exact ⟨_, _, _, _, eW_, by first | exact Kd.R_nil _ _ _ _ _ | exact Kd.N_nil _ _ _ _ _ | exact Kd.V_nil _ _ _ _ _ | exact Kd.Q_nil _ _ _ _ _ | exact Kd.S_nil _ _ _ _ _, by (with_reducible repeat (first | apply rA_ | apply rN_ | apply rD_)); exact rM_ (rF_ (p := ⟨gb120, 2, none⟩) (rF_ (p := ⟨gb120, 1, none⟩) (rF_ (p := ⟨gb120, 0, none⟩) (Kd.R_types HO126.out BK120.out (by decide)) (fun _ hk => hk.2) (.slice Ao10 t124.length co10)) (fun _ hk => hk.2) (.slice Ao13 t127.length co13)) (fun _ hk => hk.2) (.slice Ao14 t130.length co14)) (fun _ hk => ⟨(by simp [Value.ownBlock]), hk.1.2⟩), by (with_reducible repeat (first | apply rA_ | apply rN_ | apply rD_)); exact rM_ (rF_ (p := ⟨gb120, 2, none⟩) (rF_ (p := ⟨gb120, 1, none⟩) (rF_ (p := ⟨gb120, 0, none⟩) (Kd.R_types HO129.out BK120.out (by decide)) (fun _ hk => hk.2) (.slice Ao10 t124.length co10)) (fun _ hk => hk.2) (.slice Ao13 t127.length co13)) (fun _ hk => hk.2) (.slice Ao14 t130.length co14)) (fun _ hk => trivial), by (with_reducible repeat (first | apply rA_ | apply rN_ | apply rD_)); exact rM_ (rF_ (p := ⟨gb120, 2, none⟩) (rF_ (p := ⟨gb120, 1, none⟩) (rF_ (p := ⟨gb120, 0, none⟩) (Kd.R_types HO132.out BK120.out (by decide)) (fun _ hk => hk.2) (.slice Ao10 t124.length co10)) (fun _ hk => hk.2) (.slice Ao13 t127.length co13)) (fun _ hk => hk.2) (.slice Ao14 t130.length co14)) (fun _ hk => ⟨(by simp [Value.ownBlock]), hk.1.2⟩), hB_⟩
 rw [if_neg c4] at H; have c4b0 : decide (0 ≤ t133) = false := eF_ c4; clear c4; replace H := oS_.mp H; obtain ⟨t135, A200, H⟩ := H; replace H : (diffs_solve.l0 k t135 (t135.length : Int) 0 t124 t127 t130) = some (r1, r2, r3, r4, r5) := H; have A20 := Z_ A200; clear A200; have H' := Z_ H; clear H; go_enter Try.func81, Try.ntmps81; go_wp2_with (first | ((with_reducible refine gate_dst (N := 3) rfl ?_); refine bX_ 3 #[.slice none 0 0, .slice none 0 0, .slice none 0 0] 88 ?_; intro gb120 hg w21 hbox hb; have BK120 := Z_ (hbox); have GW120 := Z_ ((by rw [hg]; exact (fZ_ hB_) : w.heap.size ≤ gb120)); have GE120 := Z_ ((by rw [hg]; exact (fZ_ hB_) : w.heap.size ≤ gb120)); replace HB := Z_ (fS_ hB_ hb); clear hb hbox hg) | ((with_reducible refine gate_callee (f := 111) rfl ?_); refine gL_ (some 12) Try.func111 #[.iface T gv] ?_; (with_reducible refine (diffs_all.any k T gv a0_0 l0_1 t121 _ ?side1 A2.out).mono ?_); (case side1 => exact HG.out.below (by repeat (first | exact HB.out | apply fA_ | apply pB_ | apply fD_ | refine fE_ ?_ GE120.out))); rintro e w22 ⟨v122, rfl, ho0, hb⟩; refine ⟨_, rfl, ?_⟩; have HO123 := Z_ (rL_ ho0 (fZ_ hB_)); replace BK120 := Z_ (bS_ BK120.out hb); replace HB := Z_ (fS_ hB_ hb); (try clear hb); (try clear ho0); obtain ⟨Ao23, co23, eo23⟩ := rS_ HO123.out; subst eo23) | ((with_reducible refine gate_callee (f := 82) rfl ?_); refine gL_ (some 13) Try.func82 #[.iface T gv, .slice Ao23 t121.length co23] ?_; (with_reducible refine (diffs_grow.any k T gv a0_0 l0_1 _ _ t121 t124 t127 t130 t133 _ ?side1 ?side3 ?side4 A3.out).mono ?_); (case side1 => exact HG.out.below (by repeat (first | exact HB.out | apply fA_ | apply pB_ | apply fD_ | refine fE_ ?_ GE120.out))); (case side3 => exact cS_ (rR_ HO123.out).2.2); (case side4 => exact (rR_ HO123.out).2.1); rintro e w24 ⟨v125, v128, v131, rfl, ho0, ho1, ho2, hb⟩; refine ⟨_, rfl, ?_⟩; have HO126 := Z_ (rL_ (Kd.R_new' ho0 (Kd.R_lt (rK_ HO123.out))) (fZ_ hB_)); have HO129 := Z_ (rL_ ho1 (fZ_ hB_)); have HO132 := Z_ (rL_ (Kd.R_new' ho2 (Kd.R_lt (rK_ HO123.out))) (fZ_ hB_)); replace HO123 := Z_ (rM_ (Kd.R_told (Kd.R_told (Kd.R_old (rK_ HO123.out) hb) (Kd.R_base ho0)) (Kd.R_base ho2)) (fun _ h_ => h_.1)); replace BK120 := Z_ (bS_ BK120.out hb); replace HB := Z_ (fS_ hB_ hb); (try clear hb); (try clear ho0); (try clear ho1); (try clear ho2)) | ((with_reducible refine gate_dst (N := 5) rfl ?_); refine bX_ 5 #[.slice none 0 0, .slice none 0 0, .slice none 0 0] 88 ?_; intro gb134 hg w25 hbox hb; replace HO123 := Z_ (rB_ (rK_ HO123.out) hb); replace HO126 := Z_ (rB_ (rK_ HO126.out) hb); replace HO129 := Z_ (rB_ (rK_ HO129.out) hb); replace HO132 := Z_ (rB_ (rK_ HO132.out) hb); have BK134 := Z_ (hbox); have GW134 := Z_ ((by rw [hg]; exact (fZ_ hB_) : w.heap.size ≤ gb134)); have GE134 := Z_ ((by rw [hg]; exact (fZ_ hB_) : w.heap.size ≤ gb134)); replace HB := Z_ (fS_ hB_ hb); have NB120_134 := Z_ ((nB_ hg BK120.out : gb120 ≠ gb134)); have NB134_120 := Z_ ((by rw [hg]; exact Nat.ne_of_gt (blk_lt (g := gb120) (o := .cells #[.slice none 0 0, .slice none 0 0, .slice none 0 0] 88 (0, 0)) (bR_ BK120.out)) : gb134 ≠ gb120)); replace BK120 := Z_ (bS_ BK120.out hb); clear hb hbox hg; obtain ⟨Ao26, co26, eo26⟩ := rS_ HO126.out; subst eo26; have hnb27 := NB134_120.out; have hnc27 := NB120_134.out; obtain ⟨⟨hcz28_0, hcz28_1, hcz28_2⟩, hfz28_0, hfz28_1, hfz28_2⟩ := f3_ BK134.out; obtain ⟨Ao29, co29, eo29⟩ := rS_ HO129.out; subst eo29; obtain ⟨Ao30, co30, eo30⟩ := rS_ HO132.out; subst eo30) | ((with_reducible refine gate_callee (f := 99) rfl ?_); refine gL_ (some 22) Try.func99 #[.slice Ao26 t124.length co26] ?_; (with_reducible refine (slices_Clone_int_int.calls _ _ t124 t135 _ ?side1 ?side2 A20.out).mono ?_); (case side1 => refine (rR_ (e := 3) (base := w.heap.size) (ok := fun k_ => (some k_ ≠ (.slice Ao30 t130.length co30 : Value).ownBlock ∧ some k_ ≠ (.slice Ao23 t121.length co23 : Value).ownBlock)) (n := t124.length) (c := co26) ?_).2.2; exact (by (with_reducible repeat (first | apply rA_ | apply rN_ | apply rD_)); exact (rM_ (rF_ (p := ⟨gb134, 2, none⟩) (rF_ (p := ⟨gb134, 1, none⟩) (rF_ (p := ⟨gb134, 0, none⟩) (Kd.R_types HO126.out BK134.out (by decide)) (fun _ hk => hk.2) (.slice Ao26 t124.length co26)) (fun _ hk => hk.2) (.slice Ao29 t127.length co29)) (fun _ hk => hk.2) (.slice Ao30 t130.length co30)) (fun _ h_ => h_.1)))); (case side2 => exact (rR_ HO126.out).2.1); rintro e w31 ⟨v136, rfl, ho0, hb⟩; refine ⟨_, rfl, ?_⟩; replace HO129 := Z_ (rB_ (by (with_reducible repeat (first | apply rA_ | apply rN_ | apply rD_)); exact (rM_ (rF_ (p := ⟨gb134, 2, none⟩) (rF_ (p := ⟨gb134, 1, none⟩) (rF_ (p := ⟨gb134, 0, none⟩) (Kd.R_types HO129.out BK134.out (by decide)) (fun _ hk => hk.2) (.slice Ao26 t124.length co26)) (fun _ hk => hk.2) (.slice Ao29 t127.length co29)) (fun _ hk => hk.2) (.slice Ao30 t130.length co30)) (fun _ h_ => h_.1))) hb); have HO137 := Z_ (rL_ (Kd.R_new' (Kd.R_new' (Kd.R_new' ho0 (Kd.R_lt (by (with_reducible repeat (first | apply rA_ | apply rN_ | apply rD_)); exact (rM_ (rF_ (p := ⟨gb134, 2, none⟩) (rF_ (p := ⟨gb134, 1, none⟩) (rF_ (p := ⟨gb134, 0, none⟩) (Kd.R_types HO123.out BK134.out (by decide)) (fun _ hk => hk.2) (.slice Ao26 t124.length co26)) (fun _ hk => hk.2) (.slice Ao29 t127.length co29)) (fun _ hk => hk.2) (.slice Ao30 t130.length co30)) (fun _ h_ => h_.1))))) (Kd.R_lt (by (with_reducible repeat (first | apply rA_ | apply rN_ | apply rD_)); exact (rM_ (rF_ (p := ⟨gb134, 2, none⟩) (rF_ (p := ⟨gb134, 1, none⟩) (rF_ (p := ⟨gb134, 0, none⟩) (Kd.R_types HO126.out BK134.out (by decide)) (fun _ hk => hk.2) (.slice Ao26 t124.length co26)) (fun _ hk => hk.2) (.slice Ao29 t127.length co29)) (fun _ hk => hk.2) (.slice Ao30 t130.length co30)) (fun _ h_ => h_.1))))) (Kd.R_lt (by (with_reducible repeat (first | apply rA_ | apply rN_ | apply rD_)); exact (rM_ (rF_ (p := ⟨gb134, 2, none⟩) (rF_ (p := ⟨gb134, 1, none⟩) (rF_ (p := ⟨gb134, 0, none⟩) (Kd.R_types HO132.out BK134.out (by decide)) (fun _ hk => hk.2) (.slice Ao26 t124.length co26)) (fun _ hk => hk.2) (.slice Ao29 t127.length co29)) (fun _ hk => hk.2) (.slice Ao30 t130.length co30)) (fun _ h_ => h_.1))))) (fZ_ hB_)); replace HO123 := Z_ (Kd.R_elder' (by (with_reducible repeat (first | apply rA_ | apply rN_ | apply rD_)); exact (rM_ (rF_ (p := ⟨gb134, 2, none⟩) (rF_ (p := ⟨gb134, 1, none⟩) (rF_ (p := ⟨gb134, 0, none⟩) (Kd.R_types HO123.out BK134.out (by decide)) (fun _ hk => hk.2) (.slice Ao26 t124.length co26)) (fun _ hk => hk.2) (.slice Ao29 t127.length co29)) (fun _ hk => hk.2) (.slice Ao30 t130.length co30)) (fun _ h_ => h_.1))) (Kd.R_base ho0) hb); replace HO126 := Z_ (Kd.R_elder' (by (with_reducible repeat (first | apply rA_ | apply rN_ | apply rD_)); exact (rM_ (rF_ (p := ⟨gb134, 2, none⟩) (rF_ (p := ⟨gb134, 1, none⟩) (rF_ (p := ⟨gb134, 0, none⟩) (Kd.R_types HO126.out BK134.out (by decide)) (fun _ hk => hk.2) (.slice Ao26 t124.length co26)) (fun _ hk => hk.2) (.slice Ao29 t127.length co29)) (fun _ hk => hk.2) (.slice Ao30 t130.length co30)) (fun _ h_ => h_.1))) (Kd.R_base ho0) hb); replace HO132 := Z_ (Kd.R_elder' (by (with_reducible repeat (first | apply rA_ | apply rN_ | apply rD_)); exact (rM_ (rF_ (p := ⟨gb134, 2, none⟩) (rF_ (p := ⟨gb134, 1, none⟩) (rF_ (p := ⟨gb134, 0, none⟩) (Kd.R_types HO132.out BK134.out (by decide)) (fun _ hk => hk.2) (.slice Ao26 t124.length co26)) (fun _ hk => hk.2) (.slice Ao29 t127.length co29)) (fun _ hk => hk.2) (.slice Ao30 t130.length co30)) (fun _ h_ => h_.1))) (Kd.R_base ho0) hb); replace BK120 := Z_ (bB_ (g := gb120) (o := .cells #[.slice none 0 0, .slice none 0 0, .slice none 0 0] 88 (0, 0)) (by (with_reducible repeat (first | refine bN_ ?_ _ | refine bD_ ?_ | refine bA_ ?_ _)); refine blk_far ?_ NB120_134.out _; (with_reducible repeat (first | refine bN_ ?_ _ | refine bD_ ?_ | refine bA_ ?_ _)); refine blk_far ?_ NB120_134.out _; (with_reducible repeat (first | refine bN_ ?_ _ | refine bD_ ?_ | refine bA_ ?_ _)); refine blk_far ?_ NB120_134.out _; (with_reducible repeat (first | refine bN_ ?_ _ | refine bD_ ?_ | refine bA_ ?_ _)); exact BK120.out) hb); replace BK134 := Z_ (bB_ (g := gb134) (o := .cells #[.slice Ao26 t124.length co26, .slice Ao29 t127.length co29, .slice Ao30 t130.length co30] 88 (0, 0)) (by (with_reducible repeat (first | refine bN_ ?_ _ | refine bD_ ?_ | refine bA_ ?_ _)); refine blk_put (cs := #[.slice Ao26 t124.length co26, .slice Ao29 t127.length co29, .slice none 0 0]) ?_ 2 _ rfl; (with_reducible repeat (first | refine bN_ ?_ _ | refine bD_ ?_ | refine bA_ ?_ _)); refine blk_put (cs := #[.slice Ao26 t124.length co26, .slice none 0 0, .slice none 0 0]) ?_ 1 _ rfl; (with_reducible repeat (first | refine bN_ ?_ _ | refine bD_ ?_ | refine bA_ ?_ _)); refine blk_put (cs := #[.slice none 0 0, .slice none 0 0, .slice none 0 0]) ?_ 0 _ rfl; (with_reducible repeat (first | refine bN_ ?_ _ | refine bD_ ?_ | refine bA_ ?_ _)); exact BK134.out) hb); replace HB := Z_ (fS_ hB_ hb); (try clear hb); (try clear ho0); obtain ⟨Ao32, co32, eo32⟩ := rS_ HO137.out; subst eo32)); go_loopg [25] k (fun kq v25 w' => ∃ (x7_1 : List Int) (x25_1 : Int), v25 = .int .i64 x25_1 ∧ Aside0 (diffs_solve.l0 kq x7_1 (t135.length : Int) x25_1 t124 t127 t130 = some (r1, r2, r3, r4, r5)) ∧ Aside0 (kq ≤ k) ∧ Aside0 (Kd.R (Kd.int .i64) 3 w' w.heap.size (fun k_ => some k_ ≠ ((.slice Ao26 t124.length co26) : Value).ownBlock ∧ some k_ ≠ ((.slice Ao30 t130.length co30) : Value).ownBlock) (.slice Ao32 t135.length co32) x7_1) ∧ Aside0 (Kd.R (Kd.int .i64) 3 w' w.heap.size (fun k_ => some k_ ≠ ((.slice Ao32 t135.length co32) : Value).ownBlock ∧ some k_ ≠ ((.slice Ao30 t130.length co30) : Value).ownBlock) (.slice Ao26 t124.length co26) t124) ∧ Aside0 (Kd.R Kd.bool 4 w' w.heap.size (fun _ => True) (.slice Ao29 t127.length co29) t127) ∧ Aside0 (Kd.R (Kd.int .i64) 3 w' w.heap.size (fun k_ => some k_ ≠ ((.slice Ao32 t135.length co32) : Value).ownBlock ∧ some k_ ≠ ((.slice Ao26 t124.length co26) : Value).ownBlock) (.slice Ao30 t130.length co30) t130) ∧ Aside0 (w'.heap[gb120]? = some (.cells #[(.slice none 0 0), (.slice none 0 0), (.slice none 0 0)] 88 (0, 0))) ∧ Aside0 (w'.heap[gb134]? = some (.cells #[(.slice Ao26 t124.length co26), (.slice Ao29 t127.length co29), (.slice Ao30 t130.length co30)] 88 (0, 0))) ∧ Aside0 (Below w.heap.size w w'))
 case atStart => exact ⟨(t135), (0), rf_, H', ⟨nR_ _⟩, ⟨by (with_reducible repeat (first | apply rA_ | apply rN_ | apply rD_)); exact rM_ HO137.out (fun _ hk => ⟨hk.1.2, hk.2⟩)⟩, ⟨by (with_reducible repeat (first | apply rA_ | apply rN_ | apply rD_)); exact rM_ HO126.out (fun _ hk => ⟨hk.2, hk.1.1⟩)⟩, ⟨rK_ HO129.out⟩, ⟨by (with_reducible repeat (first | apply rA_ | apply rN_ | apply rD_)); exact rM_ HO132.out (fun _ hk => ⟨hk.2, hk.1.1⟩)⟩, ⟨bR_ BK120.out⟩, ⟨bR_ BK134.out⟩, ⟨hB_⟩⟩
 case round =>
  clear H'; obtain ⟨x7_1, x25_1, rfl, HA, HK1, HO_7, HO_135000, HO_135001, HO_135002, BK120, BK134, HB⟩ := hrel; have hl7_1 := (rR_ HO_7.out).1; rw [hl7_1] at HO_7; (try simp only [hl7_1])
  (try simp only [hl7_1] at BK120)
  (try simp only [hl7_1] at BK134)
  (try simp only [hl7_1] at HO_135000)
  (try simp only [hl7_1] at HO_135001)
  (try simp only [hl7_1] at HO_135002)
  cases gk with
  | zero => exact absurd HA.out (by simp [diffs_solve.l0])
  | succ k1 =>
   have H := HA.out; clear HA; simp only [diffs_solve.l0] at H; by_cases c33 : x25_1 < (t135.length : Int)
   ·rw [if_pos c33] at H
    have c33b0 : decide (x25_1 < (t135.length : Int)) = true := eT_ c33; clear c33; by_cases c34 : 0 ≤ x25_1
    ·rw [if_pos c34] at H
     have c34b0 : decide (0 ≤ x25_1) = true := eT_ c34; clear c34; by_cases c35 : x25_1 < (x7_1.length : Int)
     ·rw [if_pos c35] at H
      have c35b0 : decide (x25_1 < (x7_1.length : Int)) = true := eT_ c35; clear c35; by_cases c36 : 0 < (t124.length : Int)
      ·rw [if_pos c36] at H
       have c36b0 : decide (0 < (t124.length : Int)) = true := eT_ c36; have c36b1 : decide (0 < t124.length) = true := eT_ (by omega); clear c36; obtain ⟨y140, hy140⟩ : ∃ y_ : List Int, y_ = (x7_1.set (x25_1 : Int).toNat (wrap64 ((rd x7_1 x25_1) - (rd t124 0)))) := ⟨_, rfl⟩; replace H : (diffs_solve.l0 k1 y140 (t135.length : Int) (wrap64 (x25_1 + 1)) t124 t127 t130) = some (r1, r2, r3, r4, r5) := by first | (rw [hy140]; with_reducible exact H) | (have H2_ := (oB_ _ _).symm.trans H; rw [hy140]; with_reducible exact H2_) | (have H2_ := (oB_ _ _).symm.trans H; with_reducible exact H2_) | with_reducible exact H | (rw [hy140]; exact H) | exact H
       have Ny140 := Z_ hy140; clear hy140; have H' := Z_ H; clear H; try go_wp2
       replace HO_7 := Z_ (rD_ HO_7.out); replace HO_135000 := Z_ (rD_ HO_135000.out); replace HO_135001 := Z_ (rD_ HO_135001.out); replace HO_135002 := Z_ (rD_ HO_135002.out); replace BK120 := Z_ (bD_ BK120.out); replace BK134 := Z_ (bD_ BK134.out); replace HB := Z_ (fD_ HB.out); have p138 : 0 ≤ (x25_1 : Int) := dT_ as_; have q138 : x25_1 < (x7_1.length : Int) := dT_ as_; obtain ⟨ad138, e138, hx138_0⟩ := Kd.at_int (rR_ HO_7.out).2.2 x25_1 p138 q138; cases e138
       replace p138 := eq_true p138; replace q138 := eq_true q138; have p139 : 0 ≤ (0 : Int) := (by omega); have q139 : 0 < (t124.length : Int) := dT_ as_; obtain ⟨ad139, e139, hx139_0⟩ := Kd.at_int (rR_ HO_135000.out).2.2 0 p139 q139; cases e139
       have qi139 : (0 < t124.length) = True := eq_true (by omega); (try rw [show ((0 : Int)).toNat = 0 from rfl] at hx139_0)
       (try rw [Addr.add_zero'] at hx139_0)
       replace p139 := eq_true p139; replace q139 := eq_true q139; have p37 : 0 ≤ (x25_1 : Int) := dT_ as_; have q37 : (x25_1 : Int) < ((x7_1.length : Int) : Int) := dT_ as_; obtain ⟨go37, co37, eo37, gb37, gl37, cl37, HG37⟩ := Kd.R_form HO_7.out (by omega); (first | cases eo37 | (injection eo37 with ea_ en_ ec_; (first | subst ea_ | (injection ea_ with ea_; subst ea_)); subst ec_; clear en_))
       have GB37 := Z_ gb37; have GG37 := Z_ HG37; clear gb37 gl37 HG37; (first | simp only [add_plain] at hx138_0 | skip)
       obtain ⟨hx37_0, hf37_0⟩ := Kd.R_celln 0 HO_7.out (x25_1 : Int) p37 q37; replace p37 := eq_true p37; replace q37 := eq_true q37; have HP39 := Kd.R_putn HO_7.out (x25_1 : Int) (wrap64 ((rd x7_1 x25_1) - (rd t124 0))); rw [← Ny140.out] at HP39; have HQ39 := Z_ HP39; clear HP39; refine start_ (n := 11) (S := fun w' => w'.cell? ⟨gb134, 0, none⟩ = some (.slice (some ad139) t124.length co26) ∧ w'.cell? ⟨gb134, 1, none⟩ = some (.slice Ao29 t127.length co29) ∧ w'.cell? ⟨gb134, 2, none⟩ = some (.slice Ao30 t130.length co30) ∧ w'.cell? ⟨go37, (x25_1).toNat, none⟩ = some (.int .i64 (rd x7_1 x25_1)) ∧ w'.cell? ad139 = some (.int .i64 (rd t124 0))) (ds := [10]) #[false, false, false, false, false, false, false, false, false, false, false] (by kernel_rfl) rfl rfl ⟨(bC_ BK134.out 0).trans rfl, (bC_ BK134.out 1).trans rfl, (bC_ BK134.out 2).trans rfl, hx138_0, hx139_0⟩ (fun hHeld => ?_); refine with_tabW diffs_solve.tab8 diffs_solve.bits8 (fun HT_ HW_ => ?_); generalize wr.drew = w38 at HO_7 HO_135000 HO_135001 HO_135002 BK120 BK134 HB GG37 HQ39 hf37_0 hx138_0 hx139_0 hx37_0 hHeld ⊢; refine pP_ 0 28 ?_; refine pP_ 1 29 ?_; refine pP_ 2 30 ?_; refine pP_ 4 32 ?_; refine pT_ 3 31 ?_; refine pT_ 5 33 ?_; refine pP_ 6 34 ?_; refine pT_ 7 35 ?_; refine pP_ 8 36 ?_; refine pP_ 9 37 ?_; refine lN_ 10 none (fun K hK => ?_); refine skip_ (w1 := ?_) (by rfl) rfl ?_ ?_; rotate_left
       ·go_simp
        rfl
       refine hK.out _ _ ?_; clear hK K; refine dN_ ?_; try go_wp2
       (try simp only [← hl7_1])
       go_roundg k1
       case measure => have := HK1.out; omega
       case rel => exact ⟨(y140), (wrap64 (x25_1 + 1)), rf_, H', ⟨by have := HK1.out; omega⟩, ⟨by (try simp only [hl7_1]); (with_reducible repeat (first | apply rA_ | apply rN_ | apply rD_)); exact HQ39.out⟩, ⟨by (try simp only [hl7_1]); (with_reducible repeat (first | apply rA_ | apply rN_ | apply rD_)); exact rM_ (rF_ (p := ⟨go37, (x25_1 : Int).toNat, none⟩) (rM_ HO_135000.out (fun k_ hk => (⟨hk, fun e_ => hk.1 (by rw [e_]; rfl)⟩ : _ ∧ k_ ≠ go37))) (fun _ hk => hk.2) (.int .i64 (wrap64 ((rd x7_1 x25_1) - (rd t124 0))))) (fun _ hk => ⟨hk.1.1, hk.1.2⟩)⟩, ⟨by (try simp only [hl7_1]); (with_reducible repeat (first | apply rA_ | apply rN_ | apply rD_)); exact rM_ (rF_ (p := ⟨go37, (x25_1 : Int).toNat, none⟩) (Kd.R_types HO_135001.out GG37.out (by decide)) (fun _ hk => hk.2) (.int .i64 (wrap64 ((rd x7_1 x25_1) - (rd t124 0))))) (fun _ hk => trivial)⟩, ⟨by (try simp only [hl7_1]); (with_reducible repeat (first | apply rA_ | apply rN_ | apply rD_)); exact rM_ (rF_ (p := ⟨go37, (x25_1 : Int).toNat, none⟩) (rM_ HO_135002.out (fun k_ hk => (⟨hk, fun e_ => hk.1 (by rw [e_]; rfl)⟩ : _ ∧ k_ ≠ go37))) (fun _ hk => hk.2) (.int .i64 (wrap64 ((rd x7_1 x25_1) - (rd t124 0))))) (fun _ hk => ⟨hk.1.1, hk.1.2⟩)⟩, ⟨by (try simp only [hl7_1]); (with_reducible repeat (first | refine bN_ ?_ _ | refine bD_ ?_ | refine bA_ ?_ _)); refine blk_far ?_ (by have h_ := Kd.R_ne HO_7.out BK120.out (by decide); intro e_; exact h_ (by rw [e_]; rfl)) _; (with_reducible repeat (first | refine bN_ ?_ _ | refine bD_ ?_ | refine bA_ ?_ _)); exact BK120.out⟩, ⟨by (try simp only [hl7_1]); (with_reducible repeat (first | refine bN_ ?_ _ | refine bD_ ?_ | refine bA_ ?_ _)); refine blk_far ?_ (by have h_ := Kd.R_ne HO_7.out BK134.out (by decide); intro e_; exact h_ (by rw [e_]; rfl)) _; (with_reducible repeat (first | refine bN_ ?_ _ | refine bD_ ?_ | refine bA_ ?_ _)); exact BK134.out⟩, ⟨hB_⟩⟩
      rw [if_neg c36] at H; exact absurd H (by simp)
     rw [if_neg c35] at H; exact absurd H (by simp)
    rw [if_neg c34] at H; exact absurd H (by simp)
   rw [if_neg c33] at H; have c33b0 : decide (x25_1 < (t135.length : Int)) = false := eF_ c33; have c33z := c33b0; simp only [hl7_1] at c33z; clear c33; simp only [oJ_, pI_] at H; obtain ⟨rfl, rfl, rfl, rfl, rfl⟩ := H; try go_wp2
   replace HO_7 := Z_ (rD_ HO_7.out); replace HO_135000 := Z_ (rD_ HO_135000.out); replace HO_135001 := Z_ (rD_ HO_135001.out); replace HO_135002 := Z_ (rD_ HO_135002.out); replace BK120 := Z_ (bD_ BK120.out); replace BK134 := Z_ (bD_ BK134.out); replace HB := Z_ (fD_ HB.out); refine start_ (n := 5) (S := fun w' => w'.cell? ⟨gb134, 0, none⟩ = some (.slice Ao26 t124.length co26) ∧ w'.cell? ⟨gb134, 1, none⟩ = some (.slice Ao29 t127.length co29) ∧ w'.cell? ⟨gb134, 2, none⟩ = some (.slice Ao30 t130.length co30)) (ds := []) #[false, false, false, false, false] (by kernel_rfl) rfl rfl ⟨(bC_ BK134.out 0).trans rfl, (bC_ BK134.out 1).trans rfl, (bC_ BK134.out 2).trans rfl⟩ (fun hHeld => ?_); generalize wr.drew = w40 at HO_7 HO_135000 HO_135001 HO_135002 BK120 BK134 HB hHeld ⊢; refine pP_ 0 39 ?_; refine pP_ 2 2 ?_; refine pT_ 1 40 ?_; refine oN_ 3 none (fun K hK => ?_); have hs41 : w40.cell? ⟨gb120, 0, none⟩ = some (.slice none 0 0) := (bC_ BK120.out 0).trans rfl; have hfs41 := bF_ BK120.out 0; have hns41_1 := NB134_120.out; have hms41_1 := NB120_134.out; have hs42 : w40.cell? ⟨gb120, 1, none⟩ = some (.slice none 0 0) := (bC_ BK120.out 1).trans rfl; have hfs42 := bF_ BK120.out 1; have hns42_1 := NB134_120.out; have hms42_1 := NB120_134.out; have hs43 : w40.cell? ⟨gb120, 2, none⟩ = some (.slice none 0 0) := (bC_ BK120.out 2).trans rfl; have hfs43 := bF_ BK120.out 2; have hns43_1 := NB134_120.out; have hms43_1 := NB120_134.out; refine skip_ (w1 := ?_) (by rfl) rfl ?_ ?_; rotate_left
   ·go_simp
    rfl
   refine hK.out _ _ ⟨((cell_far (p := ⟨gb120, _, none⟩) NB134_120.out _).trans (((cell_far (p := ⟨gb120, _, none⟩) NB134_120.out _).trans (((cell_far (p := ⟨gb120, _, none⟩) NB134_120.out _).trans (hHeld.1)))))), ((cell_far (p := ⟨gb120, _, none⟩) NB134_120.out _).trans (((cell_far (p := ⟨gb120, _, none⟩) NB134_120.out _).trans (((cell_far (p := ⟨gb120, _, none⟩) NB134_120.out _).trans (hHeld.2.1)))))), ((cell_far (p := ⟨gb120, _, none⟩) NB134_120.out _).trans (((cell_far (p := ⟨gb120, _, none⟩) NB134_120.out _).trans (((cell_far (p := ⟨gb120, _, none⟩) NB134_120.out _).trans (hHeld.2.2))))))⟩ (fun hHeld => ?_); clear hK K; refine pP_ 4 4 ?_; refine dN_ ?_; try go_wp2
   refine bodyPost_ret (results_list (rs := [.tmp 2, .cell 3 88, .tmp 4]) rfl (by simp) (.tmp (.cell gb120 88 #[.slice Ao26 t124.length co26, .slice Ao29 t127.length co29, .slice Ao30 t130.length co30] (0, 0) _ rfl (by (with_reducible repeat (first | refine bN_ ?_ _ | refine bD_ ?_ | refine bA_ ?_ _)); refine blk_put (cs := #[.slice Ao26 t124.length co26, .slice Ao29 t127.length co29, .slice none 0 0]) ?_ 2 _ rfl; (with_reducible repeat (first | refine bN_ ?_ _ | refine bD_ ?_ | refine bA_ ?_ _)); refine blk_put (cs := #[.slice Ao26 t124.length co26, .slice none 0 0, .slice none 0 0]) ?_ 1 _ rfl; (with_reducible repeat (first | refine bN_ ?_ _ | refine bD_ ?_ | refine bA_ ?_ _)); refine blk_put (cs := #[.slice none 0 0, .slice none 0 0, .slice none 0 0]) ?_ 0 _ rfl; (with_reducible repeat (first | refine bN_ ?_ _ | refine bD_ ?_ | refine bA_ ?_ _)); exact BK120.out) Try.underlying88 rfl (by kernel_rfl) (.tmp .nil)))) rfl ?_; exact ⟨_, _, _, _, eW_, by (with_reducible repeat (first | apply rA_ | apply rN_ | apply rD_)); exact rM_ (rF_ (p := ⟨gb120, 2, none⟩) (rF_ (p := ⟨gb120, 1, none⟩) (rF_ (p := ⟨gb120, 0, none⟩) (Kd.R_types HO_7.out BK120.out (by decide)) (fun _ hk => hk.2) (.slice Ao26 t124.length co26)) (fun _ hk => hk.2) (.slice Ao29 t127.length co29)) (fun _ hk => hk.2) (.slice Ao30 t130.length co30)) (fun _ hk => ⟨hk.1.1, hk.1.2⟩), by (with_reducible repeat (first | apply rA_ | apply rN_ | apply rD_)); exact rM_ (rF_ (p := ⟨gb120, 2, none⟩) (rF_ (p := ⟨gb120, 1, none⟩) (rF_ (p := ⟨gb120, 0, none⟩) (Kd.R_types HO_135000.out BK120.out (by decide)) (fun _ hk => hk.2) (.slice Ao26 t124.length co26)) (fun _ hk => hk.2) (.slice Ao29 t127.length co29)) (fun _ hk => hk.2) (.slice Ao30 t130.length co30)) (fun _ hk => ⟨hk.1.1, hk.1.2⟩), by (with_reducible repeat (first | apply rA_ | apply rN_ | apply rD_)); exact rM_ (rF_ (p := ⟨gb120, 2, none⟩) (rF_ (p := ⟨gb120, 1, none⟩) (rF_ (p := ⟨gb120, 0, none⟩) (Kd.R_types HO_135001.out BK120.out (by decide)) (fun _ hk => hk.2) (.slice Ao26 t124.length co26)) (fun _ hk => hk.2) (.slice Ao29 t127.length co29)) (fun _ hk => hk.2) (.slice Ao30 t130.length co30)) (fun _ hk => trivial), by (with_reducible repeat (first | apply rA_ | apply rN_ | apply rD_)); exact rM_ (rF_ (p := ⟨gb120, 2, none⟩) (rF_ (p := ⟨gb120, 1, none⟩) (rF_ (p := ⟨gb120, 0, none⟩) (Kd.R_types HO_135002.out BK120.out (by decide)) (fun _ hk => hk.2) (.slice Ao26 t124.length co26)) (fun _ hk => hk.2) (.slice Ao29 t127.length co29)) (fun _ hk => hk.2) (.slice Ao30 t130.length co30)) (fun _ hk => ⟨hk.1.1, hk.1.2⟩), hB_⟩
end Go.Proofs.Ytpolojoeabmhdaa.A
/- grow over a net as it stands: its two methods, and what grow answers. -/
namespace Go.Proofs.Ytpolojoeabmhdaa.A
open Go.RowKit Go.Proofs.YtpolojoeabmhdaaW.PrintWords Go.Proofs.YtpolojoeabmhdaaW.PrintLast Go.Proofs.YtpolojoeabmhdaaW.PrintMore
set_option maxHeartbeats 1000000 in
theorem plain_nodes.calls (n : Int) (A : Option Addr) (m c : Nat) (w : World) :
  Calls Try.prog 151 #[.agg #[.int .i64 n, .slice A m c]] w fun e w' => e = .returned (.int .i64 n) ∧ Below w.heap.size w w' := by
 have hu100 := Try.underlying100; have hu24 := Try.underlying24; go_enter Try.func151, Try.ntmps151; go_wp2; go_ret; exact ⟨rfl, fA_ (Below.refl _ _) _⟩
set_option maxHeartbeats 1000000 in
theorem plain_lines.calls (n : Int) (A : Option Addr) (m c : Nat) (w : World) :
  Calls Try.prog 150 #[.agg #[.int .i64 n, .slice A m c]] w fun e w' => e = .returned (.slice A m c) ∧ Below w.heap.size w w' := by
 have hu100 := Try.underlying100; have hu24 := Try.underlying24; go_enter Try.func150, Try.ntmps150; go_wp2; go_ret; exact ⟨rfl, fA_ (Below.refl _ _) _⟩
theorem graph_plain {w : World} {a0_0 : Int} {A0_1 : Option Addr} {c0_1 : Nat} {l0_1 : List S39} (hr0_1 : Kd.C k39 w A0_1 l0_1.length l0_1) (hc0_1 : l0_1.length ≤ c0_1) : Graph w 100 (.agg #[.int .i64 a0_0, .slice A0_1 l0_1.length c0_1]) a0_0 l0_1 :=
 ⟨150, 151, _, _, _, _, fun W => m_plain_lines _ W, fun W => m_plain_nodes _ W, ⟨Try.func150, by kernel_rfl, rfl⟩, ⟨Try.func151, by kernel_rfl, rfl⟩,
  fun W hW => (plain_lines.calls _ _ _ _ W).mono fun e W' h => ⟨A0_1, c0_1, h.1, hc0_1, cB_ (cB_ hr0_1 hW) h.2, h.2⟩,
  fun W hW => (plain_nodes.calls _ _ _ _ W).mono fun e W' h => h⟩
theorem diffs_grow.calls (k : Nat) (a0_0 : Int) (A0_1 : Option Addr) (c0_1 : Nat) (l0_1 : List (S39)) (A1 : Option Addr) (c1 : Nat) (l1 : List Int) (r1 : List Int) (r2 : List Bool) (r3 : List Int) (r4 : Int) (w : World) (hr0_1 : Kd.C k39 w A0_1 l0_1.length l0_1) (hc0_1 : l0_1.length ≤ c0_1) (hr1 : Kd.C (Kd.int .i64) w A1 l1.length l1) (hc1 : l1.length ≤ c1) (h : diffs_grow.f k a0_0 l0_1 l1 = some (r1, r2, r3, r4)) :
  Calls Try.prog 82 #[.iface 100 (.agg #[.int .i64 a0_0, .slice A0_1 l0_1.length c0_1]), .slice A1 l1.length c1] w fun e w' => ∃ v0_ v1_ v2_ : Value, e = .returned (.tuple #[.agg #[v0_, v1_, v2_], .int .i64 r4]) ∧ Kd.R (Kd.int .i64) 3 w' w.heap.size (fun k_ => some k_ ≠ (v2_ : Value).ownBlock) v0_ r1 ∧ Kd.R Kd.bool 4 w' w.heap.size (fun _ => True) v1_ r2 ∧ Kd.R (Kd.int .i64) 3 w' w.heap.size (fun k_ => some k_ ≠ (v0_ : Value).ownBlock) v2_ r3 ∧ Below w.heap.size w w' :=
 diffs_grow.any k 100 _ a0_0 l0_1 A1 c1 l1 r1 r2 r3 r4 w (graph_plain hr0_1 hc0_1) hr1 hc1 h
end Go.Proofs.Ytpolojoeabmhdaa.A
/- solve over a net as it stands. -/
namespace Go.Proofs.Ytpolojoeabmhdaa.A
open Go.RowKit Go.Proofs.YtpolojoeabmhdaaW.PrintWords Go.Proofs.YtpolojoeabmhdaaW.PrintLast Go.Proofs.YtpolojoeabmhdaaW.PrintMore
theorem diffs_solve.calls (k : Nat) (a0_0 : Int) (A0_1 : Option Addr) (c0_1 : Nat) (l0_1 : List (S39)) (r1 : List Int) (r2 : List Int) (r3 : List Bool) (r4 : List Int) (r5 : Int) (w : World) (hr0_1 : Kd.C k39 w A0_1 l0_1.length l0_1) (hc0_1 : l0_1.length ≤ c0_1) (h : diffs_solve.f k a0_0 l0_1 = some (r1, r2, r3, r4, r5)) :
  Calls Try.prog 81 #[.iface 100 (.agg #[.int .i64 a0_0, .slice A0_1 l0_1.length c0_1])] w fun e w' => ∃ v0_ v1_ v2_ v3_ : Value, e = .returned (.tuple #[v0_, .agg #[v1_, v2_, v3_], .int .i64 r5]) ∧ Kd.R (Kd.int .i64) 3 w' w.heap.size (fun k_ => some k_ ≠ (v1_ : Value).ownBlock ∧ some k_ ≠ (v3_ : Value).ownBlock) v0_ r1 ∧ Kd.R (Kd.int .i64) 3 w' w.heap.size (fun k_ => some k_ ≠ (v0_ : Value).ownBlock ∧ some k_ ≠ (v3_ : Value).ownBlock) v1_ r2 ∧ Kd.R Kd.bool 4 w' w.heap.size (fun _ => True) v2_ r3 ∧ Kd.R (Kd.int .i64) 3 w' w.heap.size (fun k_ => some k_ ≠ (v0_ : Value).ownBlock ∧ some k_ ≠ (v1_ : Value).ownBlock) v3_ r4 ∧ Below w.heap.size w w' :=
 diffs_solve.any k 100 _ a0_0 l0_1 r1 r2 r3 r4 r5 w (graph_plain hr0_1 hc0_1) h
end Go.Proofs.Ytpolojoeabmhdaa.A
namespace Go.Proofs.Ytpolojoeabmhdaa.A
open Go.RowKit Go.Proofs.YtpolojoeabmhdaaW.PrintWords Go.Proofs.YtpolojoeabmhdaaW.PrintLast Go.Proofs.YtpolojoeabmhdaaW.PrintMore
attribute [local go_sem] max2_int min2_int max_two min_two max_three min_three max_four min_four
def slices_Index_bool_bool.l0 : Nat → List Bool → Bool → Int → Int → Option (Int)
 | 0, _, _, _, _ => none
 | k + 1, x0, x1, x7, x8 => if x8 < x7 then (if 0 ≤ x8 then (if x8 < (x0.length : Int) then (if (x1 == (rdOf false x0 x8)) = true then (some x8) else (slices_Index_bool_bool.l0 k x0 x1 x7 (wrap64 (x8 + 1)))) else (none)) else (none)) else (some (-1))
def slices_Index_bool_bool.f (k : Nat) (l0 : List Bool) (a1 : Bool) : Option (Int) := slices_Index_bool_bool.l0 k l0 a1 (l0.length : Int) 0
theorem slices_Index_bool_bool.mono_l : ∀ k, (∀ y0 y1 y2 y3, LeO (slices_Index_bool_bool.l0 k y0 y1 y2 y3) (slices_Index_bool_bool.l0 (k + 1) y0 y1 y2 y3))
 | 0 => fun _ _ _ _ r h => by simp [slices_Index_bool_bool.l0] at h
 | k + 1 => by
  have ih0 := slices_Index_bool_bool.mono_l k; intro y0 y1 y2 y3; unfold slices_Index_bool_bool.l0; repeat' first | (with_reducible first | exact ih0 _ _ _ _ | exact LeO.refl _ | exact LeO.none _ | refine LeO.ite ?_ ?_ | refine LeO.bind ?_ (fun _ => ?_)) | exact ih0 _ _ _ _ | exact LeO.none _ | refine LeO.ite ?_ ?_ | refine LeO.bind ?_ (fun _ => ?_)
theorem slices_Index_bool_bool.mono : ∀ a0 a1 k, LeO (slices_Index_bool_bool.f k a0 a1) (slices_Index_bool_bool.f (k + 1) a0 a1) := by
 intro a0 a1 k; have ih0 := slices_Index_bool_bool.mono_l k; unfold slices_Index_bool_bool.f; repeat' first | (with_reducible first | exact ih0 _ _ _ _ | exact LeO.refl _ | exact LeO.none _ | refine LeO.ite ?_ ?_ | refine LeO.bind ?_ (fun _ => ?_)) | exact ih0 _ _ _ _ | exact LeO.none _ | refine LeO.ite ?_ ?_ | refine LeO.bind ?_ (fun _ => ?_)
set_option maxHeartbeats 8000000 in
set_option maxRecDepth 100000 in
theorem slices_Index_bool_bool.calls (k : Nat) (A0 : Option Addr) (c0 : Nat) (l0 : List Bool) (a1 : Bool) (r : Int) (w : World) (hr0 : Kd.C Kd.bool w A0 l0.length l0) (hc0 : l0.length ≤ c0) (h : slices_Index_bool_bool.f k l0 a1 = some r) :
  Calls Try.prog 125 #[.slice A0 l0.length c0, .bool a1] w fun e w' => e = .returned (.int .i64 r) ∧ Drawn0 w w' := by
 have HR0 := Z_ hr0; have HC0 := Z_ hc0; clear hr0 hc0; have H : (slices_Index_bool_bool.l0 k l0 a1 (l0.length : Int) 0) = some r := h; clear h; have H' := Z_ H; clear H; go_enter Try.func125, Try.ntmps125; go_wp2; go_loopg [8] k (fun kq v8 w' => ∃ (x8_1 : Int), v8 = .int .i64 x8_1 ∧ Aside0 (slices_Index_bool_bool.l0 kq l0 a1 (l0.length : Int) x8_1 = some r) ∧ Aside0 (kq ≤ k) ∧ Drawn0 w w')
 case atStart => exact ⟨(0), rf_, H', ⟨nR_ _⟩, by repeat (first | exact Drawn0.refl _ | apply Drawn0.step)⟩
 case round =>
  clear H'; obtain ⟨x8_1, rfl, HA, HK1, ⟨m1, rfl⟩⟩ := hrel
  cases gk with
  | zero => exact absurd HA.out (by simp [slices_Index_bool_bool.l0])
  | succ k1 =>
   have H := HA.out; clear HA; simp only [slices_Index_bool_bool.l0] at H; by_cases c3 : x8_1 < (l0.length : Int)
   ·rw [if_pos c3] at H
    have c3b0 : decide (x8_1 < (l0.length : Int)) = true := eT_ c3; clear c3; by_cases c4 : 0 ≤ x8_1
    ·rw [if_pos c4] at H
     have c4b0 : decide (0 ≤ x8_1) = true := eT_ c4; clear c4; by_cases c5 : x8_1 < (l0.length : Int)
     ·rw [if_pos c5] at H
      have c5b0 : decide (x8_1 < (l0.length : Int)) = true := eT_ c5; clear c5; by_cases c6 : (a1 == (rdOf false l0 x8_1)) = true
      ·rw [if_pos c6] at H
       have c6b0 : (a1 == (rdOf false l0 x8_1)) = true := c6; (try (have c6b1 : decide (a1 = (rdOf false l0 x8_1)) = true := by simpa using c6))
       (try (have c6b2 : (a1 == (rdOf false l0 x8_1)) = true := by simpa using c6))
       clear c6; obtain rfl := oI_ H; have p146 : 0 ≤ (x8_1 : Int) := dT_ as_; have q146 : x8_1 < (l0.length : Int) := dT_ as_; obtain ⟨ad146, e146, hx146_0⟩ := Kd.at_bool HR0.out x8_1 p146 q146; cases e146
       replace p146 := eq_true p146; replace q146 := eq_true q146; go_wp2; go_ret; exact ⟨rf_, by repeat (first | exact Drawn0.refl _ | apply Drawn0.step)⟩
      rw [if_neg c6] at H; have c6b0 : (a1 == (rdOf false l0 x8_1)) = false := by simpa using c6
      (try (have c6b1 : decide (a1 = (rdOf false l0 x8_1)) = false := by simpa using c6))
      (try (have c6b2 : (a1 == (rdOf false l0 x8_1)) = false := by simpa using c6))
      (try (have c6b3 : ¬ (a1 = (rdOf false l0 x8_1)) := by simpa using c6))
      clear c6; have H' := Z_ H; clear H; have p146 : 0 ≤ (x8_1 : Int) := dT_ as_; have q146 : x8_1 < (l0.length : Int) := dT_ as_; obtain ⟨ad146, e146, hx146_0⟩ := Kd.at_bool HR0.out x8_1 p146 q146; cases e146
      replace p146 := eq_true p146; replace q146 := eq_true q146; go_wp2; go_roundg k1
      case measure => have := HK1.out; omega
      case rel => exact ⟨(wrap64 (x8_1 + 1)), rf_, H', ⟨by have := HK1.out; omega⟩, by repeat (first | exact Drawn0.refl _ | apply Drawn0.step)⟩
     rw [if_neg c5] at H; exact absurd H (by simp)
    rw [if_neg c4] at H; exact absurd H (by simp)
   rw [if_neg c3] at H; have c3b0 : decide (x8_1 < (l0.length : Int)) = false := eF_ c3; clear c3; obtain rfl := oI_ H; go_wp2; go_ret; exact ⟨rf_, by repeat (first | exact Drawn0.refl _ | apply Drawn0.step)⟩
def slices_Contains_bool_bool.f (k : Nat) (l0 : List Bool) (a1 : Bool) : Option (Bool) := (slices_Index_bool_bool.f k l0 a1).bind fun t147 => (some (decide (t147 ≥ 0)))
theorem slices_Contains_bool_bool.mono : ∀ a0 a1 k, LeO (slices_Contains_bool_bool.f k a0 a1) (slices_Contains_bool_bool.f (k + 1) a0 a1) := by
 intro a0 a1 k; unfold slices_Contains_bool_bool.f; repeat' first | (with_reducible first | exact slices_Index_bool_bool.mono _ _ _ | exact LeO.refl _ | exact LeO.none _ | refine LeO.ite ?_ ?_ | refine LeO.bind ?_ (fun _ => ?_)) | exact slices_Index_bool_bool.mono _ _ _ | exact LeO.none _ | refine LeO.ite ?_ ?_ | refine LeO.bind ?_ (fun _ => ?_)
set_option maxHeartbeats 8000000 in
set_option maxRecDepth 100000 in
theorem slices_Contains_bool_bool.calls (k : Nat) (A0 : Option Addr) (c0 : Nat) (l0 : List Bool) (a1 : Bool) (r : Bool) (w : World) (hr0 : Kd.C Kd.bool w A0 l0.length l0) (hc0 : l0.length ≤ c0) (h : slices_Contains_bool_bool.f k l0 a1 = some r) :
  Calls Try.prog 109 #[.slice A0 l0.length c0, .bool a1] w fun e w' => e = .returned (.bool r) ∧ Drawn0 w w' := by
 have HR0 := Z_ hr0; have HC0 := Z_ hc0; clear hr0 hc0; have H : ((slices_Index_bool_bool.f k l0 a1).bind fun t147 => (some (decide (t147 ≥ 0)))) = some r := h; clear h; replace H := oS_.mp H; obtain ⟨t147, A30, H⟩ := H; have A3 := Z_ A30; clear A30; obtain rfl := oI_ H; go_enter Try.func109, Try.ntmps109; go_wp2_with (first | ((with_reducible refine gate_callee (f := 125) rfl ?_); refine gL_ (some 7) Try.func125 #[.slice A0 l0.length c0, .bool a1] ?_; (with_reducible refine (slices_Index_bool_bool.calls k _ _ l0 a1 t147 _ ?side1 ?side2 A3.out).mono ?_); (case side1 => exact cS_ HR0.out); (case side2 => exact HC0.out); rintro e w' ⟨rfl, ⟨nd, rfl⟩⟩; refine ⟨_, rfl, ?_⟩)); go_ret; exact ⟨rf_, by repeat (first | exact Drawn0.refl _ | apply Drawn0.step)⟩
def diffs_in.f (a0 : Int) (a1 : Int) (a2 : Int) : Option (Bool) := if a0 ≥ a1 then (some (decide (a0 ≤ a2))) else (some false)
set_option maxHeartbeats 8000000 in
set_option maxRecDepth 100000 in
theorem diffs_in.calls (a0 : Int) (a1 : Int) (a2 : Int) (r : Bool) (w : World) (h : diffs_in.f a0 a1 a2 = some r) :
  Calls Try.prog 75 #[.int .i64 a0, .int .i64 a1, .int .i64 a2] w fun e w' => e = .returned (.bool r) ∧ Drawn0 w w' := by
 have H : (if a0 ≥ a1 then (some (decide (a0 ≤ a2))) else (some false)) = some r := h; clear h; by_cases c4 : a0 ≥ a1
 ·rw [if_pos c4] at H
  have c4b0 : decide (a1 ≤ a0) = true := eT_ c4; clear c4; obtain rfl := oI_ H; go_enter Try.func75, Try.ntmps75; go_wp2; go_ret; exact ⟨rf_, by repeat (first | exact Drawn0.refl _ | apply Drawn0.step)⟩
 rw [if_neg c4] at H; have c4b0 : decide (a1 ≤ a0) = false := eF_ c4; clear c4; obtain rfl := oI_ H; go_enter Try.func75, Try.ntmps75; go_wp2; go_ret; exact ⟨rf_, by repeat (first | exact Drawn0.refl _ | apply Drawn0.step)⟩
end Go.Proofs.Ytpolojoeabmhdaa.A
