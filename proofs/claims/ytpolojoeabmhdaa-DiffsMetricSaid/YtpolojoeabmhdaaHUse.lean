/- The methods of *use that only read: used, givers, nodes, lines. -/
import Derived.Test.YtpolojoeabmhdaaHClone
import Derived.Test.YtpolojoeabmhdaaHGrow0
namespace Go.Proofs.Ytpolojoeabmhdaa.A
open Go.RowKit Go.Proofs.YtpolojoeabmhdaaW.PrintWords Go.Proofs.YtpolojoeabmhdaaW.PrintLast Go.Proofs.YtpolojoeabmhdaaW.PrintMore
set_option linter.unusedVariables false
set_option linter.unusedSimpArgs false
def usedL : List Int → Int → List Int
 | [], _ => []
 | x :: xs, i => if x > 0 then i :: usedL xs (i + 1) else usedL xs (i + 1)
def giversL : List Int → Int → List Int
 | [], _ => []
 | x :: xs, i => if 0 < i ∧ x < 0 then i :: giversL xs (i + 1) else giversL xs (i + 1)
theorem drop_rd (l : List Int) (i : Int) (h0 : 0 ≤ i) (h1 : i < l.length) : l.drop i.toNat = rd l i :: l.drop (i + 1).toNat := by
 rw [show (i + 1).toNat = i.toNat + 1 from by omega]
 rw [List.drop_eq_getElem_cons (by omega)]
 congr 1
 unfold rd
 rw [List.getD_eq_getElem?_getD, List.getElem?_eq_getElem (by omega)]; rfl
theorem used_pos {l : List Int} {i : Int} {acc : List Int} (h0 : 0 ≤ i) (h1 : i < l.length) (hp : 0 < rd l i) : acc ++ usedL (l.drop i.toNat) i = (acc ++ [i]) ++ usedL (l.drop (i + 1).toNat) (i + 1) := by
 rw [drop_rd l i h0 h1, usedL, if_pos hp, List.append_assoc]; rfl
theorem used_neg {l : List Int} {i : Int} {acc : List Int} (h0 : 0 ≤ i) (h1 : i < l.length) (hp : ¬ 0 < rd l i) : acc ++ usedL (l.drop i.toNat) i = acc ++ usedL (l.drop (i + 1).toNat) (i + 1) := by
 rw [drop_rd l i h0 h1, usedL, if_neg hp]
theorem givers_pos {l : List Int} {i : Int} {acc : List Int} (h0 : 0 ≤ i) (h1 : i < l.length) (hp : 0 < i ∧ rd l i < 0) : acc ++ giversL (l.drop i.toNat) i = (acc ++ [i]) ++ giversL (l.drop (i + 1).toNat) (i + 1) := by
 rw [drop_rd l i h0 h1, giversL, if_pos hp, List.append_assoc]; rfl
theorem givers_neg {l : List Int} {i : Int} {acc : List Int} (h0 : 0 ≤ i) (h1 : i < l.length) (hp : ¬ (0 < i ∧ rd l i < 0)) : acc ++ giversL (l.drop i.toNat) i = acc ++ giversL (l.drop (i + 1).toNat) (i + 1) := by
 rw [drop_rd l i h0 h1, giversL, if_neg hp]

set_option maxHeartbeats 2000000 in
set_option maxRecDepth 100000 in
theorem use_used.calls (g : Nat) (n0 : Value) (D V : Value) (AF : Option Addr) (cF : Nat) (flow : List Int) (w : World) (hb : w.heap[g]? = some (.cells #[n0, D, .slice AF flow.length cF, V] 96 (0, 0))) (hF : Kd.C (Kd.int .i64) w AF flow.length flow) (hl : flow.length ≤ 65536) :
  Calls Try.prog 131 #[.pointer (some ⟨g, 0, none⟩)] w fun e w' => ∃ v0_ : Value, e = .returned v0_ ∧ Kd.R (Kd.int .i64) 3 w' w.heap.size (fun _ => True) v0_ (usedL flow 0) ∧ Below w.heap.size w w' := by
 have hz : w.cell? ⟨g, 2, none⟩ = some (.slice AF flow.length cF) := (blk_cell hb 2).trans rfl
 have HF := Aside0.mk hF
 have HL := Aside0.mk hl
 have HB := Aside0.mk (Below.refl w.heap.size w)
 clear hb hF hl
 go_enter Try.func131, Try.ntmps131
 go_wp2
 go_loopg [3, 11] flow.length (fun kq v3 v11 w' => ∃ (acc : List Int) (i : Int), v11 = .int .i64 i ∧ Aside0 (0 ≤ i ∧ (kq : Int) + i = flow.length ∧ (acc.length : Int) ≤ i ∧ acc ++ usedL (flow.drop i.toNat) i = usedL flow 0) ∧ Aside0 (Kd.R (Kd.int .i64) 3 w' w.heap.size (fun _ => True) v3 acc) ∧ Aside0 (Below w.heap.size w w'))
 case atStart => exact ⟨[], 0, rfl, ⟨by omega, by omega, by simp, by simp⟩, ⟨Kd.R_nil _ _ _ _ _⟩, HB⟩
 case round =>
  obtain ⟨acc, i, rfl, HI, HO, HB⟩ := hrel
  have h0 := HI.out.1
  have hk := HI.out.2.1
  have hL := HL.out
  by_cases hlt : i < (flow.length : Int)
  ·obtain ⟨ad, e1, hx⟩ := Kd.at_int HF.out i h0 hlt
   cases e1
   have hx1 := (HB.out.cell (World.block_lt_of_cell? w _ hx)).trans hx
   clear hx
   have hw64 : i + 1 ≤ 9223372036854775807 := by omega
   by_cases hp : 0 < rd flow i
   ·have e2 := Aside0.mk (HI.out.2.2.2.symm.trans (used_pos (acc := acc) h0 hlt hp))
    have hpb : decide (rd flow i > 0) = true := decide_eq_true hp
    have hal := HI.out.2.2.1
    go_wp2_with ((with_reducible refine gate_builtin (b := .append) (xs := #[.tmp 18, .tmp 20]) rfl ?_); at_builtin; refine Kd.R_append (Kd.int .i64) (w0 := w) w.heap.size rfl (.tmp 18) (.tmp 20) 29 3 (.int .i64 0) 8 rfl Try.underlying29 info3 rfl (by decide) (by omega) u3 acc i [.int .i64 i] (fun _ => True) (fun _ => False) rfl rfl ?aP (fun _ hk => hk.elim) ?aF ?aO ?aB ?aS ?aL ?_; (case aP => exact rfl); (case aB => exact HB.out); (case aF => exact (fun _ _ => trivial)); (case aO => exact HO.out); (case aS => exact (below_size HB.out)); (case aL => omega); intro v118 w6 ho hb hg hat; clear HB HO; have HB := Aside0.mk hb; have HO := Aside0.mk ho; clear ho hb hg hat)
    go_roundg (gk - 1)
    case measure => omega
    case rel => exact ⟨acc ++ [i], i + 1, rfl, ⟨by omega, by omega, by simp; omega, e2.out.symm⟩, HO, HB⟩
   ·have e2 := Aside0.mk (HI.out.2.2.2.symm.trans (used_neg (acc := acc) h0 hlt hp))
    have hpb : decide (rd flow i > 0) = false := decide_eq_false hp
    have hal := HI.out.2.2.1
    go_wp2
    go_roundg (gk - 1)
    case measure => omega
    case rel => exact ⟨acc, i + 1, rfl, ⟨by omega, by omega, by omega, e2.out.symm⟩, HO, HB⟩
  ·go_wp2
   go_ret
   refine ⟨_, rfl, ?_, HB.out⟩
   have := HI.out.2.2.2
   rw [List.drop_eq_nil_of_le (by omega)] at this
   rw [← this]
   simpa [usedL] using HO.out

set_option maxHeartbeats 2000000 in
set_option maxRecDepth 100000 in
theorem use_givers.calls (g : Nat) (n0 : Value) (D V : Value) (AW : Option Addr) (cW : Nat) (want : List Int) (w : World) (hb : w.heap[g]? = some (.cells #[n0, D, V, .slice AW want.length cW] 96 (0, 0))) (hF : Kd.C (Kd.int .i64) w AW want.length want) (hl : want.length ≤ 65536) :
  Calls Try.prog 127 #[.pointer (some ⟨g, 0, none⟩)] w fun e w' => ∃ v0_ : Value, e = .returned v0_ ∧ Kd.R (Kd.int .i64) 3 w' w.heap.size (fun _ => True) v0_ (0 :: giversL want 0) ∧ Below w.heap.size w w' := by
 have hz : w.cell? ⟨g, 3, none⟩ = some (.slice AW want.length cW) := (blk_cell hb 3).trans rfl
 have HF := Aside0.mk hF
 have HL := Aside0.mk hl
 have HB := Aside0.mk (Below.refl w.heap.size w)
 clear hb hF hl
 go_enter Try.func127, Try.ntmps127
 go_wp2_with ((with_reducible refine gate_dst (N := 6) rfl ?_); refine Kd.R_lit (Kd.int .i64) _ 3 ?hg (N := 6) ?hd (xs := ([0] : List Int)) (inner := [.int .i64 0]) (ok := fun _ => True) (okp := fun _ => True) ?hr ?hp (fun _ hk => hk) trivial (Below.refl _ _) (Nat.le_refl _) (by simp) ?_; (case hd => rfl); (case hg => rfl); (case hr => first | (go_simp; done) | (go_simp; rfl)); (case hp => exact (Reps.one (show Kd.M (Kd.int .i64) _ _ _ 0 [.int .i64 0] from rfl) (Reps.none _ _))); intro v232 w2 ho3 hb hg_ hnew_; have hz2 := (hb.cell (World.block_lt_of_cell? w _ hz)).trans hz; clear hz HB; have HB := Aside0.mk hb; have HO := Aside0.mk ho3; clear ho3 hb hg_ hnew_)
 go_loopg [3, 12] want.length (fun kq v3 v12 w' => ∃ (acc : List Int) (i : Int), v12 = .int .i64 i ∧ Aside0 (0 ≤ i ∧ (kq : Int) + i = want.length ∧ (acc.length : Int) ≤ i + 1 ∧ acc ++ giversL (want.drop i.toNat) i = 0 :: giversL want 0) ∧ Aside0 (Kd.R (Kd.int .i64) 3 w' w.heap.size (fun _ => True) v3 acc) ∧ Aside0 (Below w.heap.size w w'))
 case atStart => exact ⟨[0], 0, rfl, ⟨by omega, by omega, by simp, by simp⟩, HO, HB⟩
 case round =>
  obtain ⟨acc, i, rfl, HI, HO, HB⟩ := hrel
  have h0 := HI.out.1
  have hk := HI.out.2.1
  have hL := HL.out
  by_cases hlt : i < (want.length : Int)
  ·obtain ⟨ad, e1, hx⟩ := Kd.at_int HF.out i h0 hlt
   cases e1
   have hx1 := (HB.out.cell (World.block_lt_of_cell? w _ hx)).trans hx
   clear hx
   have hw64 : i + 1 ≤ 9223372036854775807 := by omega
   by_cases hi : 0 < i
   ·have hib : decide (i > 0) = true := decide_eq_true hi
    by_cases hq : rd want i < 0
    ·have e2 := Aside0.mk (HI.out.2.2.2.symm.trans (givers_pos (acc := acc) h0 hlt ⟨hi, hq⟩))
     have hqb : decide (rd want i < 0) = true := decide_eq_true hq
     have hal := HI.out.2.2.1
     go_wp2_with ((with_reducible refine gate_builtin (b := .append) (xs := #[.tmp 23, .tmp 25]) rfl ?_); at_builtin; refine Kd.R_append (Kd.int .i64) (w0 := w) w.heap.size rfl (.tmp 23) (.tmp 25) 29 3 (.int .i64 0) 8 rfl Try.underlying29 info3 rfl (by decide) (by omega) u3 acc i [.int .i64 i] (fun _ => True) (fun _ => False) rfl rfl ?aP (fun _ hk => hk.elim) ?aF ?aO ?aB ?aS ?aL ?_; (case aP => exact rfl); (case aB => exact HB.out); (case aF => exact (fun _ _ => trivial)); (case aO => exact HO.out); (case aS => exact (below_size HB.out)); (case aL => omega); intro v118 w6 ho hb hg hat; clear HB HO; have HB := Aside0.mk hb; have HO := Aside0.mk ho; clear ho hb hg hat)
     go_roundg (gk - 1)
     case measure => omega
     case rel => exact ⟨acc ++ [i], i + 1, rfl, ⟨by omega, by omega, by simp; omega, e2.out.symm⟩, HO, HB⟩
    ·have e2 := Aside0.mk (HI.out.2.2.2.symm.trans (givers_neg (acc := acc) h0 hlt (fun h => hq h.2)))
     have hqb : decide (rd want i < 0) = false := decide_eq_false hq
     have hal := HI.out.2.2.1
     go_wp2
     go_roundg (gk - 1)
     case measure => omega
     case rel => exact ⟨acc, i + 1, rfl, ⟨by omega, by omega, by omega, e2.out.symm⟩, HO, HB⟩
   ·have hib : decide (i > 0) = false := decide_eq_false hi
    have e2 := Aside0.mk (HI.out.2.2.2.symm.trans (givers_neg (acc := acc) h0 hlt (fun h => hi h.1)))
    have hal := HI.out.2.2.1
    go_wp2
    go_roundg (gk - 1)
    case measure => omega
    case rel => exact ⟨acc, i + 1, rfl, ⟨by omega, by omega, by omega, e2.out.symm⟩, HO, HB⟩
  ·go_wp2
   go_ret
   refine ⟨_, rfl, ?_, HB.out⟩
   have := HI.out.2.2.2
   rw [List.drop_eq_nil_of_le (by omega)] at this
   rw [← this]
   simpa [giversL] using HO.out

section
variable {P : Program} {ops : Array Oper} {Q : Exit → Act → World → Prop}
/-- A struct of three numbers is stored into its own block. -/
theorem store_box3 {rest : List Oper} {o : Oper} {a : Act} {W : World} (hgd : o.guard = none) (hd : o.dst = none) (p x : Operand) (ho : o.op = .store 39 p x) (hinfo : (P.info? 39).map (·.size) = some 3)
  (g : Nat) (haddr : a.eval p = .pointer (some ⟨g, 0, none⟩)) (d0 d1 d2 : Int) (hx : a.eval x = .agg #[.int .i64 d0, .int .i64 d1, .int .i64 d2]) (cs : Array Value) (hb : W.heap[g]? = some (.cells cs 39 (0, 0))) (hcs : cs.size = 3)
  (h : ∀ w1, w1.heap[g]? = some (.cells #[.int .i64 d0, .int .i64 d1, .int .i64 d2] 39 (0, 0)) → W.grownBy w1 (some g) → wpList P ops Q rest a w1) : wpList P ops Q (o :: rest) a W := by
 have hrun := run_store_run (P := P) (w := W) (g := g) (o := 0) (e := 39) (cur := cs) 39 (.agg #[.int .i64 d0, .int .i64 d1, .int .i64 d2]) [.int .i64 d0, .int .i64 d1, .int .i64 d2] hb rfl hinfo (by simp [hcs]) (by intro q hq; simp only [List.mem_cons, List.not_mem_nil, or_false] at hq; rcases hq with rfl | rfl | rfl <;> rfl)
 obtain ⟨cur', h3, h4, h5⟩ := setCells_row [Value.int .i64 d0, .int .i64 d1, .int .i64 d2] 0 W cs hb (by simp [hcs])
 obtain ⟨s1, s2, s3, s4⟩ := setCells_same g [Value.int .i64 d0, .int .i64 d1, .int .i64 d2] 0 W
 have e : cur' = #[.int .i64 d0, .int .i64 d1, .int .i64 d2] := by
  apply Array.ext'
  rw [h5]
  have : cs.toList.drop 3 = [] := List.drop_eq_nil_of_le (by simp [hcs])
  simp [this]
 subst e
 refine wpList_plain hgd fun K hK => ?_
 unfold Oper.wp execOp
 simp only [ho, Sem.run_bind, haddr, hx, hrun, Result.andThen_ok, Sem.run_pure, List.map_toArray, List.map_cons, List.map_nil]
 have h' := h _ h3 ⟨s1, s2, s3, by rw [s4]; exact Nat.le_refl _, fun k _ hk => setCells_far _ _ k (fun he => hk (by rw [he]))⟩
 have ea : a.put o.dst undef = a := by rw [hd]; rfl
 first | exact hK _ _ (by rw [ea]; exact h') | (refine hK _ _ ?_; simpa [hd, Act.put] using h')
end

def turnD (d : S39) : S39 := ⟨d.f1, d.f0, -d.f2⟩
def linesL (diffs : List S39) (flow : List Int) : List S39 := diffs ++ (usedL flow 0).map fun k => turnD (rd_T39 diffs k)
theorem usedL_mem : ∀ (l : List Int) (i k : Int), k ∈ usedL l i → i ≤ k ∧ k < i + l.length
 | [], _, _, h => by simp [usedL] at h
 | x :: xs, i, k, h => by
  unfold usedL at h
  have key : k ∈ usedL xs (i + 1) → i ≤ k ∧ k < i + (x :: xs).length := fun h => by
   have := usedL_mem xs (i + 1) k h
   simp only [List.length_cons]
   omega
  by_cases hp : x > 0
  ·rw [if_pos hp] at h
   rcases List.mem_cons.1 h with rfl | h
   ·simp only [List.length_cons]; omega
   ·exact key h
  ·rw [if_neg hp] at h
   exact key h
theorem usedL_len : ∀ (l : List Int) (i : Int), (usedL l i).length ≤ l.length
 | [], _ => by simp [usedL]
 | x :: xs, i => by
  unfold usedL
  have := usedL_len xs (i + 1)
  by_cases hp : x > 0
  ·rw [if_pos hp]; simp; omega
  ·rw [if_neg hp]; simp; omega
set_option maxHeartbeats 1000000 in
theorem use_nodes.calls (g : Nat) (n0 : Int) (D F V : Value) (w : World) (hb : w.heap[g]? = some (.cells #[.int .i64 n0, D, F, V] 96 (0, 0))) :
  Calls Try.prog 149 #[.pointer (some ⟨g, 0, none⟩)] w fun e w' => e = .returned (.int .i64 n0) ∧ Below w.heap.size w w' := by
 have hz : w.cell? ⟨g, 0, none⟩ = some (.int .i64 n0) := (blk_cell hb 0).trans rfl
 clear hb
 go_enter Try.func149, Try.ntmps149
 go_wp2
 go_ret
 exact ⟨rfl, Below.refl _ _⟩
set_option maxHeartbeats 4000000 in
set_option maxRecDepth 100000 in
theorem use_lines.calls (g : Nat) (n0 : Value) (AD : Option Addr) (cD : Nat) (diffs : List S39) (V : Value) (AF : Option Addr) (cF : Nat) (flow : List Int) (w : World) (hb : w.heap[g]? = some (.cells #[n0, .slice AD diffs.length cD, .slice AF flow.length cF, V] 96 (0, 0)))
  (hD : Kd.C k39 w AD diffs.length diffs) (hcD : diffs.length ≤ cD) (hF : Kd.C (Kd.int .i64) w AF flow.length flow) (hfd : flow.length = diffs.length) (hl : diffs.length ≤ 65536) (hm : ∀ d ∈ diffs, -4611686018427387904 ≤ d.f2 ∧ d.f2 ≤ 4611686018427387904) :
  Calls Try.prog 130 #[.pointer (some ⟨g, 0, none⟩)] w fun e w' => ∃ v0_ : Value, e = .returned v0_ ∧ Kd.R k39 39 w' w.heap.size (fun _ => True) v0_ (linesL diffs flow) ∧ Below w.heap.size w w' := by
 have hz : w.cell? ⟨g, 1, none⟩ = some (.slice AD diffs.length cD) := (blk_cell hb 1).trans rfl
 have HD := Aside0.mk hD
 have HCD := Aside0.mk hcD
 have HF := Aside0.mk hF
 have HFD := Aside0.mk hfd
 have HL := Aside0.mk hl
 have HM := Aside0.mk hm
 have BU0 := Aside0.mk hb
 have HB := Aside0.mk (Below.refl w.heap.size w)
 clear hb hD hcD hF hfd hl hm
 go_enter Try.func130, Try.ntmps130
 go_wp2_with (first
  | ((with_reducible refine gate_callee (f := 62) rfl ?_); refine goesL_ (some 12) rfl rfl Try.func62 (by kernel_rfl) rfl #[.slice AD diffs.length cD] rfl (by (try simp only [List.map_toArray, List.map_cons, List.map_nil]); first | done | rfl) ?_; (refine (api_Diff_62.calls AD cD diffs diffs _ HD.out HCD.out (by unfold api_Diff_62.f; rw [if_pos HL.out])).mono ?_); rintro e w1 ⟨v3, rfl, ho, hb⟩; refine ⟨_, rfl, ?_⟩; have HO := Aside0.mk ho; clear HB; have HB := Aside0.mk hb; clear ho hb)
  | ((with_reducible refine gate_callee (f := 131) rfl ?_); refine goesL_ (some 14) rfl rfl Try.func131 (by kernel_rfl) rfl #[.pointer (some ⟨g, 0, none⟩)] rfl (by (try simp only [List.map_toArray, List.map_cons, List.map_nil]); first | done | rfl) ?_; (refine (use_used.calls g n0 _ V AF cF flow _ (blk_below BU0.out HB.out) (Kd.C_below HF.out HB.out) (by have := HL.out; have := HFD.out; omega)).mono ?_); rintro e w2 ⟨vU, rfl, ho2, hb2⟩; refine ⟨_, rfl, ?_⟩; have HO2 := Aside0.mk (Kd.R_below HO.out hb2); have HU := Aside0.mk (Kd.R_lower ho2 HB.out.size); have HB2 := Aside0.mk (below_step HB.out hb2); clear HB HO ho2 hb2; have HB := HB2; have HO := HO2; clear HB2 HO2; obtain ⟨U, hUe⟩ : ∃ U, U = usedL flow 0 := ⟨_, rfl⟩; rw [← hUe] at HU; have HUE := Aside0.mk hUe; clear hUe; (obtain ⟨AU, cU, rfl⟩ := own_slice (Kd.own_of_R HU.out))))
 have BU := Aside0.mk (blk_below BU0.out HB.out)
 have HX := Aside0.mk (show ∀ i, 0 ≤ i → i < (U.length : Int) → 0 ≤ rd U i ∧ rd U i < (diffs.length : Int) from fun i h0 h1 => by
  have hm : rd U i ∈ U := by
   unfold rd
   rw [List.getD_eq_getElem?_getD, List.getElem?_eq_getElem (by omega)]; exact List.getElem_mem _
  have hm2 : ∀ x, x ∈ U → x ∈ usedL flow 0 := by rw [HUE.out]; exact fun _ h => h
  have := usedL_mem flow 0 _ (hm2 _ hm)
  have := HFD.out
  omega)
 have HUL := Aside0.mk (show U.length ≤ 65536 from by rw [HUE.out]; have := usedL_len flow 0; have := HFD.out; have := HL.out; omega)
 go_loopg [3, 16] U.length (fun kq v3 v16 w' => ∃ (acc : List S39) (i : Int), v16 = .int .i64 i ∧ Aside0 (0 ≤ i ∧ (kq : Int) + i = U.length ∧ (acc.length : Int) ≤ 65536 + i ∧ acc ++ (U.drop i.toNat).map (fun k => turnD (rd_T39 diffs k)) = linesL diffs flow) ∧ Aside0 (Kd.R k39 39 w' w.heap.size (fun _ => True) v3 acc) ∧ Aside0 (Kd.R (Kd.int .i64) 3 w' w.heap.size (fun _ => True) (Value.slice AU U.length cU) U) ∧ Aside0 (w'.heap[g]? = some (.cells #[n0, .slice AD diffs.length cD, .slice AF flow.length cF, V] 96 (0, 0))) ∧ Aside0 (Below w.heap.size w w'))
 case atStart => exact ⟨diffs, 0, rfl, ⟨by omega, by omega, by have := HL.out; omega, by rw [HUE.out]; rfl⟩, HO, HU, BU, HB⟩
 case round =>
  clear hz
  obtain ⟨acc, i, rfl, HI, HO, HU, BU, HB⟩ := hrel
  have h0 := HI.out.1
  have hk := HI.out.2.1
  have hUL := HUL.out
  by_cases hlt : i < (U.length : Int)
  ·obtain ⟨adu, e1, hxu⟩ := Kd.at_int (Kd.R_reads' HU.out).2.2 i h0 hlt
   cases e1
   have p0 := (HX.out i h0 hlt).1
   have p1 := (HX.out i h0 hlt).2
   obtain ⟨add, e2, hy0, hy1, hy2⟩ := at_T39 HD.out (rd U i) p0 p1
   cases e2
   replace hy0 := (HB.out.cell (World.block_lt_of_cell? w _ hy0)).trans hy0
   replace hy1 := (HB.out.cell (World.block_lt_of_cell? w _ hy1)).trans hy1
   replace hy2 := (HB.out.cell (World.block_lt_of_cell? w _ hy2)).trans hy2
   have hgz : wr.cell? ⟨g, 1, none⟩ = some (.slice (some add) diffs.length cD) := (blk_cell BU.out 1).trans rfl
   have hal := HI.out.2.2.1
   have hw64 : i + 1 ≤ 9223372036854775807 := by omega
   have hmm := HM.out (rd_T39 diffs (rd U i)) (by
    unfold rd_T39
    rw [List.getD_eq_getElem?_getD, List.getElem?_eq_getElem (by omega)]; exact List.getElem_mem _)
   have hm1 := hmm.1
   have hm2 := hmm.2
   clear hmm
   have hneg : IntKind.i64.wrap (-(rd_T39 diffs (rd U i)).f2) = -(rd_T39 diffs (rd U i)).f2 := by rw [IntKind.wrap_i64]; omega
   have e3 := Aside0.mk (show (acc ++ [turnD (rd_T39 diffs (rd U i))]) ++ (U.drop (i + 1).toNat).map (fun k => turnD (rd_T39 diffs k)) = linesL diffs flow from by
    rw [← HI.out.2.2.2, drop_rd U i h0 hlt, List.map_cons, List.append_assoc]; rfl)
   go_wp2_with (first | ((with_reducible refine gate_dst (N := 6) rfl ?_); go_must (refine box_event ?hg (N := 6) ?hd (cs := #[.int .i64 0, .int .i64 0, .int .i64 0]) (t := 39) ?hr ?_; (case hd => rfl); (case hg => rfl); (case hr => first | (go_simp; done) | (go_simp; rfl)); intro g6 hg w5 hbox hb; have n0_ := Aside0.mk (Kd.R_below HO.out hb); have n1_ := Aside0.mk (Kd.R_below HU.out hb); have n2_ := Aside0.mk (blk_below BU.out hb); have n3_ := Aside0.mk (below_step HB.out hb); have n4_ := Aside0.mk (show some g6 ≠ u3.ownBlock ∧ some g6 ≠ (Value.slice (some adu) U.length cU).ownBlock ∧ w.heap.size ≤ g6 ∧ g ≠ g6 from ⟨fun e => (by have := Kd.R_lt HO.out g6 e.symm; omega), fun e => (by have := Kd.R_lt HU.out g6 e.symm; omega), (by rw [hg]; exact HB.out.size), (by have := blk_lt BU.out; omega)⟩); have BK := Aside0.mk hbox; clear HO HU BU HB hb hbox hg; have HO := n0_; have HU := n1_; have BU := n2_; have HB := n3_; have NE := n4_; clear n0_ n1_ n2_ n3_ n4_)) | (refine gate_store (t := 39) (p := 6) (v := .tmp 27) rfl ?_; refine store_box3 rfl rfl (.tmp 6) (.tmp 27) rfl (by rfl) g6 rfl _ _ _ rfl _ BK.out rfl ?_; intro w6 hb6 hg6; replace HO := Aside0.mk (Kd.R_grown1 HO.out rfl hg6 NE.out.1); replace HU := Aside0.mk (Kd.R_grown1 HU.out rfl hg6 NE.out.2.1); replace BU := Aside0.mk (blk_grown BU.out hg6 (fun e => NE.out.2.2.2 (Option.some.inj e))); replace HB := Aside0.mk (HB.out.grown hg6 HB.out.size (fun k hk => by cases hk; exact NE.out.2.2.1)); clear BK hg6; have hz0 : w6.cell? ⟨g6, 0, none⟩ = _ := (blk_cell hb6 0).trans rfl; have hz1 : w6.cell? ⟨g6, 1, none⟩ = _ := (blk_cell hb6 1).trans rfl; have hz2 : w6.cell? ⟨g6, 2, none⟩ = _ := (blk_cell hb6 2).trans rfl; clear hb6) | ((with_reducible refine gate_builtin (b := .append) (xs := #[.tmp 28, .tmp 37]) rfl ?_); at_builtin; refine Kd.R_append k39 (w0 := w) w.heap.size rfl (.tmp 28) (.tmp 37) 22 39 (.agg #[(.int .i64 0), (.int .i64 0), (.int .i64 0)]) 24 rfl Try.underlying22 info39 rfl (by decide) (by omega) u3 acc (turnD (rd_T39 diffs (rd U i))) [.int .i64 (rd_T39 diffs (rd U i)).f1, .int .i64 (rd_T39 diffs (rd U i)).f0, .int .i64 (-(rd_T39 diffs (rd U i)).f2)] (fun _ => True) (fun _ => False) rfl (by first | (go_simp; done) | (go_simp; rfl)) ?aP (fun _ hk => hk.elim) ?aF ?aO ?aB ?aS ?aL ?_; (case aP => exact k39_mkM _ _ _ (turnD (rd_T39 diffs (rd U i)))); (case aB => exact HB.out); (case aF => exact (fun _ _ => trivial)); (case aO => exact HO.out); (case aS => exact (below_size HB.out)); (case aL => omega); intro v118 w8 ho hb hg hat; have n0_ := Aside0.mk (Kd.R_over' HU.out (Kd.R_typed HO.out) (by decide) hg); have n1_ := Aside0.mk (blk_grown BU.out hg (Kd.R_ne HO.out BU.out (by decide))); clear HB HO HU BU; have HB := Aside0.mk hb; have HO := Aside0.mk ho; have HU := n0_; have BU := n1_; clear n0_ n1_ ho hb hg hat))
   go_roundg (gk - 1)
   case measure => omega
   case rel => exact ⟨acc ++ [turnD (rd_T39 diffs (rd U i))], i + 1, rfl, ⟨by omega, by omega, by simp; omega, e3.out⟩, HO, HU, BU, HB⟩
  ·go_wp2
   go_ret
   refine ⟨_, rfl, ?_, HB.out⟩
   have := HI.out.2.2.2
   rw [List.drop_eq_nil_of_le (by omega)] at this
   rw [← this]
   simpa using HO.out

theorem f130_ok : Try.prog.funcs[130]? = some Try.f130 := by kernel_rfl
theorem f149_ok : Try.prog.funcs[149]? = some Try.f149 := by kernel_rfl
theorem graph_use {g : Nat} {n0 : Int} {AD : Option Addr} {cD : Nat} {diffs : List S39} {V : Value} {AF : Option Addr} {cF : Nat} {flow : List Int} {w : World} (hb : w.heap[g]? = some (.cells #[.int .i64 n0, .slice AD diffs.length cD, .slice AF flow.length cF, V] 96 (0, 0)))
  (hD : Kd.C k39 w AD diffs.length diffs) (hcD : diffs.length ≤ cD) (hF : Kd.C (Kd.int .i64) w AF flow.length flow) (hfd : flow.length = diffs.length) (hl : diffs.length ≤ 65536) (hm : ∀ d ∈ diffs, -4611686018427387904 ≤ d.f2 ∧ d.f2 ≤ 4611686018427387904) :
  Graph w 91 (.pointer (some ⟨g, 0, none⟩)) n0 (linesL diffs flow) :=
 ⟨130, 149, .pointer (some ⟨g, 0, none⟩), .pointer (some ⟨g, 0, none⟩), Try.f130, Try.f149, fun W => m_use_lines _ W, fun W => m_use_nodes _ W, ⟨f130_ok, rfl, rfl⟩, ⟨f149_ok, rfl, rfl⟩,
  fun W hW => (use_lines.calls g (.int .i64 n0) AD cD diffs V AF cF flow W (blk_below hb hW) (Kd.C_below hD hW) hcD (Kd.C_below hF hW) hfd hl hm).mono fun e W' h => by
   obtain ⟨v, rfl, ho, hb2⟩ := h
   obtain ⟨A, c, rfl, hc, hC⟩ := Kd.R_reads ho
   exact ⟨A, c, rfl, hc, hC, hb2⟩,
  fun W hW => use_nodes.calls g n0 _ _ V W (blk_below hb hW)⟩

end Go.Proofs.Ytpolojoeabmhdaa.A
