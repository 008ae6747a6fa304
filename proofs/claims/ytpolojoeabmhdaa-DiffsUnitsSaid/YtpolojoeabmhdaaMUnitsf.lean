import Derived.Test.YtpolojoeabmhdaaMUnitsd
import Derived.Test.YtpolojoeabmhdaaMUnitse
import Derived.Lib.SliceRun
import Derived.WalkSpells
set_option linter.unusedVariables false
set_option linter.unusedSimpArgs false
/- slices.Clone at the three element types: the walks. -/
namespace Go.Proofs.Ytpolojoeabmhdaa.A
open Go.RowKit Go.Proofs.YtpolojoeabmhdaaW.PrintWords Go.Proofs.YtpolojoeabmhdaaW.PrintLast Go.Proofs.YtpolojoeabmhdaaW.PrintMore
/-- An empty row of the call's own. -/
theorem R_empty {α : Type} (d : Kd α) (e : Nat) (w : World) (base : Nat) (hb : base ≤ w.heap.size) (ok : Nat → Prop) (hk : ok w.heap.size) : d.R e (w.alloc (.cells #[] e)) base ok (.slice (some ⟨w.heap.size, 0, none⟩) 0 0) [] :=
 ⟨fun k hk' => by simp only [Value.ownBlock, oJ_] at hk'; subst hk'; exact hk, [], World.ownsRow_made w #[] 0 hb (by unfold maxLen; omega) (by simp), Reps.none _ _⟩
theorem nil_of_none {α : Type} {d : Kd α} {w : World} {l : List α} (h : d.C w none l.length l) : l = [] := by
 have h2 := h.2.2
 cases l with
 | nil => rfl
 | cons x xs => obtain ⟨ad, h, _⟩ := h2 (by simp); cases h
def slices_Clone_int_int.f (l0 : List Int) : Option (List Int) := if l0.length ≤ 65536 then some l0 else none
set_option maxHeartbeats 400000 in
theorem slices_Clone_int_int.calls (A0 : Option Addr) (c0 : Nat) (l0 : List Int) (r : List Int) (w : World) (hr0 : Kd.C (Kd.int .i64) w A0 l0.length l0) (hc0 : l0.length ≤ c0) (h : slices_Clone_int_int.f l0 = some r) :
  Calls Try.prog 99 #[.slice A0 l0.length c0] w fun e w' => ∃ v0_ : Value, e = .returned (v0_) ∧ Kd.R (Kd.int .i64) 3 w' w.heap.size (fun _ => True) v0_ r ∧ Below w.heap.size w w' := by
 have HR0 := Z_ hr0; clear hr0; unfold slices_Clone_int_int.f at h; by_cases hl : l0.length ≤ 65536
 ·rw [if_pos hl] at h
  obtain rfl := oI_ h; have qT : ∀ (w : World) (a : Option Addr) (n c n' c' : Nat), (binOp .eql 29 (.slice a n c) (.slice none n' c')).run Try.prog w = .ok (.bool a.isNone) w := fun w a n c n' c' => Lib.run_eql_slice_nil w _ _ a n c n' c' Try.underlying29
  have HL := Z_ hl; clear hl h
  cases A0 with
  | none =>
   obtain rfl := nil_of_none HR0.out; have hz : (none : Option Addr).isNone = true := rfl; go_enter Try.func99, Try.ntmps99; go_wp2; go_ret; exact ⟨_, rfl, Kd.R_nil _ _ _ _ _, Below.refl _ _⟩
  | some ad =>
   have hz : (some ad : Option Addr).isNone = false := rfl; go_enter Try.func99, Try.ntmps99; go_wp2_with (at_builtin; refine Kd.R_append_row (Value.int .i64) (0 : Int) (h1 := fun _ => rfl) (w0 := w) w.heap.size rfl (.tmp 5) (.tmp 6) 29 3 (.int .i64 0) 8 rfl Try.underlying29 info3 rfl (by omega) (.slice (some ⟨w.heap.size, 0, none⟩) 0 0) [] l0 (some ad) l0.length c0 (fun _ => True) rfl rfl (fun _ _ => trivial) (R_empty (Kd.int .i64) 3 w _ (nR_ _) _ trivial) (Kd.C_alloc HR0.out _) (fA_ (Below.refl _ _) _) (by simp) (by have := HL.out; simp only [List.length_nil]; omega) ?_; intro v1 w1 ho hb hg hat); go_ret; rw [List.nil_append] at ho; exact ⟨_, rfl, ho, hb⟩
 rw [if_neg hl] at h; cases h
def slices_Clone_bool_bool.f (l0 : List Bool) : Option (List Bool) := if l0.length ≤ 65536 then some l0 else none
set_option maxHeartbeats 400000 in
theorem slices_Clone_bool_bool.calls (A0 : Option Addr) (c0 : Nat) (l0 : List Bool) (r : List Bool) (w : World) (hr0 : Kd.C Kd.bool w A0 l0.length l0) (hc0 : l0.length ≤ c0) (h : slices_Clone_bool_bool.f l0 = some r) :
  Calls Try.prog 114 #[.slice A0 l0.length c0] w fun e w' => ∃ v0_ : Value, e = .returned (v0_) ∧ Kd.R Kd.bool 4 w' w.heap.size (fun _ => True) v0_ r ∧ Below w.heap.size w w' := by
 have HR0 := Z_ hr0; clear hr0; unfold slices_Clone_bool_bool.f at h; by_cases hl : l0.length ≤ 65536
 ·rw [if_pos hl] at h
  obtain rfl := oI_ h; have qT : ∀ (w : World) (a : Option Addr) (n c n' c' : Nat), (binOp .eql 41 (.slice a n c) (.slice none n' c')).run Try.prog w = .ok (.bool a.isNone) w := fun w a n c n' c' => Lib.run_eql_slice_nil w _ _ a n c n' c' Try.underlying41
  have HL := Z_ hl; clear hl h
  cases A0 with
  | none =>
   obtain rfl := nil_of_none HR0.out; have hz : (none : Option Addr).isNone = true := rfl; go_enter Try.func114, Try.ntmps114; go_wp2; go_ret; exact ⟨_, rfl, Kd.R_nil _ _ _ _ _, Below.refl _ _⟩
  | some ad =>
   have hz : (some ad : Option Addr).isNone = false := rfl; go_enter Try.func114, Try.ntmps114; go_wp2_with (at_builtin; refine Kd.R_append_row Value.bool false (h1 := fun _ => rfl) (w0 := w) w.heap.size rfl (.tmp 5) (.tmp 6) 41 4 (.bool false) 1 rfl Try.underlying41 info4 rfl (by omega) (.slice (some ⟨w.heap.size, 0, none⟩) 0 0) [] l0 (some ad) l0.length c0 (fun _ => True) rfl rfl (fun _ _ => trivial) (R_empty Kd.bool 4 w _ (nR_ _) _ trivial) (Kd.C_alloc HR0.out _) (fA_ (Below.refl _ _) _) (by simp) (by have := HL.out; simp only [List.length_nil]; omega) ?_; intro v1 w1 ho hb hg hat); go_ret; rw [List.nil_append] at ho; exact ⟨_, rfl, ho, hb⟩
 rw [if_neg hl] at h; cases h
def api_Diff_62.f (l0 : List (S39)) : Option (List (S39)) := if l0.length ≤ 65536 then some l0 else none
set_option maxHeartbeats 400000 in
theorem api_Diff_62.calls (A0 : Option Addr) (c0 : Nat) (l0 : List (S39)) (r : List (S39)) (w : World) (hr0 : Kd.C k39 w A0 l0.length l0) (hc0 : l0.length ≤ c0) (h : api_Diff_62.f l0 = some r) :
  Calls Try.prog 62 #[.slice A0 l0.length c0] w fun e w' => ∃ v0_ : Value, e = .returned (v0_) ∧ Kd.R k39 39 w' w.heap.size (fun _ => True) v0_ r ∧ Below w.heap.size w w' := by
 have HR0 := Z_ hr0; clear hr0; unfold api_Diff_62.f at h; by_cases hl : l0.length ≤ 65536
 ·rw [if_pos hl] at h
  obtain rfl := oI_ h; have qT : ∀ (w : World) (a : Option Addr) (n c n' c' : Nat), (binOp .eql 22 (.slice a n c) (.slice none n' c')).run Try.prog w = .ok (.bool a.isNone) w := fun w a n c n' c' => Lib.run_eql_slice_nil w _ _ a n c n' c' Try.underlying22
  have HL := Z_ hl; clear hl h
  cases A0 with
  | none =>
   obtain rfl := nil_of_none HR0.out; have hz : (none : Option Addr).isNone = true := rfl; go_enter Try.func62, Try.ntmps62; go_wp2; go_ret; exact ⟨_, rfl, Kd.R_nil _ _ _ _ _, Below.refl _ _⟩
  | some ad =>
   have hz : (some ad : Option Addr).isNone = false := rfl; go_enter Try.func62, Try.ntmps62; go_wp2_with (at_builtin; refine Kd.R_append_rows k39 (Rr := k39.K (w.alloc (.cells #[] 39))) (okp := fun _ => False) (w0 := w) w.heap.size rfl (.tmp 5) (.tmp 6) 22 39 (.agg #[(.int .i64 0), (.int .i64 0), (.int .i64 0)]) 24 rfl Try.underlying22 info39 rfl (by decide) (by omega) (.slice (some ⟨w.heap.size, 0, none⟩) 0 0) [] l0 (some ad) l0.length c0 (fun _ => True) rfl rfl (R_empty k39 39 w _ (nR_ _) _ trivial) (Kd.C_alloc HR0.out _) (fun x cs h => by obtain rfl := k39_open h; exact k39_mkM _ _ _ _) (fun _ h => h.elim) (fun _ _ => trivial) (fA_ (Below.refl _ _) _) (by simp) (by have := HL.out; simp only [List.length_nil]; omega) ?_; intro v1 w1 ho hb hg hat); go_ret; rw [List.nil_append] at ho; exact ⟨_, rfl, ho, hb⟩
 rw [if_neg hl] at h; cases h
end Go.Proofs.Ytpolojoeabmhdaa.A
/- all and solve: the walks of Go's text, over any graph whose two methods answer. Turned from what wrap.py printed (mksolve.py). -/
namespace Go.Proofs.Ytpolojoeabmhdaa.A
open Go.RowKit Go.Proofs.YtpolojoeabmhdaaW.PrintWords Go.Proofs.YtpolojoeabmhdaaW.PrintLast Go.Proofs.YtpolojoeabmhdaaW.PrintMore
attribute [local go_sem] max2_int min2_int max_two min_two max_three min_three max_four min_four
theorem Graph.below {w W : World} {T : TypeId} {gv : Value} {n : Int} {l : List S39} (h : Graph w T gv n l) (hb : Below w.heap.size w W) : Graph W T gv n l := by
 obtain ⟨fL, fN, rL, rN, gL, gN, h1, h2, h3, h4, h5, h6⟩ := h.out; exact ⟨fL, fN, rL, rN, gL, gN, h1, h2, h3, h4, fun W' hW => h5 W' (below_then hb hb.size hW), fun W' hW => h6 W' (below_then hb hb.size hW)⟩
def diffs_all.l0 : Nat → List Int → Int → Int → Option (List Int)
 | 0, _, _, _ => none
 | k + 1, x3, x6, x7 => if x7 < x6 then (if x3.length < 17592186044416 then (diffs_all.l0 k (x3 ++ [x7]) x6 (wrap64 (x7 + 1))) else (none)) else (some x3)
def diffs_all.f (k : Nat) (a0_0 : Int) (l0_1 : List (S39)) : Option (List Int) := (diffs_plain_nodes.f a0_0 l0_1).bind fun t116 => (diffs_all.l0 k ([] : List Int) t116 0)
theorem diffs_all.mono_l : ∀ k, (∀ y0 y1 y2, LeO (diffs_all.l0 k y0 y1 y2) (diffs_all.l0 (k + 1) y0 y1 y2))
 | 0 => fun _ _ _ r h => by simp [diffs_all.l0] at h
 | k + 1 => by
  have ih0 := diffs_all.mono_l k; intro y0 y1 y2; unfold diffs_all.l0; repeat' first | (with_reducible first | exact ih0 _ _ _ | exact LeO.refl _ | exact LeO.none _ | refine LeO.ite ?_ ?_ | refine LeO.bind ?_ (fun _ => ?_)) | exact ih0 _ _ _ | exact LeO.none _ | refine LeO.ite ?_ ?_ | refine LeO.bind ?_ (fun _ => ?_)
theorem diffs_all.mono : ∀ a0 a1 k, LeO (diffs_all.f k a0 a1) (diffs_all.f (k + 1) a0 a1) := by
 intro a0 a1 k; have ih0 := diffs_all.mono_l k; unfold diffs_all.f; repeat' first | (with_reducible first | exact ih0 _ _ _ | exact LeO.refl _ | exact LeO.none _ | refine LeO.ite ?_ ?_ | refine LeO.bind ?_ (fun _ => ?_)) | exact ih0 _ _ _ | exact LeO.none _ | refine LeO.ite ?_ ?_ | refine LeO.bind ?_ (fun _ => ?_)
set_option maxHeartbeats 8000000 in
set_option maxRecDepth 100000 in
theorem diffs_all.any (k : Nat) (T : TypeId) (gv : Value) (a0_0 : Int) (l0_1 : List (S39)) (r : List Int) (w : World) (hG : Graph w T gv a0_0 l0_1) (h : diffs_all.f k a0_0 l0_1 = some r) :
  Calls Try.prog 111 #[.iface T gv] w fun e w' => ∃ v0_ : Value, e = .returned (v0_) ∧ Kd.R (Kd.int .i64) 3 w' w.heap.size (fun _ => True) v0_ r ∧ Below w.heap.size w w' := by
 obtain ⟨⟨fL, fN, rL, rN, gL, gN, hmL0, hmN0, hfL0, hfN0, hL0, hN0⟩⟩ := hG; have hmN := Z_ hmN0; have hfN := Z_ hfN0; have HB := Z_ (Below.refl w.heap.size w); have H : ((diffs_plain_nodes.f a0_0 l0_1).bind fun t116 => (diffs_all.l0 k ([] : List Int) t116 0)) = some r := h; clear h; replace H := oS_.mp H; obtain ⟨t116, A20, H⟩ := H; replace H : (diffs_all.l0 k ([] : List Int) t116 0) = some r := H; have A2 := Z_ A20; clear A20; have hN := Z_ (show ∀ W, Below w.heap.size w W → Calls Try.prog fN #[rN] W fun e W' => e = .returned (.int .i64 t116) ∧ Below W.heap.size W W' from (oI_ A2.out : a0_0 = t116) ▸ hN0); clear hmL0 hmN0 hfL0 hfN0 hL0 hN0; have H' := Z_ H; clear H; go_enter Try.func111, Try.ntmps111; go_wp2_with (first | (refine goesIL_ (some 6) rfl rfl rfl rfl (hmN.out _) hfN.out.1 hfN.out.2.1 hfN.out.2.2 ?_; refine (hN.out _ ?sN).mono ?_; (case sN => repeat (first | exact HB.out | apply fA_ | apply pB_ | apply fD_)); rintro e w3 ⟨rfl, hb⟩; refine ⟨_, rfl, ?_⟩; replace HB := Z_ (fS_ HB.out hb); (try clear hb); (try clear hb2); (try clear hk); (try clear hi))); go_loopg [3, 7] k (fun kq v3 v7 w' => ∃ (x3_1 : List Int) (x7_1 : Int), v7 = .int .i64 x7_1 ∧ Aside0 (diffs_all.l0 kq x3_1 t116 x7_1 = some r) ∧ Aside0 (kq ≤ k) ∧ Aside0 (Kd.R (Kd.int .i64) 3 w' w.heap.size (fun _ => True) v3 x3_1) ∧ Aside0 (Below w.heap.size w w'))
 case atStart => exact ⟨(([] : List Int)), (0), (by first | rfl | (simp; done) | (simp [*]; done)), H', ⟨nR_ _⟩, ⟨by first | exact Kd.R_nil _ _ _ _ _ | exact Kd.N_nil _ _ _ _ _ | exact Kd.V_nil _ _ _ _ _ | exact Kd.Q_nil _ _ _ _ _ | exact Kd.S_nil _ _ _ _ _⟩, ⟨HB.out⟩⟩
 case round =>
  clear H'; (try clear c1); (try clear p2)
  obtain ⟨x3_1, x7_1, rfl, HA, HK1, HO_3, HB⟩ := hrel
  cases gk with
  | zero => exact absurd HA.out (by simp [diffs_all.l0])
  | succ k1 =>
   have H := HA.out; clear HA; simp only [diffs_all.l0] at H; by_cases c4 : x7_1 < t116
   ·rw [if_pos c4] at H
    have c4b0 : decide (x7_1 < t116) = true := eT_ c4; clear c4; by_cases c5 : x3_1.length < 17592186044416
    ·rw [if_pos c5] at H
     have LMc5 := Z_ c5; clear c5; obtain ⟨y117, hy117⟩ : ∃ y_ : List Int, y_ = (x3_1 ++ [x7_1]) := ⟨_, rfl⟩; replace H : (diffs_all.l0 k1 y117 t116 (wrap64 (x7_1 + 1))) = some r := by first | (rw [hy117]; with_reducible exact H) | (have H2_ := (oB_ _ _).symm.trans H; rw [hy117]; with_reducible exact H2_) | (have H2_ := (oB_ _ _).symm.trans H; with_reducible exact H2_) | with_reducible exact H | (rw [hy117]; exact H) | exact H
     have Ny117 := Z_ hy117; clear hy117; have H' := Z_ H; clear H; go_wp2_with (first | ((with_reducible refine gate_builtin (b := .append) (xs := #[.tmp 10, .tmp 12]) rfl ?_); at_builtin; refine Kd.R_append (Kd.int .i64) (w0 := w) w.heap.size rfl (.tmp 10) (.tmp 12) 29 3 (.int .i64 0) 8 rfl Try.underlying29 info3 rfl (by decide) (by omega) u3 x3_1 x7_1 [.int .i64 x7_1] (fun _ => True) (fun _ => False) rfl rfl ?aP (fun _ hk => hk.elim) ?aF ?aO ?aB ?aS ?aL ?_; (case aP => exact rfl); (case aB => exact HB.out); (case aF => exact (fun _ _ => trivial)); (case aO => exact HO_3.out); (case aS => exact (fZ_ HB.out)); (case aL => have := LMc5.out; omega); intro v118 w6 ho hb hg hat; rw [← Ny117.out] at ho; replace HB := Z_ (hb); have HO119 := Z_ (ho); clear HO_3; clear ho hb hg hat)); go_roundg k1
     case measure => have := HK1.out; omega
     case rel => exact ⟨(y117), (wrap64 (x7_1 + 1)), (by first | rfl | (simp; done) | (simp [*]; done)), H', ⟨by have := HK1.out; omega⟩, ⟨HO119.out⟩, ⟨HB.out⟩⟩
    rw [if_neg c5] at H; exact absurd H (by simp)
   rw [if_neg c4] at H; have c4b0 : decide (x7_1 < t116) = false := eF_ c4; clear c4; obtain rfl := oI_ H; go_wp2; go_ret; exact ⟨_, by first | rfl | (simp [errW_none, errW_some] <;> rfl) | (simp [*, errW_none, errW_some] <;> rfl), HO_3.out, HB.out⟩
def diffs_solve.l0 : Nat → List Int → Int → Int → List Int → List Bool → List Int → Option (List Int × List Int × List Bool × List Int × Int)
 | 0, _, _, _, _, _, _ => none
 | k + 1, x7, x24, x25, x135000, x135001, x135002 => if x25 < x24 then (if 0 ≤ x25 then (if x25 < (x7.length : Int) then (if 0 < (x135000.length : Int) then (diffs_solve.l0 k (x7.set (x25 : Int).toNat (wrap64 ((rd x7 x25) - (rd x135000 0)))) x24 (wrap64 (x25 + 1)) x135000 x135001 x135002) else (none)) else (none)) else (none)) else (some (x7, x135000, x135001, x135002, (-1)))
def diffs_solve.f (k : Nat) (a0_0 : Int) (l0_1 : List (S39)) : Option (List Int × List Int × List Bool × List Int × Int) := (diffs_all.f k a0_0 l0_1).bind fun t121 => ((diffs_grow.f k a0_0 l0_1 t121).bind fun bt124 => (if bt124.2.2.2 ≥ 0 then (some (([] : List Int), bt124.1, bt124.2.1, bt124.2.2.1, bt124.2.2.2)) else ((slices_Clone_int_int.f bt124.1).bind fun t135 => (diffs_solve.l0 k t135 (t135.length : Int) 0 bt124.1 bt124.2.1 bt124.2.2.1))))
theorem diffs_solve.mono_l : ∀ k, (∀ y0 y1 y2 y3 y4 y5, LeO (diffs_solve.l0 k y0 y1 y2 y3 y4 y5) (diffs_solve.l0 (k + 1) y0 y1 y2 y3 y4 y5))
 | 0 => fun _ _ _ _ _ _ r h => by simp [diffs_solve.l0] at h
 | k + 1 => by
  have ih0 := diffs_solve.mono_l k; intro y0 y1 y2 y3 y4 y5; unfold diffs_solve.l0; repeat' first | (with_reducible first | exact ih0 _ _ _ _ _ _ | exact diffs_all.mono _ _ _ | exact diffs_grow.mono _ _ _ _ | exact LeO.refl _ | exact LeO.none _ | refine LeO.ite ?_ ?_ | refine LeO.bind ?_ (fun _ => ?_)) | exact ih0 _ _ _ _ _ _ | exact diffs_all.mono _ _ _ | exact diffs_grow.mono _ _ _ _ | exact LeO.none _ | refine LeO.ite ?_ ?_ | refine LeO.bind ?_ (fun _ => ?_)
theorem diffs_solve.mono : ∀ a0 a1 k, LeO (diffs_solve.f k a0 a1) (diffs_solve.f (k + 1) a0 a1) := by
 intro a0 a1 k; have ih0 := diffs_solve.mono_l k; unfold diffs_solve.f; repeat' first | (with_reducible first | exact ih0 _ _ _ _ _ _ | exact diffs_all.mono _ _ _ | exact diffs_grow.mono _ _ _ _ | exact LeO.refl _ | exact LeO.none _ | refine LeO.ite ?_ ?_ | refine LeO.bind ?_ (fun _ => ?_)) | exact ih0 _ _ _ _ _ _ | exact diffs_all.mono _ _ _ | exact diffs_grow.mono _ _ _ _ | exact LeO.none _ | refine LeO.ite ?_ ?_ | refine LeO.bind ?_ (fun _ => ?_)
def diffs_solve.T8 : Bool × List (List Nat × List Nat) := (true, [([], []), ([], []), ([0, 1], [0, 1]), ([2], [2]), ([], []), ([4], [4]), ([5], [5]), ([6], [6]), ([3, 7], [3, 7]), ([0, 1, 0, 1, 2, 3, 4, 5, 6, 7, 8], [0, 1]), ([9, 8, 0, 1, 2, 3, 4, 5, 6, 7, 8], [8, 9])])
def diffs_solve.B8 : List Nat := [0, 0, 3, 7, 0, 16, 48, 112, 255, 511, 1023]
theorem diffs_solve.tab8 : rtab .any (opsOf Try.f81 8) = diffs_solve.T8 := by kernel_rfl
theorem diffs_solve.bits8 : waitsOk diffs_solve.T8.2 diffs_solve.B8 = true := by kernel_rfl
set_option maxHeartbeats 8000000 in
set_option maxRecDepth 100000 in
theorem diffs_solve.any (k : Nat) (T : TypeId) (gv : Value) (a0_0 : Int) (l0_1 : List (S39)) (r1 : List Int) (r2 : List Int) (r3 : List Bool) (r4 : List Int) (r5 : Int) (w : World) (hG : Graph w T gv a0_0 l0_1) (h : diffs_solve.f k a0_0 l0_1 = some (r1, r2, r3, r4, r5)) :
  Calls Try.prog 81 #[.iface T gv] w fun e w' => ∃ v0_ v1_ v2_ v3_ : Value, e = .returned (.tuple #[v0_, .agg #[v1_, v2_, v3_], .int .i64 r5]) ∧ Kd.R (Kd.int .i64) 3 w' w.heap.size (fun k_ => some k_ ≠ (v1_ : Value).ownBlock ∧ some k_ ≠ (v3_ : Value).ownBlock) v0_ r1 ∧ Kd.R (Kd.int .i64) 3 w' w.heap.size (fun k_ => some k_ ≠ (v0_ : Value).ownBlock ∧ some k_ ≠ (v3_ : Value).ownBlock) v1_ r2 ∧ Kd.R Kd.bool 4 w' w.heap.size (fun _ => True) v2_ r3 ∧ Kd.R (Kd.int .i64) 3 w' w.heap.size (fun k_ => some k_ ≠ (v0_ : Value).ownBlock ∧ some k_ ≠ (v1_ : Value).ownBlock) v3_ r4 ∧ Below w.heap.size w w' := by
 have hu88 := Try.underlying88; have HG := Z_ hG; clear hG; have HB := Z_ (Below.refl w.heap.size w); have H : ((diffs_all.f k a0_0 l0_1).bind fun t121 => ((diffs_grow.f k a0_0 l0_1 t121).bind fun bt124 => (if bt124.2.2.2 ≥ 0 then (some (([] : List Int), bt124.1, bt124.2.1, bt124.2.2.1, bt124.2.2.2)) else ((slices_Clone_int_int.f bt124.1).bind fun t135 => (diffs_solve.l0 k t135 (t135.length : Int) 0 bt124.1 bt124.2.1 bt124.2.2.1))))) = some (r1, r2, r3, r4, r5) := h; clear h; replace H := oS_.mp H; obtain ⟨t121, A20, H⟩ := H; replace H : ((diffs_grow.f k a0_0 l0_1 t121).bind fun bt124 => (if bt124.2.2.2 ≥ 0 then (some (([] : List Int), bt124.1, bt124.2.1, bt124.2.2.1, bt124.2.2.2)) else ((slices_Clone_int_int.f bt124.1).bind fun t135 => (diffs_solve.l0 k t135 (t135.length : Int) 0 bt124.1 bt124.2.1 bt124.2.2.1)))) = some (r1, r2, r3, r4, r5) := H; have A2 := Z_ A20; clear A20; replace H := oS_.mp H; obtain ⟨⟨t124, t127, t130, t133⟩, A30, H⟩ := H; replace H : (if t133 ≥ 0 then (some (([] : List Int), t124, t127, t130, t133)) else ((slices_Clone_int_int.f t124).bind fun t135 => (diffs_solve.l0 k t135 (t135.length : Int) 0 t124 t127 t130))) = some (r1, r2, r3, r4, r5) := H; have A3 := Z_ A30; clear A30; by_cases c4 : t133 ≥ 0
 ·rw [if_pos c4] at H
  have c4b0 : decide (0 ≤ t133) = true := eT_ c4; clear c4; simp only [oJ_, pI_] at H; obtain ⟨rfl, rfl, rfl, rfl, rfl⟩ := H; go_enter Try.func81, Try.ntmps81; try go_wp2_with (first | ((with_reducible refine gate_dst (N := 3) rfl ?_); refine box_event ?hg (N := 3) ?hd (cs := #[.slice none 0 0, .slice none 0 0, .slice none 0 0]) (t := 88) ?hr ?_; (case hd => rfl); (case hg => rfl); (case hr => first | (go_simp; done) | (go_simp; rfl)); intro gb120 hg w5 hbox hb; have BK120 := Z_ (hbox); have GW120 := Z_ ((by rw [hg]; exact (fZ_ HB.out) : w.heap.size ≤ gb120)); have GE120 := Z_ ((by rw [hg]; exact (fZ_ HB.out) : w.heap.size ≤ gb120)); replace HB := Z_ (fS_ HB.out hb); clear hb hbox hg) | ((with_reducible refine gate_callee (f := 111) rfl ?_); refine goesL_ (some 12) rfl rfl Try.func111 (by kernel_rfl) rfl #[.iface T gv] rfl (by (try simp only [mT_, mC_, mN_]); first | done | rfl | (simp only [lD_, lT_]; rfl)) ?_; (with_reducible refine (diffs_all.any k T gv a0_0 l0_1 t121 _ ?side1 A2.out).mono ?_); (case side1 => exact HG.out.below (by repeat (first | exact HB.out | apply fA_ | apply pB_ | apply fD_ | refine fE_ ?_ GE120.out))); rintro e w6 ⟨v122, rfl, ho0, hb⟩; refine ⟨_, rfl, ?_⟩; have HO123 := Z_ (rL_ ho0 (fZ_ HB.out)); replace BK120 := Z_ (bB_ (g := gb120) (o := .cells #[.slice none 0 0, .slice none 0 0, .slice none 0 0] 88 (0, 0)) BK120.out hb); replace HB := Z_ (fS_ HB.out hb); (try clear hb); (try clear hb2); (try clear hk); (try clear hi); (try clear ho0); obtain ⟨Ao7, co7, eo7⟩ := rS_ HO123.out; subst eo7) | ((with_reducible refine gate_callee (f := 82) rfl ?_); refine goesL_ (some 13) rfl rfl Try.func82 (by kernel_rfl) rfl #[.iface T gv, .slice Ao7 t121.length co7] rfl (by (try simp only [mT_, mC_, mN_]); first | done | rfl | (simp only [lD_, lT_]; rfl)) ?_; (with_reducible refine (diffs_grow.any k T gv a0_0 l0_1 _ _ t121 t124 t127 t130 t133 _ ?side1 ?side3 ?side4 A3.out).mono ?_); (case side1 => exact HG.out.below (by repeat (first | exact HB.out | apply fA_ | apply pB_ | apply fD_ | refine fE_ ?_ GE120.out))); (case side3 => repeat (first | exact (rR_ HO123.out).2.2 | (with_reducible refine Kd.C_alloc ?_ _) | (with_reducible refine Kd.C_drewN ?_ _) | (with_reducible refine Kd.C_drew ?_))); (case side4 => exact (rR_ HO123.out).2.1); rintro e w8 ⟨v125, v128, v131, rfl, ho0, ho1, ho2, hb⟩; refine ⟨_, rfl, ?_⟩; have HO126 := Z_ (rL_ (Kd.R_new' ho0 (Kd.R_lt HO123.out)) (fZ_ HB.out)); have HO129 := Z_ (rL_ ho1 (fZ_ HB.out)); have HO132 := Z_ (rL_ (Kd.R_new' ho2 (Kd.R_lt HO123.out)) (fZ_ HB.out)); replace HO123 := Z_ (rM_ (Kd.R_told (Kd.R_told (Kd.R_old HO123.out hb) (Kd.R_base ho0)) (Kd.R_base ho2)) (fun _ h_ => h_.1)); replace BK120 := Z_ (bB_ (g := gb120) (o := .cells #[.slice none 0 0, .slice none 0 0, .slice none 0 0] 88 (0, 0)) BK120.out hb); replace HB := Z_ (fS_ HB.out hb); (try clear hb); (try clear hb2); (try clear hk); (try clear hi); (try clear ho0); (try clear ho1); (try clear ho2)) | ((with_reducible refine gate_dst (N := 5) rfl ?_); refine box_event ?hg (N := 5) ?hd (cs := #[.slice none 0 0, .slice none 0 0, .slice none 0 0]) (t := 88) ?hr ?_; (case hd => rfl); (case hg => rfl); (case hr => first | (go_simp; done) | (go_simp; rfl)); intro gb134 hg w9 hbox hb; replace HO123 := Z_ (rB_ HO123.out hb); replace HO126 := Z_ (rB_ HO126.out hb); replace HO129 := Z_ (rB_ HO129.out hb); replace HO132 := Z_ (rB_ HO132.out hb); have BK134 := Z_ (hbox); have GW134 := Z_ ((by rw [hg]; exact (fZ_ HB.out) : w.heap.size ≤ gb134)); have GE134 := Z_ ((by rw [hg]; exact (fZ_ HB.out) : w.heap.size ≤ gb134)); replace HB := Z_ (fS_ HB.out hb); have NB120_134 := Z_ ((by rw [hg]; exact Nat.ne_of_lt (blk_lt (g := gb120) (o := .cells #[.slice none 0 0, .slice none 0 0, .slice none 0 0] 88 (0, 0)) BK120.out) : gb120 ≠ gb134)); have NB134_120 := Z_ ((by rw [hg]; exact Nat.ne_of_gt (blk_lt (g := gb120) (o := .cells #[.slice none 0 0, .slice none 0 0, .slice none 0 0] 88 (0, 0)) BK120.out) : gb134 ≠ gb120)); replace BK120 := Z_ (bB_ (g := gb120) (o := .cells #[.slice none 0 0, .slice none 0 0, .slice none 0 0] 88 (0, 0)) BK120.out hb); clear hb hbox hg; obtain ⟨Ao10, co10, eo10⟩ := rS_ HO126.out; subst eo10; have hnb11 := NB134_120.out; have hnc11 := NB120_134.out; have hcz12_0 : w9.cell? ⟨gb134, 0, none⟩ = some (.slice none 0 0) := (bC_ BK134.out 0).trans rfl; have hcz12_1 : w9.cell? ⟨gb134, 1, none⟩ = some (.slice none 0 0) := (bC_ BK134.out 1).trans rfl; have hcz12_2 : w9.cell? ⟨gb134, 2, none⟩ = some (.slice none 0 0) := (bC_ BK134.out 2).trans rfl; have hfz12_0 := bF_ BK134.out 0; have hfz12_1 := bF_ BK134.out 1; have hfz12_2 := bF_ BK134.out 2; obtain ⟨Ao13, co13, eo13⟩ := rS_ HO129.out; subst eo13; obtain ⟨Ao14, co14, eo14⟩ := rS_ HO132.out; subst eo14))
  have n0_ : Aside0 (Kd.R (Kd.int .i64) 3 (((w9.setCell ⟨gb134, 0, none⟩ (.slice Ao10 t124.length co10)).setCell ⟨gb134, 1, none⟩ (.slice Ao13 t127.length co13)).setCell ⟨gb134, 2, none⟩ (.slice Ao14 t130.length co14)) w.heap.size (fun k_ => some k_ ≠ (.slice Ao10 t124.length co10 : Value).ownBlock ∧ some k_ ≠ (.slice Ao14 t130.length co14 : Value).ownBlock) (.slice Ao7 t121.length co7) t121) := ⟨by (with_reducible repeat (first | apply rN_ | apply rD_)); exact rM_ (rF_ (p := ⟨gb134, 2, none⟩) (rF_ (p := ⟨gb134, 1, none⟩) (rF_ (p := ⟨gb134, 0, none⟩) (Kd.R_types HO123.out BK134.out (by decide)) (fun _ hk => hk.2) (.slice Ao10 t124.length co10)) (fun _ hk => hk.2) (.slice Ao13 t127.length co13)) (fun _ hk => hk.2) (.slice Ao14 t130.length co14)) (fun _ hk => ⟨hk.1.1.2, hk.1.2⟩)⟩; have n1_ : Aside0 (Kd.R (Kd.int .i64) 3 (((w9.setCell ⟨gb134, 0, none⟩ (.slice Ao10 t124.length co10)).setCell ⟨gb134, 1, none⟩ (.slice Ao13 t127.length co13)).setCell ⟨gb134, 2, none⟩ (.slice Ao14 t130.length co14)) w.heap.size (fun k_ => some k_ ≠ (.slice Ao7 t121.length co7 : Value).ownBlock ∧ some k_ ≠ (.slice Ao14 t130.length co14 : Value).ownBlock) (.slice Ao10 t124.length co10) t124) := ⟨by (with_reducible repeat (first | apply rN_ | apply rD_)); exact rM_ (rF_ (p := ⟨gb134, 2, none⟩) (rF_ (p := ⟨gb134, 1, none⟩) (rF_ (p := ⟨gb134, 0, none⟩) (Kd.R_types HO126.out BK134.out (by decide)) (fun _ hk => hk.2) (.slice Ao10 t124.length co10)) (fun _ hk => hk.2) (.slice Ao13 t127.length co13)) (fun _ hk => hk.2) (.slice Ao14 t130.length co14)) (fun _ hk => ⟨hk.1.2, hk.1.1⟩)⟩; have n2_ : Aside0 (Kd.R Kd.bool 4 (((w9.setCell ⟨gb134, 0, none⟩ (.slice Ao10 t124.length co10)).setCell ⟨gb134, 1, none⟩ (.slice Ao13 t127.length co13)).setCell ⟨gb134, 2, none⟩ (.slice Ao14 t130.length co14)) w.heap.size (fun _ => True) (.slice Ao13 t127.length co13) t127) := ⟨by (with_reducible repeat (first | apply rN_ | apply rD_)); exact rM_ (rF_ (p := ⟨gb134, 2, none⟩) (rF_ (p := ⟨gb134, 1, none⟩) (rF_ (p := ⟨gb134, 0, none⟩) (Kd.R_types HO129.out BK134.out (by decide)) (fun _ hk => hk.2) (.slice Ao10 t124.length co10)) (fun _ hk => hk.2) (.slice Ao13 t127.length co13)) (fun _ hk => hk.2) (.slice Ao14 t130.length co14)) (fun _ hk => trivial)⟩; have n3_ : Aside0 (Kd.R (Kd.int .i64) 3 (((w9.setCell ⟨gb134, 0, none⟩ (.slice Ao10 t124.length co10)).setCell ⟨gb134, 1, none⟩ (.slice Ao13 t127.length co13)).setCell ⟨gb134, 2, none⟩ (.slice Ao14 t130.length co14)) w.heap.size (fun k_ => some k_ ≠ (.slice Ao7 t121.length co7 : Value).ownBlock ∧ some k_ ≠ (.slice Ao10 t124.length co10 : Value).ownBlock) (.slice Ao14 t130.length co14) t130) := ⟨by (with_reducible repeat (first | apply rN_ | apply rD_)); exact rM_ (rF_ (p := ⟨gb134, 2, none⟩) (rF_ (p := ⟨gb134, 1, none⟩) (rF_ (p := ⟨gb134, 0, none⟩) (Kd.R_types HO132.out BK134.out (by decide)) (fun _ hk => hk.2) (.slice Ao10 t124.length co10)) (fun _ hk => hk.2) (.slice Ao13 t127.length co13)) (fun _ hk => hk.2) (.slice Ao14 t130.length co14)) (fun _ hk => ⟨hk.1.2, hk.1.1⟩)⟩; have n4_ : Aside0 ((((w9.setCell ⟨gb134, 0, none⟩ (.slice Ao10 t124.length co10)).setCell ⟨gb134, 1, none⟩ (.slice Ao13 t127.length co13)).setCell ⟨gb134, 2, none⟩ (.slice Ao14 t130.length co14)).heap[gb120]? = some (.cells #[.slice none 0 0, .slice none 0 0, .slice none 0 0] 88 (0, 0))) := ⟨by (with_reducible repeat (first | refine bN_ ?_ _ | refine bD_ ?_)); refine blk_far ?_ NB120_134.out _; (with_reducible repeat (first | refine bN_ ?_ _ | refine bD_ ?_)); refine blk_far ?_ NB120_134.out _; (with_reducible repeat (first | refine bN_ ?_ _ | refine bD_ ?_)); refine blk_far ?_ NB120_134.out _; (with_reducible repeat (first | refine bN_ ?_ _ | refine bD_ ?_)); exact BK120.out⟩; have n5_ : Aside0 ((((w9.setCell ⟨gb134, 0, none⟩ (.slice Ao10 t124.length co10)).setCell ⟨gb134, 1, none⟩ (.slice Ao13 t127.length co13)).setCell ⟨gb134, 2, none⟩ (.slice Ao14 t130.length co14)).heap[gb134]? = some (.cells #[.slice Ao10 t124.length co10, .slice Ao13 t127.length co13, .slice Ao14 t130.length co14] 88 (0, 0))) := ⟨by (with_reducible repeat (first | refine bN_ ?_ _ | refine bD_ ?_)); refine blk_put (cs := #[.slice Ao10 t124.length co10, .slice Ao13 t127.length co13, .slice none 0 0]) ?_ 2 _ rfl; (with_reducible repeat (first | refine bN_ ?_ _ | refine bD_ ?_)); refine blk_put (cs := #[.slice Ao10 t124.length co10, .slice none 0 0, .slice none 0 0]) ?_ 1 _ rfl; (with_reducible repeat (first | refine bN_ ?_ _ | refine bD_ ?_)); refine blk_put (cs := #[.slice none 0 0, .slice none 0 0, .slice none 0 0]) ?_ 0 _ rfl; (with_reducible repeat (first | refine bN_ ?_ _ | refine bD_ ?_)); exact BK134.out⟩; have n6_ : Aside0 (Below w.heap.size w (((w9.setCell ⟨gb134, 0, none⟩ (.slice Ao10 t124.length co10)).setCell ⟨gb134, 1, none⟩ (.slice Ao13 t127.length co13)).setCell ⟨gb134, 2, none⟩ (.slice Ao14 t130.length co14))) := ⟨by repeat (first | (with_reducible first | exact HB.out | apply fA_ | apply pB_ | apply fD_ | refine fE_ ?_ GE120.out | refine fE_ ?_ GE134.out) | exact HB.out)⟩; (try clear HO123)
  (try clear HO126)
  (try clear HO129)
  (try clear HO132)
  (try clear BK120)
  (try clear BK134)
  (try clear HB)
  generalize (((w9.setCell ⟨gb134, 0, none⟩ (.slice Ao10 t124.length co10)).setCell ⟨gb134, 1, none⟩ (.slice Ao13 t127.length co13)).setCell ⟨gb134, 2, none⟩ (.slice Ao14 t130.length co14)) = w15 at n0_ n1_ n2_ n3_ n4_ n5_ n6_ ⊢; have HO123 := n0_; have HO126 := n1_; have HO129 := n2_; have HO132 := n3_; have BK120 := n4_; have BK134 := n5_; have HB := n6_; clear n0_ n1_ n2_ n3_ n4_ n5_ n6_; replace HO123 := Z_ (rD_ HO123.out); replace HO126 := Z_ (rD_ HO126.out); replace HO129 := Z_ (rD_ HO129.out); replace HO132 := Z_ (rD_ HO132.out); replace BK120 := Z_ (bD_ BK120.out); replace BK134 := Z_ (bD_ BK134.out); replace HB := Z_ (fD_ HB.out); refine start_ (n := 5) (S := fun w' => w'.cell? ⟨gb134, 0, none⟩ = some (.slice Ao10 t124.length co10) ∧ w'.cell? ⟨gb134, 1, none⟩ = some (.slice Ao13 t127.length co13) ∧ w'.cell? ⟨gb134, 2, none⟩ = some (.slice Ao14 t130.length co14)) (ds := []) #[false, false, false, false, false] (by kernel_rfl) rfl rfl ⟨(bC_ BK134.out 0).trans rfl, (bC_ BK134.out 1).trans rfl, (bC_ BK134.out 2).trans rfl⟩ (fun hHeld => ?_); generalize w15.drew = w16 at HO123 HO126 HO129 HO132 BK120 BK134 HB hHeld ⊢; refine pure_ (i := 1) (N := some 19) (v := ?_) (a' := ?_) #[false, true, false, false, false] rfl rfl (by kernel_rfl) (fun _ _ _ h => h) (Or.inl ⟨by rfl, ?_⟩) ?_ ?_; rotate_left; ·intro w'; go_simp; with_reducible rfl
  rotate_left; ·simp only [Act.put, sT_, sZ_, sS_, i64_w]; rfl
  refine pure_ (i := 2) (N := some 2) (v := ?_) (a' := ?_) #[false, true, true, false, false] rfl rfl (by kernel_rfl) (fun _ _ _ h => h) (Or.inl ⟨by rfl, ?_⟩) ?_ ?_; rotate_left; ·intro w'; go_simp; with_reducible rfl
  rotate_left; ·simp only [Act.put, sT_, sZ_, sS_, i64_w]; rfl
  refine take_ (i := 0) (N := some 18) (v := ?_) (a' := ?_) #[true, true, true, false, false] rfl rfl (by kernel_rfl) (fun _ _ _ h => h) (Or.inl ⟨by rfl, ?_⟩) hHeld ?_ ?_; rotate_left; ·rintro w' ⟨s0, s1, s2⟩; go_simp; with_reducible rfl
  rotate_left; ·simp only [Act.put, sT_, sZ_, sS_, i64_w]; rfl
  refine one_ (i := 3) (N := none) #[true, true, true, true, false] rfl rfl (by kernel_rfl) (by decide) (fun K hK => ?_); have hs17 : w16.cell? ⟨gb120, 0, none⟩ = some (.slice none 0 0) := (bC_ BK120.out 0).trans rfl; have hfs17 := bF_ BK120.out 0; have hns17_1 := NB134_120.out; have hms17_1 := NB120_134.out; have hs18 : w16.cell? ⟨gb120, 1, none⟩ = some (.slice none 0 0) := (bC_ BK120.out 1).trans rfl; have hfs18 := bF_ BK120.out 1; have hns18_1 := NB134_120.out; have hms18_1 := NB120_134.out; have hs19 : w16.cell? ⟨gb120, 2, none⟩ = some (.slice none 0 0) := (bC_ BK120.out 2).trans rfl; have hfs19 := bF_ BK120.out 2; have hns19_1 := NB134_120.out; have hms19_1 := NB120_134.out; refine skip_ (w1 := ?_) (by rfl) rfl ?_ ?_; rotate_left
  ·go_simp
   rfl
  refine hK.out _ _ ⟨((cell_far (p := ⟨gb120, _, none⟩) NB134_120.out _).trans (((cell_far (p := ⟨gb120, _, none⟩) NB134_120.out _).trans (((cell_far (p := ⟨gb120, _, none⟩) NB134_120.out _).trans (hHeld.1)))))), ((cell_far (p := ⟨gb120, _, none⟩) NB134_120.out _).trans (((cell_far (p := ⟨gb120, _, none⟩) NB134_120.out _).trans (((cell_far (p := ⟨gb120, _, none⟩) NB134_120.out _).trans (hHeld.2.1)))))), ((cell_far (p := ⟨gb120, _, none⟩) NB134_120.out _).trans (((cell_far (p := ⟨gb120, _, none⟩) NB134_120.out _).trans (((cell_far (p := ⟨gb120, _, none⟩) NB134_120.out _).trans (hHeld.2.2))))))⟩ (fun hHeld => ?_); clear hK K; refine pure_ (i := 4) (N := some 4) (v := ?_) (a' := ?_) #[true, true, true, true, true] rfl rfl (by kernel_rfl) (fun _ _ _ h => h) (Or.inl ⟨by rfl, ?_⟩) ?_ ?_; rotate_left; ·intro w'; go_simp; with_reducible rfl
  rotate_left; ·simp only [Act.put, sT_, sZ_, sS_, i64_w]; rfl
  refine done_ (by kernel_rfl) ?_; try go_wp2
  refine bodyPost_ret (results_list (rs := [.tmp 2, .cell 3 88, .tmp 4]) rfl (by simp) (.tmp (.cell gb120 88 #[.slice Ao10 t124.length co10, .slice Ao13 t127.length co13, .slice Ao14 t130.length co14] (0, 0) _ rfl (by (with_reducible repeat (first | refine bN_ ?_ _ | refine bD_ ?_)); refine blk_put (cs := #[.slice Ao10 t124.length co10, .slice Ao13 t127.length co13, .slice none 0 0]) ?_ 2 _ rfl; (with_reducible repeat (first | refine bN_ ?_ _ | refine bD_ ?_)); refine blk_put (cs := #[.slice Ao10 t124.length co10, .slice none 0 0, .slice none 0 0]) ?_ 1 _ rfl; (with_reducible repeat (first | refine bN_ ?_ _ | refine bD_ ?_)); refine blk_put (cs := #[.slice none 0 0, .slice none 0 0, .slice none 0 0]) ?_ 0 _ rfl; (with_reducible repeat (first | refine bN_ ?_ _ | refine bD_ ?_)); exact BK120.out) Try.underlying88 rfl (by kernel_rfl) (.tmp .nil)))) rfl ?_; exact ⟨_, _, _, _, by first | rfl | (simp [errW_none, errW_some] <;> rfl) | (simp [*, errW_none, errW_some] <;> rfl), by first | exact Kd.R_nil _ _ _ _ _ | exact Kd.N_nil _ _ _ _ _ | exact Kd.V_nil _ _ _ _ _ | exact Kd.Q_nil _ _ _ _ _ | exact Kd.S_nil _ _ _ _ _, by (with_reducible repeat (first | apply rN_ | apply rD_)); exact rM_ (rF_ (p := ⟨gb120, 2, none⟩) (rF_ (p := ⟨gb120, 1, none⟩) (rF_ (p := ⟨gb120, 0, none⟩) (Kd.R_types HO126.out BK120.out (by decide)) (fun _ hk => hk.2) (.slice Ao10 t124.length co10)) (fun _ hk => hk.2) (.slice Ao13 t127.length co13)) (fun _ hk => hk.2) (.slice Ao14 t130.length co14)) (fun _ hk => ⟨(by simp [Value.ownBlock]), hk.1.2⟩), by (with_reducible repeat (first | apply rN_ | apply rD_)); exact rM_ (rF_ (p := ⟨gb120, 2, none⟩) (rF_ (p := ⟨gb120, 1, none⟩) (rF_ (p := ⟨gb120, 0, none⟩) (Kd.R_types HO129.out BK120.out (by decide)) (fun _ hk => hk.2) (.slice Ao10 t124.length co10)) (fun _ hk => hk.2) (.slice Ao13 t127.length co13)) (fun _ hk => hk.2) (.slice Ao14 t130.length co14)) (fun _ hk => trivial), by (with_reducible repeat (first | apply rN_ | apply rD_)); exact rM_ (rF_ (p := ⟨gb120, 2, none⟩) (rF_ (p := ⟨gb120, 1, none⟩) (rF_ (p := ⟨gb120, 0, none⟩) (Kd.R_types HO132.out BK120.out (by decide)) (fun _ hk => hk.2) (.slice Ao10 t124.length co10)) (fun _ hk => hk.2) (.slice Ao13 t127.length co13)) (fun _ hk => hk.2) (.slice Ao14 t130.length co14)) (fun _ hk => ⟨(by simp [Value.ownBlock]), hk.1.2⟩), by repeat (first | (with_reducible first | exact HB.out | apply fA_ | apply pB_ | apply fD_ | refine fE_ ?_ GE120.out | refine fE_ ?_ GE134.out) | exact HB.out)⟩
 rw [if_neg c4] at H; have c4b0 : decide (0 ≤ t133) = false := eF_ c4; clear c4; replace H := oS_.mp H; obtain ⟨t135, A200, H⟩ := H; replace H : (diffs_solve.l0 k t135 (t135.length : Int) 0 t124 t127 t130) = some (r1, r2, r3, r4, r5) := H; have A20 := Z_ A200; clear A200; have H' := Z_ H; clear H; go_enter Try.func81, Try.ntmps81; go_wp2_with (first | ((with_reducible refine gate_dst (N := 3) rfl ?_); refine box_event ?hg (N := 3) ?hd (cs := #[.slice none 0 0, .slice none 0 0, .slice none 0 0]) (t := 88) ?hr ?_; (case hd => rfl); (case hg => rfl); (case hr => first | (go_simp; done) | (go_simp; rfl)); intro gb120 hg w21 hbox hb; have BK120 := Z_ (hbox); have GW120 := Z_ ((by rw [hg]; exact (fZ_ (by repeat (first | (with_reducible first | exact HB.out | apply fA_ | apply pB_ | apply fD_) | exact HB.out))) : w.heap.size ≤ gb120)); have GE120 := Z_ ((by rw [hg]; exact (fZ_ (by repeat (first | (with_reducible first | exact HB.out | apply fA_ | apply pB_ | apply fD_) | exact HB.out))) : w.heap.size ≤ gb120)); replace HB := Z_ (fS_ (by repeat (first | (with_reducible first | exact HB.out | apply fA_ | apply pB_ | apply fD_) | exact HB.out)) hb); clear hb hbox hg) | ((with_reducible refine gate_callee (f := 111) rfl ?_); refine goesL_ (some 12) rfl rfl Try.func111 (by kernel_rfl) rfl #[.iface T gv] rfl (by (try simp only [mT_, mC_, mN_]); first | done | rfl | (simp only [lD_, lT_]; rfl)) ?_; (with_reducible refine (diffs_all.any k T gv a0_0 l0_1 t121 _ ?side1 A2.out).mono ?_); (case side1 => exact HG.out.below (by repeat (first | exact HB.out | apply fA_ | apply pB_ | apply fD_ | refine fE_ ?_ GE120.out))); rintro e w22 ⟨v122, rfl, ho0, hb⟩; refine ⟨_, rfl, ?_⟩; have HO123 := Z_ (rL_ ho0 (fZ_ (by repeat (first | (with_reducible first | exact HB.out | apply fA_ | apply pB_ | apply fD_ | refine fE_ ?_ GE120.out) | exact HB.out)))); replace BK120 := Z_ (bB_ (g := gb120) (o := .cells #[.slice none 0 0, .slice none 0 0, .slice none 0 0] 88 (0, 0)) (by (with_reducible repeat (first | refine bN_ ?_ _ | refine bD_ ?_)); exact BK120.out) hb); replace HB := Z_ (fS_ (by repeat (first | (with_reducible first | exact HB.out | apply fA_ | apply pB_ | apply fD_ | refine fE_ ?_ GE120.out) | exact HB.out)) hb); (try clear hb); (try clear hb2); (try clear hk); (try clear hi); (try clear ho0); obtain ⟨Ao23, co23, eo23⟩ := rS_ HO123.out; subst eo23) | ((with_reducible refine gate_callee (f := 82) rfl ?_); refine goesL_ (some 13) rfl rfl Try.func82 (by kernel_rfl) rfl #[.iface T gv, .slice Ao23 t121.length co23] rfl (by (try simp only [mT_, mC_, mN_]); first | done | rfl | (simp only [lD_, lT_]; rfl)) ?_; (with_reducible refine (diffs_grow.any k T gv a0_0 l0_1 _ _ t121 t124 t127 t130 t133 _ ?side1 ?side3 ?side4 A3.out).mono ?_); (case side1 => exact HG.out.below (by repeat (first | exact HB.out | apply fA_ | apply pB_ | apply fD_ | refine fE_ ?_ GE120.out))); (case side3 => repeat (first | exact (rR_ HO123.out).2.2 | (with_reducible refine Kd.C_alloc ?_ _) | (with_reducible refine Kd.C_drewN ?_ _) | (with_reducible refine Kd.C_drew ?_))); (case side4 => exact (rR_ HO123.out).2.1); rintro e w24 ⟨v125, v128, v131, rfl, ho0, ho1, ho2, hb⟩; refine ⟨_, rfl, ?_⟩; have HO126 := Z_ (rL_ (Kd.R_new' ho0 (Kd.R_lt (by (with_reducible repeat (first | apply rN_ | apply rD_)); exact HO123.out))) (fZ_ (by repeat (first | (with_reducible first | exact HB.out | apply fA_ | apply pB_ | apply fD_ | refine fE_ ?_ GE120.out) | exact HB.out)))); have HO129 := Z_ (rL_ ho1 (fZ_ (by repeat (first | (with_reducible first | exact HB.out | apply fA_ | apply pB_ | apply fD_ | refine fE_ ?_ GE120.out) | exact HB.out)))); have HO132 := Z_ (rL_ (Kd.R_new' ho2 (Kd.R_lt (by (with_reducible repeat (first | apply rN_ | apply rD_)); exact HO123.out))) (fZ_ (by repeat (first | (with_reducible first | exact HB.out | apply fA_ | apply pB_ | apply fD_ | refine fE_ ?_ GE120.out) | exact HB.out)))); replace HO123 := Z_ (rM_ (Kd.R_told (Kd.R_told (Kd.R_old (by (with_reducible repeat (first | apply rN_ | apply rD_)); exact HO123.out) hb) (Kd.R_base ho0)) (Kd.R_base ho2)) (fun _ h_ => h_.1)); replace BK120 := Z_ (bB_ (g := gb120) (o := .cells #[.slice none 0 0, .slice none 0 0, .slice none 0 0] 88 (0, 0)) (by (with_reducible repeat (first | refine bN_ ?_ _ | refine bD_ ?_)); exact BK120.out) hb); replace HB := Z_ (fS_ (by repeat (first | (with_reducible first | exact HB.out | apply fA_ | apply pB_ | apply fD_ | refine fE_ ?_ GE120.out) | exact HB.out)) hb); (try clear hb); (try clear hb2); (try clear hk); (try clear hi); (try clear ho0); (try clear ho1); (try clear ho2)) | ((with_reducible refine gate_dst (N := 5) rfl ?_); refine box_event ?hg (N := 5) ?hd (cs := #[.slice none 0 0, .slice none 0 0, .slice none 0 0]) (t := 88) ?hr ?_; (case hd => rfl); (case hg => rfl); (case hr => first | (go_simp; done) | (go_simp; rfl)); intro gb134 hg w25 hbox hb; replace HO123 := Z_ (rB_ (by (with_reducible repeat (first | apply rN_ | apply rD_)); exact HO123.out) hb); replace HO126 := Z_ (rB_ (by (with_reducible repeat (first | apply rN_ | apply rD_)); exact HO126.out) hb); replace HO129 := Z_ (rB_ (by (with_reducible repeat (first | apply rN_ | apply rD_)); exact HO129.out) hb); replace HO132 := Z_ (rB_ (by (with_reducible repeat (first | apply rN_ | apply rD_)); exact HO132.out) hb); have BK134 := Z_ (hbox); have GW134 := Z_ ((by rw [hg]; exact (fZ_ (by repeat (first | (with_reducible first | exact HB.out | apply fA_ | apply pB_ | apply fD_ | refine fE_ ?_ GE120.out) | exact HB.out))) : w.heap.size ≤ gb134)); have GE134 := Z_ ((by rw [hg]; exact (fZ_ (by repeat (first | (with_reducible first | exact HB.out | apply fA_ | apply pB_ | apply fD_ | refine fE_ ?_ GE120.out) | exact HB.out))) : w.heap.size ≤ gb134)); replace HB := Z_ (fS_ (by repeat (first | (with_reducible first | exact HB.out | apply fA_ | apply pB_ | apply fD_ | refine fE_ ?_ GE120.out) | exact HB.out)) hb); have NB120_134 := Z_ ((by rw [hg]; exact Nat.ne_of_lt (blk_lt (g := gb120) (o := .cells #[.slice none 0 0, .slice none 0 0, .slice none 0 0] 88 (0, 0)) (by (with_reducible repeat (first | refine bN_ ?_ _ | refine bD_ ?_)); exact BK120.out)) : gb120 ≠ gb134)); have NB134_120 := Z_ ((by rw [hg]; exact Nat.ne_of_gt (blk_lt (g := gb120) (o := .cells #[.slice none 0 0, .slice none 0 0, .slice none 0 0] 88 (0, 0)) (by (with_reducible repeat (first | refine bN_ ?_ _ | refine bD_ ?_)); exact BK120.out)) : gb134 ≠ gb120)); replace BK120 := Z_ (bB_ (g := gb120) (o := .cells #[.slice none 0 0, .slice none 0 0, .slice none 0 0] 88 (0, 0)) (by (with_reducible repeat (first | refine bN_ ?_ _ | refine bD_ ?_)); exact BK120.out) hb); clear hb hbox hg; obtain ⟨Ao26, co26, eo26⟩ := rS_ HO126.out; subst eo26; have hnb27 := NB134_120.out; have hnc27 := NB120_134.out; have hcz28_0 : w25.cell? ⟨gb134, 0, none⟩ = some (.slice none 0 0) := (bC_ BK134.out 0).trans rfl; have hcz28_1 : w25.cell? ⟨gb134, 1, none⟩ = some (.slice none 0 0) := (bC_ BK134.out 1).trans rfl; have hcz28_2 : w25.cell? ⟨gb134, 2, none⟩ = some (.slice none 0 0) := (bC_ BK134.out 2).trans rfl; have hfz28_0 := bF_ BK134.out 0; have hfz28_1 := bF_ BK134.out 1; have hfz28_2 := bF_ BK134.out 2; obtain ⟨Ao29, co29, eo29⟩ := rS_ HO129.out; subst eo29; obtain ⟨Ao30, co30, eo30⟩ := rS_ HO132.out; subst eo30) | ((with_reducible refine gate_callee (f := 99) rfl ?_); refine goesL_ (some 22) rfl rfl Try.func99 (by kernel_rfl) rfl #[.slice Ao26 t124.length co26] rfl (by (try simp only [mT_, mC_, mN_]); first | done | rfl | (simp only [lD_, lT_]; rfl)) ?_; (with_reducible refine (slices_Clone_int_int.calls _ _ t124 t135 _ ?side1 ?side2 A20.out).mono ?_); (case side1 => refine (rR_ (e := 3) (base := w.heap.size) (ok := fun k_ => (some k_ ≠ (.slice Ao30 t130.length co30 : Value).ownBlock ∧ some k_ ≠ (.slice Ao23 t121.length co23 : Value).ownBlock)) (n := t124.length) (c := co26) ?_).2.2; exact (by (with_reducible repeat (first | apply rN_ | apply rD_)); exact (rM_ (rF_ (p := ⟨gb134, 2, none⟩) (rF_ (p := ⟨gb134, 1, none⟩) (rF_ (p := ⟨gb134, 0, none⟩) (Kd.R_types HO126.out BK134.out (by decide)) (fun _ hk => hk.2) (.slice Ao26 t124.length co26)) (fun _ hk => hk.2) (.slice Ao29 t127.length co29)) (fun _ hk => hk.2) (.slice Ao30 t130.length co30)) (fun _ h_ => h_.1)))); (case side2 => exact (rR_ HO126.out).2.1); rintro e w31 ⟨v136, rfl, ho0, hb⟩; refine ⟨_, rfl, ?_⟩; replace HO129 := Z_ (rB_ (by (with_reducible repeat (first | apply rN_ | apply rD_)); exact (rM_ (rF_ (p := ⟨gb134, 2, none⟩) (rF_ (p := ⟨gb134, 1, none⟩) (rF_ (p := ⟨gb134, 0, none⟩) (Kd.R_types HO129.out BK134.out (by decide)) (fun _ hk => hk.2) (.slice Ao26 t124.length co26)) (fun _ hk => hk.2) (.slice Ao29 t127.length co29)) (fun _ hk => hk.2) (.slice Ao30 t130.length co30)) (fun _ h_ => h_.1))) hb); have HO137 := Z_ (rL_ (Kd.R_new' (Kd.R_new' (Kd.R_new' ho0 (Kd.R_lt (by (with_reducible repeat (first | apply rN_ | apply rD_)); exact (rM_ (rF_ (p := ⟨gb134, 2, none⟩) (rF_ (p := ⟨gb134, 1, none⟩) (rF_ (p := ⟨gb134, 0, none⟩) (Kd.R_types HO123.out BK134.out (by decide)) (fun _ hk => hk.2) (.slice Ao26 t124.length co26)) (fun _ hk => hk.2) (.slice Ao29 t127.length co29)) (fun _ hk => hk.2) (.slice Ao30 t130.length co30)) (fun _ h_ => h_.1))))) (Kd.R_lt (by (with_reducible repeat (first | apply rN_ | apply rD_)); exact (rM_ (rF_ (p := ⟨gb134, 2, none⟩) (rF_ (p := ⟨gb134, 1, none⟩) (rF_ (p := ⟨gb134, 0, none⟩) (Kd.R_types HO126.out BK134.out (by decide)) (fun _ hk => hk.2) (.slice Ao26 t124.length co26)) (fun _ hk => hk.2) (.slice Ao29 t127.length co29)) (fun _ hk => hk.2) (.slice Ao30 t130.length co30)) (fun _ h_ => h_.1))))) (Kd.R_lt (by (with_reducible repeat (first | apply rN_ | apply rD_)); exact (rM_ (rF_ (p := ⟨gb134, 2, none⟩) (rF_ (p := ⟨gb134, 1, none⟩) (rF_ (p := ⟨gb134, 0, none⟩) (Kd.R_types HO132.out BK134.out (by decide)) (fun _ hk => hk.2) (.slice Ao26 t124.length co26)) (fun _ hk => hk.2) (.slice Ao29 t127.length co29)) (fun _ hk => hk.2) (.slice Ao30 t130.length co30)) (fun _ h_ => h_.1))))) (fZ_ (by repeat (first | (with_reducible first | exact HB.out | apply fA_ | apply pB_ | apply fD_ | refine fE_ ?_ GE120.out | refine fE_ ?_ GE134.out) | exact HB.out)))); replace HO123 := Z_ (Kd.R_elder' (by (with_reducible repeat (first | apply rN_ | apply rD_)); exact (rM_ (rF_ (p := ⟨gb134, 2, none⟩) (rF_ (p := ⟨gb134, 1, none⟩) (rF_ (p := ⟨gb134, 0, none⟩) (Kd.R_types HO123.out BK134.out (by decide)) (fun _ hk => hk.2) (.slice Ao26 t124.length co26)) (fun _ hk => hk.2) (.slice Ao29 t127.length co29)) (fun _ hk => hk.2) (.slice Ao30 t130.length co30)) (fun _ h_ => h_.1))) (Kd.R_base ho0) hb); replace HO126 := Z_ (Kd.R_elder' (by (with_reducible repeat (first | apply rN_ | apply rD_)); exact (rM_ (rF_ (p := ⟨gb134, 2, none⟩) (rF_ (p := ⟨gb134, 1, none⟩) (rF_ (p := ⟨gb134, 0, none⟩) (Kd.R_types HO126.out BK134.out (by decide)) (fun _ hk => hk.2) (.slice Ao26 t124.length co26)) (fun _ hk => hk.2) (.slice Ao29 t127.length co29)) (fun _ hk => hk.2) (.slice Ao30 t130.length co30)) (fun _ h_ => h_.1))) (Kd.R_base ho0) hb); replace HO132 := Z_ (Kd.R_elder' (by (with_reducible repeat (first | apply rN_ | apply rD_)); exact (rM_ (rF_ (p := ⟨gb134, 2, none⟩) (rF_ (p := ⟨gb134, 1, none⟩) (rF_ (p := ⟨gb134, 0, none⟩) (Kd.R_types HO132.out BK134.out (by decide)) (fun _ hk => hk.2) (.slice Ao26 t124.length co26)) (fun _ hk => hk.2) (.slice Ao29 t127.length co29)) (fun _ hk => hk.2) (.slice Ao30 t130.length co30)) (fun _ h_ => h_.1))) (Kd.R_base ho0) hb); replace BK120 := Z_ (bB_ (g := gb120) (o := .cells #[.slice none 0 0, .slice none 0 0, .slice none 0 0] 88 (0, 0)) (by (with_reducible repeat (first | refine bN_ ?_ _ | refine bD_ ?_)); refine blk_far ?_ NB120_134.out _; (with_reducible repeat (first | refine bN_ ?_ _ | refine bD_ ?_)); refine blk_far ?_ NB120_134.out _; (with_reducible repeat (first | refine bN_ ?_ _ | refine bD_ ?_)); refine blk_far ?_ NB120_134.out _; (with_reducible repeat (first | refine bN_ ?_ _ | refine bD_ ?_)); exact BK120.out) hb); replace BK134 := Z_ (bB_ (g := gb134) (o := .cells #[.slice Ao26 t124.length co26, .slice Ao29 t127.length co29, .slice Ao30 t130.length co30] 88 (0, 0)) (by (with_reducible repeat (first | refine bN_ ?_ _ | refine bD_ ?_)); refine blk_put (cs := #[.slice Ao26 t124.length co26, .slice Ao29 t127.length co29, .slice none 0 0]) ?_ 2 _ rfl; (with_reducible repeat (first | refine bN_ ?_ _ | refine bD_ ?_)); refine blk_put (cs := #[.slice Ao26 t124.length co26, .slice none 0 0, .slice none 0 0]) ?_ 1 _ rfl; (with_reducible repeat (first | refine bN_ ?_ _ | refine bD_ ?_)); refine blk_put (cs := #[.slice none 0 0, .slice none 0 0, .slice none 0 0]) ?_ 0 _ rfl; (with_reducible repeat (first | refine bN_ ?_ _ | refine bD_ ?_)); exact BK134.out) hb); replace HB := Z_ (fS_ (by repeat (first | (with_reducible first | exact HB.out | apply fA_ | apply pB_ | apply fD_ | refine fE_ ?_ GE120.out | refine fE_ ?_ GE134.out) | exact HB.out)) hb); (try clear hb); (try clear hb2); (try clear hk); (try clear hi); (try clear ho0); obtain ⟨Ao32, co32, eo32⟩ := rS_ HO137.out; subst eo32)); go_loopg [25] k (fun kq v25 w' => ∃ (x7_1 : List Int) (x25_1 : Int), v25 = .int .i64 x25_1 ∧ Aside0 (diffs_solve.l0 kq x7_1 (t135.length : Int) x25_1 t124 t127 t130 = some (r1, r2, r3, r4, r5)) ∧ Aside0 (kq ≤ k) ∧ Aside0 (Kd.R (Kd.int .i64) 3 w' w.heap.size (fun k_ => some k_ ≠ ((.slice Ao26 t124.length co26) : Value).ownBlock ∧ some k_ ≠ ((.slice Ao30 t130.length co30) : Value).ownBlock) (.slice Ao32 t135.length co32) x7_1) ∧ Aside0 (Kd.R (Kd.int .i64) 3 w' w.heap.size (fun k_ => some k_ ≠ ((.slice Ao32 t135.length co32) : Value).ownBlock ∧ some k_ ≠ ((.slice Ao30 t130.length co30) : Value).ownBlock) (.slice Ao26 t124.length co26) t124) ∧ Aside0 (Kd.R Kd.bool 4 w' w.heap.size (fun _ => True) (.slice Ao29 t127.length co29) t127) ∧ Aside0 (Kd.R (Kd.int .i64) 3 w' w.heap.size (fun k_ => some k_ ≠ ((.slice Ao32 t135.length co32) : Value).ownBlock ∧ some k_ ≠ ((.slice Ao26 t124.length co26) : Value).ownBlock) (.slice Ao30 t130.length co30) t130) ∧ Aside0 (w'.heap[gb120]? = some (.cells #[(.slice none 0 0), (.slice none 0 0), (.slice none 0 0)] 88 (0, 0))) ∧ Aside0 (w'.heap[gb134]? = some (.cells #[(.slice Ao26 t124.length co26), (.slice Ao29 t127.length co29), (.slice Ao30 t130.length co30)] 88 (0, 0))) ∧ Aside0 (Below w.heap.size w w'))
 case atStart => exact ⟨(t135), (0), (by first | rfl | (simp; done) | (simp [*]; done)), H', ⟨nR_ _⟩, ⟨by (with_reducible repeat (first | apply rN_ | apply rD_)); exact rM_ HO137.out (fun _ hk => ⟨hk.1.2, hk.2⟩)⟩, ⟨by (with_reducible repeat (first | apply rN_ | apply rD_)); exact rM_ HO126.out (fun _ hk => ⟨hk.2, hk.1.1⟩)⟩, ⟨HO129.out⟩, ⟨by (with_reducible repeat (first | apply rN_ | apply rD_)); exact rM_ HO132.out (fun _ hk => ⟨hk.2, hk.1.1⟩)⟩, ⟨BK120.out⟩, ⟨BK134.out⟩, ⟨HB.out⟩⟩
 case round =>
  clear H'; (try clear c1); (try clear c2); (try clear p2); (try clear c4); (try clear c4b0); (try clear c8); (try clear c9); (try clear c11); (try clear c27); (try clear hcz12_0); (try clear hcz12_1); (try clear hcz12_2); (try clear hcz28_0); (try clear hcz28_1); (try clear hcz28_2); (try clear hfz12_0); (try clear hfz12_1); (try clear hfz12_2); (try clear hfz28_0); (try clear hfz28_1); (try clear hfz28_2)
  obtain ⟨x7_1, x25_1, rfl, HA, HK1, HO_7, HO_135000, HO_135001, HO_135002, BK120, BK134, HB⟩ := hrel; have hl7_1 := (rR_ HO_7.out).1; rw [hl7_1] at HO_7; (try simp only [hl7_1])
  (try simp only [hl7_1] at BK120)
  (try simp only [hl7_1] at BK134)
  (try simp only [hl7_1] at HO_135000)
  (try simp only [hl7_1] at HO_135001)
  (try simp only [hl7_1] at HO_135002)
  cases gk with
  | zero => exact absurd HA.out (by simp [diffs_solve.l0])
  | succ k1 =>
   have H := HA.out; clear HA; simp only [diffs_solve.l0] at H; by_cases c33 : x25_1 < (t135.length : Int)
   ·rw [if_pos c33] at H
    have c33b0 : decide (x25_1 < (t135.length : Int)) = true := eT_ c33; clear c33; by_cases c34 : 0 ≤ x25_1
    ·rw [if_pos c34] at H
     have c34b0 : decide (0 ≤ x25_1) = true := eT_ c34; clear c34; by_cases c35 : x25_1 < (x7_1.length : Int)
     ·rw [if_pos c35] at H
      have c35b0 : decide (x25_1 < (x7_1.length : Int)) = true := eT_ c35; clear c35; by_cases c36 : 0 < (t124.length : Int)
      ·rw [if_pos c36] at H
       have c36b0 : decide (0 < (t124.length : Int)) = true := eT_ c36; have c36b1 : decide (0 < t124.length) = true := eT_ (by omega); clear c36; obtain ⟨y140, hy140⟩ : ∃ y_ : List Int, y_ = (x7_1.set (x25_1 : Int).toNat (wrap64 ((rd x7_1 x25_1) - (rd t124 0)))) := ⟨_, rfl⟩; replace H : (diffs_solve.l0 k1 y140 (t135.length : Int) (wrap64 (x25_1 + 1)) t124 t127 t130) = some (r1, r2, r3, r4, r5) := by first | (rw [hy140]; with_reducible exact H) | (have H2_ := (oB_ _ _).symm.trans H; rw [hy140]; with_reducible exact H2_) | (have H2_ := (oB_ _ _).symm.trans H; with_reducible exact H2_) | with_reducible exact H | (rw [hy140]; exact H) | exact H
       have Ny140 := Z_ hy140; clear hy140; have H' := Z_ H; clear H; try go_wp2
       replace HO_7 := Z_ (rD_ HO_7.out); replace HO_135000 := Z_ (rD_ HO_135000.out); replace HO_135001 := Z_ (rD_ HO_135001.out); replace HO_135002 := Z_ (rD_ HO_135002.out); replace BK120 := Z_ (bD_ BK120.out); replace BK134 := Z_ (bD_ BK134.out); replace HB := Z_ (fD_ HB.out); have p138 : 0 ≤ (x25_1 : Int) := dT_ (by first | (with_reducible assumption) | assumption); have q138 : x25_1 < (x7_1.length : Int) := dT_ (by first | (with_reducible assumption) | assumption); obtain ⟨ad138, e138, hx138_0⟩ := Kd.at_int (rR_ HO_7.out).2.2 x25_1 p138 q138; cases e138
       replace p138 := eq_true p138; replace q138 := eq_true q138; have p139 : 0 ≤ (0 : Int) := (by omega); have q139 : 0 < (t124.length : Int) := dT_ (by first | (with_reducible assumption) | assumption); obtain ⟨ad139, e139, hx139_0⟩ := Kd.at_int (rR_ HO_135000.out).2.2 0 p139 q139; cases e139
       have qi139 : (0 < t124.length) = True := eq_true (by omega); (try rw [show ((0 : Int)).toNat = 0 from rfl] at hx139_0)
       (try rw [Addr.add_zero'] at hx139_0)
       replace p139 := eq_true p139; replace q139 := eq_true q139; have p37 : 0 ≤ (x25_1 : Int) := dT_ (by first | (with_reducible assumption) | assumption); have q37 : (x25_1 : Int) < ((x7_1.length : Int) : Int) := dT_ (by first | (with_reducible assumption) | assumption); obtain ⟨go37, co37, eo37, gb37, gl37, cl37, HG37⟩ := Kd.R_form HO_7.out (by omega); (first | cases eo37 | (injection eo37 with ea_ en_ ec_; (first | subst ea_ | (injection ea_ with ea_; subst ea_)); subst ec_; clear en_))
       have GB37 := Z_ gb37; have GG37 := Z_ HG37; clear gb37 gl37 HG37; (first | simp only [add_plain] at hx138_0 | skip)
       obtain ⟨hx37_0, hf37_0⟩ := Kd.R_celln 0 HO_7.out (x25_1 : Int) p37 q37; replace p37 := eq_true p37; replace q37 := eq_true q37; have HP39 := Kd.R_putn HO_7.out (x25_1 : Int) (wrap64 ((rd x7_1 x25_1) - (rd t124 0))); rw [← Ny140.out] at HP39; have HQ39 := Z_ HP39; clear HP39; refine start_ (n := 11) (S := fun w' => w'.cell? ⟨gb134, 0, none⟩ = some (.slice (some ad139) t124.length co26) ∧ w'.cell? ⟨gb134, 1, none⟩ = some (.slice Ao29 t127.length co29) ∧ w'.cell? ⟨gb134, 2, none⟩ = some (.slice Ao30 t130.length co30) ∧ w'.cell? ⟨go37, (x25_1).toNat, none⟩ = some (.int .i64 (rd x7_1 x25_1)) ∧ w'.cell? ad139 = some (.int .i64 (rd t124 0))) (ds := [10]) #[false, false, false, false, false, false, false, false, false, false, false] (by kernel_rfl) rfl rfl ⟨(bC_ BK134.out 0).trans rfl, (bC_ BK134.out 1).trans rfl, (bC_ BK134.out 2).trans rfl, hx138_0, hx139_0⟩ (fun hHeld => ?_); refine with_tabW diffs_solve.tab8 diffs_solve.bits8 (fun HT_ HW_ => ?_); generalize wr.drew = w38 at HO_7 HO_135000 HO_135001 HO_135002 BK120 BK134 HB GG37 HQ39 hf37_0 hx138_0 hx139_0 hx37_0 hHeld ⊢; refine pure_ (i := 0) (N := some 28) (v := ?_) (a' := ?_) (mB_ 11 1) rfl rfl (any_of HT_.out (by kernel_rfl)) (fun _ _ _ h => h) (Or.inl ⟨by rfl, ?_⟩) ?_ ?_; rotate_left; ·intro w'; go_simp; with_reducible rfl
       rotate_left; ·simp only [Act.put, sT_, sZ_, sS_, i64_w]; rfl
       refine pure_ (i := 1) (N := some 29) (v := ?_) (a' := ?_) (mB_ 11 3) rfl rfl (any_of HT_.out (by kernel_rfl)) (fun _ _ _ h => h) (Or.inl ⟨by rfl, ?_⟩) ?_ ?_; rotate_left; ·intro w'; go_simp; with_reducible rfl
       rotate_left; ·simp only [Act.put, sT_, sZ_, sS_, i64_w]; rfl
       refine pure_ (i := 2) (N := some 30) (v := ?_) (a' := ?_) (mB_ 11 7) rfl rfl (any_of HT_.out (by kernel_rfl)) (fun _ _ _ h => h) (Or.inl ⟨by rfl, ?_⟩) ?_ ?_; rotate_left; ·intro w'; go_simp; with_reducible rfl
       rotate_left; ·simp only [Act.put, sT_, sZ_, sS_, i64_w]; rfl
       refine pure_ (i := 4) (N := some 32) (v := ?_) (a' := ?_) (mB_ 11 23) rfl rfl (any_of HT_.out (by kernel_rfl)) (fun _ _ _ h => h) (Or.inl ⟨by rfl, ?_⟩) ?_ ?_; rotate_left; ·intro w'; go_simp; with_reducible rfl
       rotate_left; ·simp only [Act.put, sT_, sZ_, sS_, i64_w]; rfl
       refine take_ (i := 3) (N := some 31) (v := ?_) (a' := ?_) (mB_ 11 31) rfl rfl (take_ofW HT_.out HW_.out (by kernel_rfl)) (fun _ _ _ h => h) (Or.inl ⟨by rfl, ?_⟩) hHeld ?_ ?_; rotate_left; ·rintro w' ⟨s0, s1, s2, s3, s4⟩; go_simp; with_reducible rfl
       rotate_left; ·simp only [Act.put, sT_, sZ_, sS_, i64_w]; rfl
       refine take_ (i := 5) (N := some 33) (v := ?_) (a' := ?_) (mB_ 11 63) rfl rfl (take_ofW HT_.out HW_.out (by kernel_rfl)) (fun _ _ _ h => h) (Or.inl ⟨by rfl, ?_⟩) hHeld ?_ ?_; rotate_left; ·rintro w' ⟨s0, s1, s2, s3, s4⟩; go_simp; with_reducible rfl
       rotate_left; ·simp only [Act.put, sT_, sZ_, sS_, i64_w]; rfl
       refine pure_ (i := 6) (N := some 34) (v := ?_) (a' := ?_) (mB_ 11 127) rfl rfl (any_of HT_.out (by kernel_rfl)) (fun _ _ _ h => h) (Or.inl ⟨by rfl, ?_⟩) ?_ ?_; rotate_left; ·intro w'; go_simp; with_reducible rfl
       rotate_left; ·simp only [Act.put, sT_, sZ_, sS_, i64_w]; rfl
       refine take_ (i := 7) (N := some 35) (v := ?_) (a' := ?_) (mB_ 11 255) rfl rfl (take_ofW HT_.out HW_.out (by kernel_rfl)) (fun _ _ _ h => h) (Or.inl ⟨by rfl, ?_⟩) hHeld ?_ ?_; rotate_left; ·rintro w' ⟨s0, s1, s2, s3, s4⟩; go_simp; with_reducible rfl
       rotate_left; ·simp only [Act.put, sT_, sZ_, sS_, i64_w]; rfl
       refine pure_ (i := 8) (N := some 36) (v := ?_) (a' := ?_) (mB_ 11 511) rfl rfl (any_of HT_.out (by kernel_rfl)) (fun _ _ _ h => h) (Or.inl ⟨by rfl, ?_⟩) ?_ ?_; rotate_left; ·intro w'; go_simp; with_reducible rfl
       rotate_left; ·simp only [Act.put, sT_, sZ_, sS_, i64_w]; rfl
       refine pure_ (i := 9) (N := some 37) (v := ?_) (a' := ?_) (mB_ 11 1023) rfl rfl (any_of HT_.out (by kernel_rfl)) (fun _ _ _ h => h) (Or.inl ⟨by rfl, ?_⟩) ?_ ?_; rotate_left; ·intro w'; go_simp; with_reducible rfl
       rotate_left; ·simp only [Act.put, sT_, sZ_, sS_, i64_w]; rfl
       refine last_ (i := 10) (N := none) (mB_ 11 2047) rfl rfl (one_of HT_.out (by kernel_rfl)) (by decide) (fun K hK => ?_); refine skip_ (w1 := ?_) (by rfl) rfl ?_ ?_; rotate_left
       ·go_simp
        rfl
       refine hK.out _ _ ?_; clear hK K; refine done_ (done_of HT_.out (by kernel_rfl)) ?_; try go_wp2
       (try simp only [← hl7_1])
       go_roundg k1
       case measure => have := HK1.out; omega
       case rel => exact ⟨(y140), (wrap64 (x25_1 + 1)), (by first | rfl | (simp; done) | (simp [*]; done)), H', ⟨by have := HK1.out; omega⟩, ⟨by (try simp only [hl7_1]); (with_reducible repeat (first | apply rN_ | apply rD_)); exact HQ39.out⟩, ⟨by (try simp only [hl7_1]); (with_reducible repeat (first | apply rN_ | apply rD_)); exact rM_ (rF_ (p := ⟨go37, (x25_1 : Int).toNat, none⟩) (rM_ HO_135000.out (fun k_ hk => (⟨hk, fun e_ => hk.1 (by rw [e_]; rfl)⟩ : _ ∧ k_ ≠ go37))) (fun _ hk => hk.2) (.int .i64 (wrap64 ((rd x7_1 x25_1) - (rd t124 0))))) (fun _ hk => ⟨hk.1.1, hk.1.2⟩)⟩, ⟨by (try simp only [hl7_1]); (with_reducible repeat (first | apply rN_ | apply rD_)); exact rM_ (rF_ (p := ⟨go37, (x25_1 : Int).toNat, none⟩) (Kd.R_types HO_135001.out GG37.out (by decide)) (fun _ hk => hk.2) (.int .i64 (wrap64 ((rd x7_1 x25_1) - (rd t124 0))))) (fun _ hk => trivial)⟩, ⟨by (try simp only [hl7_1]); (with_reducible repeat (first | apply rN_ | apply rD_)); exact rM_ (rF_ (p := ⟨go37, (x25_1 : Int).toNat, none⟩) (rM_ HO_135002.out (fun k_ hk => (⟨hk, fun e_ => hk.1 (by rw [e_]; rfl)⟩ : _ ∧ k_ ≠ go37))) (fun _ hk => hk.2) (.int .i64 (wrap64 ((rd x7_1 x25_1) - (rd t124 0))))) (fun _ hk => ⟨hk.1.1, hk.1.2⟩)⟩, ⟨by (try simp only [hl7_1]); (with_reducible repeat (first | refine bN_ ?_ _ | refine bD_ ?_)); refine blk_far ?_ (by have h_ := Kd.R_ne HO_7.out BK120.out (by decide); intro e_; exact h_ (by rw [e_]; rfl)) _; (with_reducible repeat (first | refine bN_ ?_ _ | refine bD_ ?_)); exact BK120.out⟩, ⟨by (try simp only [hl7_1]); (with_reducible repeat (first | refine bN_ ?_ _ | refine bD_ ?_)); refine blk_far ?_ (by have h_ := Kd.R_ne HO_7.out BK134.out (by decide); intro e_; exact h_ (by rw [e_]; rfl)) _; (with_reducible repeat (first | refine bN_ ?_ _ | refine bD_ ?_)); exact BK134.out⟩, ⟨by repeat (first | (with_reducible first | exact HB.out | apply fA_ | apply pB_ | apply fD_ | refine fE_ ?_ GB37.out | refine fE_ ?_ GE120.out | refine fE_ ?_ GE134.out) | exact HB.out)⟩⟩
      rw [if_neg c36] at H; exact absurd H (by simp)
     rw [if_neg c35] at H; exact absurd H (by simp)
    rw [if_neg c34] at H; exact absurd H (by simp)
   rw [if_neg c33] at H; have c33b0 : decide (x25_1 < (t135.length : Int)) = false := eF_ c33; have c33z := c33b0; simp only [hl7_1] at c33z; clear c33; simp only [oJ_, pI_] at H; obtain ⟨rfl, rfl, rfl, rfl, rfl⟩ := H; try go_wp2
   replace HO_7 := Z_ (rD_ HO_7.out); replace HO_135000 := Z_ (rD_ HO_135000.out); replace HO_135001 := Z_ (rD_ HO_135001.out); replace HO_135002 := Z_ (rD_ HO_135002.out); replace BK120 := Z_ (bD_ BK120.out); replace BK134 := Z_ (bD_ BK134.out); replace HB := Z_ (fD_ HB.out); refine start_ (n := 5) (S := fun w' => w'.cell? ⟨gb134, 0, none⟩ = some (.slice Ao26 t124.length co26) ∧ w'.cell? ⟨gb134, 1, none⟩ = some (.slice Ao29 t127.length co29) ∧ w'.cell? ⟨gb134, 2, none⟩ = some (.slice Ao30 t130.length co30)) (ds := []) #[false, false, false, false, false] (by kernel_rfl) rfl rfl ⟨(bC_ BK134.out 0).trans rfl, (bC_ BK134.out 1).trans rfl, (bC_ BK134.out 2).trans rfl⟩ (fun hHeld => ?_); generalize wr.drew = w40 at HO_7 HO_135000 HO_135001 HO_135002 BK120 BK134 HB hHeld ⊢; refine pure_ (i := 0) (N := some 39) (v := ?_) (a' := ?_) #[true, false, false, false, false] rfl rfl (by kernel_rfl) (fun _ _ _ h => h) (Or.inl ⟨by rfl, ?_⟩) ?_ ?_; rotate_left; ·intro w'; go_simp; with_reducible rfl
   rotate_left; ·simp only [Act.put, sT_, sZ_, sS_, i64_w]; rfl
   refine pure_ (i := 2) (N := some 2) (v := ?_) (a' := ?_) #[true, false, true, false, false] rfl rfl (by kernel_rfl) (fun _ _ _ h => h) (Or.inl ⟨by rfl, ?_⟩) ?_ ?_; rotate_left; ·intro w'; go_simp; with_reducible rfl
   rotate_left; ·simp only [Act.put, sT_, sZ_, sS_, i64_w]; rfl
   refine take_ (i := 1) (N := some 40) (v := ?_) (a' := ?_) #[true, true, true, false, false] rfl rfl (by kernel_rfl) (fun _ _ _ h => h) (Or.inl ⟨by rfl, ?_⟩) hHeld ?_ ?_; rotate_left; ·rintro w' ⟨s0, s1, s2⟩; go_simp; with_reducible rfl
   rotate_left; ·simp only [Act.put, sT_, sZ_, sS_, i64_w]; rfl
   refine one_ (i := 3) (N := none) #[true, true, true, true, false] rfl rfl (by kernel_rfl) (by decide) (fun K hK => ?_); have hs41 : w40.cell? ⟨gb120, 0, none⟩ = some (.slice none 0 0) := (bC_ BK120.out 0).trans rfl; have hfs41 := bF_ BK120.out 0; have hns41_1 := NB134_120.out; have hms41_1 := NB120_134.out; have hs42 : w40.cell? ⟨gb120, 1, none⟩ = some (.slice none 0 0) := (bC_ BK120.out 1).trans rfl; have hfs42 := bF_ BK120.out 1; have hns42_1 := NB134_120.out; have hms42_1 := NB120_134.out; have hs43 : w40.cell? ⟨gb120, 2, none⟩ = some (.slice none 0 0) := (bC_ BK120.out 2).trans rfl; have hfs43 := bF_ BK120.out 2; have hns43_1 := NB134_120.out; have hms43_1 := NB120_134.out; refine skip_ (w1 := ?_) (by rfl) rfl ?_ ?_; rotate_left
   ·go_simp
    rfl
   refine hK.out _ _ ⟨((cell_far (p := ⟨gb120, _, none⟩) NB134_120.out _).trans (((cell_far (p := ⟨gb120, _, none⟩) NB134_120.out _).trans (((cell_far (p := ⟨gb120, _, none⟩) NB134_120.out _).trans (hHeld.1)))))), ((cell_far (p := ⟨gb120, _, none⟩) NB134_120.out _).trans (((cell_far (p := ⟨gb120, _, none⟩) NB134_120.out _).trans (((cell_far (p := ⟨gb120, _, none⟩) NB134_120.out _).trans (hHeld.2.1)))))), ((cell_far (p := ⟨gb120, _, none⟩) NB134_120.out _).trans (((cell_far (p := ⟨gb120, _, none⟩) NB134_120.out _).trans (((cell_far (p := ⟨gb120, _, none⟩) NB134_120.out _).trans (hHeld.2.2))))))⟩ (fun hHeld => ?_); clear hK K; refine pure_ (i := 4) (N := some 4) (v := ?_) (a' := ?_) #[true, true, true, true, true] rfl rfl (by kernel_rfl) (fun _ _ _ h => h) (Or.inl ⟨by rfl, ?_⟩) ?_ ?_; rotate_left; ·intro w'; go_simp; with_reducible rfl
   rotate_left; ·simp only [Act.put, sT_, sZ_, sS_, i64_w]; rfl
   refine done_ (by kernel_rfl) ?_; try go_wp2
   refine bodyPost_ret (results_list (rs := [.tmp 2, .cell 3 88, .tmp 4]) rfl (by simp) (.tmp (.cell gb120 88 #[.slice Ao26 t124.length co26, .slice Ao29 t127.length co29, .slice Ao30 t130.length co30] (0, 0) _ rfl (by (with_reducible repeat (first | refine bN_ ?_ _ | refine bD_ ?_)); refine blk_put (cs := #[.slice Ao26 t124.length co26, .slice Ao29 t127.length co29, .slice none 0 0]) ?_ 2 _ rfl; (with_reducible repeat (first | refine bN_ ?_ _ | refine bD_ ?_)); refine blk_put (cs := #[.slice Ao26 t124.length co26, .slice none 0 0, .slice none 0 0]) ?_ 1 _ rfl; (with_reducible repeat (first | refine bN_ ?_ _ | refine bD_ ?_)); refine blk_put (cs := #[.slice none 0 0, .slice none 0 0, .slice none 0 0]) ?_ 0 _ rfl; (with_reducible repeat (first | refine bN_ ?_ _ | refine bD_ ?_)); exact BK120.out) Try.underlying88 rfl (by kernel_rfl) (.tmp .nil)))) rfl ?_; exact ⟨_, _, _, _, by first | rfl | (simp [errW_none, errW_some] <;> rfl) | (simp [*, errW_none, errW_some] <;> rfl), by (with_reducible repeat (first | apply rN_ | apply rD_)); exact rM_ (rF_ (p := ⟨gb120, 2, none⟩) (rF_ (p := ⟨gb120, 1, none⟩) (rF_ (p := ⟨gb120, 0, none⟩) (Kd.R_types HO_7.out BK120.out (by decide)) (fun _ hk => hk.2) (.slice Ao26 t124.length co26)) (fun _ hk => hk.2) (.slice Ao29 t127.length co29)) (fun _ hk => hk.2) (.slice Ao30 t130.length co30)) (fun _ hk => ⟨hk.1.1, hk.1.2⟩), by (with_reducible repeat (first | apply rN_ | apply rD_)); exact rM_ (rF_ (p := ⟨gb120, 2, none⟩) (rF_ (p := ⟨gb120, 1, none⟩) (rF_ (p := ⟨gb120, 0, none⟩) (Kd.R_types HO_135000.out BK120.out (by decide)) (fun _ hk => hk.2) (.slice Ao26 t124.length co26)) (fun _ hk => hk.2) (.slice Ao29 t127.length co29)) (fun _ hk => hk.2) (.slice Ao30 t130.length co30)) (fun _ hk => ⟨hk.1.1, hk.1.2⟩), by (with_reducible repeat (first | apply rN_ | apply rD_)); exact rM_ (rF_ (p := ⟨gb120, 2, none⟩) (rF_ (p := ⟨gb120, 1, none⟩) (rF_ (p := ⟨gb120, 0, none⟩) (Kd.R_types HO_135001.out BK120.out (by decide)) (fun _ hk => hk.2) (.slice Ao26 t124.length co26)) (fun _ hk => hk.2) (.slice Ao29 t127.length co29)) (fun _ hk => hk.2) (.slice Ao30 t130.length co30)) (fun _ hk => trivial), by (with_reducible repeat (first | apply rN_ | apply rD_)); exact rM_ (rF_ (p := ⟨gb120, 2, none⟩) (rF_ (p := ⟨gb120, 1, none⟩) (rF_ (p := ⟨gb120, 0, none⟩) (Kd.R_types HO_135002.out BK120.out (by decide)) (fun _ hk => hk.2) (.slice Ao26 t124.length co26)) (fun _ hk => hk.2) (.slice Ao29 t127.length co29)) (fun _ hk => hk.2) (.slice Ao30 t130.length co30)) (fun _ hk => ⟨hk.1.1, hk.1.2⟩), by repeat (first | (with_reducible first | exact HB.out | apply fA_ | apply pB_ | apply fD_ | refine fE_ ?_ GE120.out | refine fE_ ?_ GE134.out) | exact HB.out)⟩
end Go.Proofs.Ytpolojoeabmhdaa.A
/- grow over a net as it stands: its two methods, and what grow answers. -/
namespace Go.Proofs.Ytpolojoeabmhdaa.A
open Go.RowKit Go.Proofs.YtpolojoeabmhdaaW.PrintWords Go.Proofs.YtpolojoeabmhdaaW.PrintLast Go.Proofs.YtpolojoeabmhdaaW.PrintMore
set_option maxHeartbeats 1000000 in
theorem plain_nodes.calls (n : Int) (A : Option Addr) (m c : Nat) (w : World) :
    Calls Try.prog 151 #[.agg #[.int .i64 n, .slice A m c]] w fun e w' => e = .returned (.int .i64 n) ∧ Below w.heap.size w w' := by
  have hu100 := Try.underlying100; have hu24 := Try.underlying24; go_enter Try.func151, Try.ntmps151; go_wp2; go_ret; exact ⟨rfl, fA_ (Below.refl _ _) _⟩
set_option maxHeartbeats 1000000 in
theorem plain_lines.calls (n : Int) (A : Option Addr) (m c : Nat) (w : World) :
    Calls Try.prog 150 #[.agg #[.int .i64 n, .slice A m c]] w fun e w' => e = .returned (.slice A m c) ∧ Below w.heap.size w w' := by
  have hu100 := Try.underlying100; have hu24 := Try.underlying24; go_enter Try.func150, Try.ntmps150; go_wp2; go_ret; exact ⟨rfl, fA_ (Below.refl _ _) _⟩
theorem graph_plain {w : World} {a0_0 : Int} {A0_1 : Option Addr} {c0_1 : Nat} {l0_1 : List S39} (hr0_1 : Kd.C k39 w A0_1 l0_1.length l0_1) (hc0_1 : l0_1.length ≤ c0_1) : Graph w 100 (.agg #[.int .i64 a0_0, .slice A0_1 l0_1.length c0_1]) a0_0 l0_1 :=
  ⟨150, 151, _, _, _, _, fun W => m_plain_lines _ W, fun W => m_plain_nodes _ W, ⟨Try.func150, by kernel_rfl, rfl⟩, ⟨Try.func151, by kernel_rfl, rfl⟩,
    fun W hW => (plain_lines.calls _ _ _ _ W).mono fun e W' h => ⟨A0_1, c0_1, h.1, hc0_1, cB_ (cB_ hr0_1 hW) h.2, h.2⟩,
    fun W hW => (plain_nodes.calls _ _ _ _ W).mono fun e W' h => h⟩
theorem diffs_grow.calls (k : Nat) (a0_0 : Int) (A0_1 : Option Addr) (c0_1 : Nat) (l0_1 : List (S39)) (A1 : Option Addr) (c1 : Nat) (l1 : List Int) (r1 : List Int) (r2 : List Bool) (r3 : List Int) (r4 : Int) (w : World) (hr0_1 : Kd.C k39 w A0_1 l0_1.length l0_1) (hc0_1 : l0_1.length ≤ c0_1) (hr1 : Kd.C (Kd.int .i64) w A1 l1.length l1) (hc1 : l1.length ≤ c1) (h : diffs_grow.f k a0_0 l0_1 l1 = some (r1, r2, r3, r4)) :
    Calls Try.prog 82 #[.iface 100 (.agg #[.int .i64 a0_0, .slice A0_1 l0_1.length c0_1]), .slice A1 l1.length c1] w fun e w' => ∃ v0_ v1_ v2_ : Value, e = .returned (.tuple #[.agg #[v0_, v1_, v2_], .int .i64 r4]) ∧ Kd.R (Kd.int .i64) 3 w' w.heap.size (fun k_ => some k_ ≠ (v2_ : Value).ownBlock) v0_ r1 ∧ Kd.R Kd.bool 4 w' w.heap.size (fun _ => True) v1_ r2 ∧ Kd.R (Kd.int .i64) 3 w' w.heap.size (fun k_ => some k_ ≠ (v0_ : Value).ownBlock) v2_ r3 ∧ Below w.heap.size w w' :=
  diffs_grow.any k 100 _ a0_0 l0_1 A1 c1 l1 r1 r2 r3 r4 w (graph_plain hr0_1 hc0_1) hr1 hc1 h
end Go.Proofs.Ytpolojoeabmhdaa.A
/- solve over a net as it stands. -/
namespace Go.Proofs.Ytpolojoeabmhdaa.A
open Go.RowKit Go.Proofs.YtpolojoeabmhdaaW.PrintWords Go.Proofs.YtpolojoeabmhdaaW.PrintLast Go.Proofs.YtpolojoeabmhdaaW.PrintMore
theorem diffs_solve.calls (k : Nat) (a0_0 : Int) (A0_1 : Option Addr) (c0_1 : Nat) (l0_1 : List (S39)) (r1 : List Int) (r2 : List Int) (r3 : List Bool) (r4 : List Int) (r5 : Int) (w : World) (hr0_1 : Kd.C k39 w A0_1 l0_1.length l0_1) (hc0_1 : l0_1.length ≤ c0_1) (h : diffs_solve.f k a0_0 l0_1 = some (r1, r2, r3, r4, r5)) :
    Calls Try.prog 81 #[.iface 100 (.agg #[.int .i64 a0_0, .slice A0_1 l0_1.length c0_1])] w fun e w' => ∃ v0_ v1_ v2_ v3_ : Value, e = .returned (.tuple #[v0_, .agg #[v1_, v2_, v3_], .int .i64 r5]) ∧ Kd.R (Kd.int .i64) 3 w' w.heap.size (fun k_ => some k_ ≠ (v1_ : Value).ownBlock ∧ some k_ ≠ (v3_ : Value).ownBlock) v0_ r1 ∧ Kd.R (Kd.int .i64) 3 w' w.heap.size (fun k_ => some k_ ≠ (v0_ : Value).ownBlock ∧ some k_ ≠ (v3_ : Value).ownBlock) v1_ r2 ∧ Kd.R Kd.bool 4 w' w.heap.size (fun _ => True) v2_ r3 ∧ Kd.R (Kd.int .i64) 3 w' w.heap.size (fun k_ => some k_ ≠ (v0_ : Value).ownBlock ∧ some k_ ≠ (v1_ : Value).ownBlock) v3_ r4 ∧ Below w.heap.size w w' :=
  diffs_solve.any k 100 _ a0_0 l0_1 r1 r2 r3 r4 r5 w (graph_plain hr0_1 hc0_1) h
end Go.Proofs.Ytpolojoeabmhdaa.A
/- grow and solve answer as the plain passes do. -/
namespace Go.Proofs.Ytpolojoeabmhdaa.A
open Go.RowKit Go.Proofs.YtpolojoeabmhdaaW.PrintWords Go.Proofs.YtpolojoeabmhdaaW.PrintLast Go.Proofs.YtpolojoeabmhdaaW.PrintMore
theorem wrap_id {x : Int} (h0 : -9223372036854775808 ≤ x) (h1 : x < 9223372036854775808) : wrap64 x = x := by
  unfold wrap64
  omega
theorem Ev.shift {α : Type} {g h : Nat → Option α} {r : α} (a : Nat) (hg : ∀ f, g (f + a) = h f) (hh : Ev h r) : Ev g r := by
  obtain ⟨K, hK⟩ := hh
  refine ⟨K + a, fun k hk => ?_⟩
  obtain ⟨f, rfl⟩ : ∃ f, k = f + a := ⟨k - a, by omega⟩
  rw [hg]
  exact hK f (by omega)
theorem Ev.congr' {α : Type} {g h : Nat → Option α} {r : α} (K0 : Nat) (hg : ∀ k, K0 ≤ k → g k = h k) (hh : Ev h r) : Ev g r := by
  obtain ⟨K, hK⟩ := hh
  exact ⟨max K K0, fun k hk => (hg k (by omega)).trans (hK k (by omega))⟩
theorem Ev.pos {α : Type} {c : Prop} [inst : Decidable c] {f g : Nat → Option α} {r : α} (h : c) (k : Ev f r) : Ev (fun n => if c then f n else g n) r :=
  Ev.congr (fun n => if_pos h) k
theorem Ev.neg {α : Type} {c : Prop} [inst : Decidable c] {f g : Nat → Option α} {r : α} (h : ¬ c) (k : Ev g r) : Ev (fun n => if c then f n else g n) r :=
  Ev.congr (fun n => if_neg h) k
section
variable {n : Nat} {L : List S39} {src : Int → Prop}
theorem grow_l2 (hE : EdgesOk n L) {b : Int} (hb : 0 ≤ b) (hbm : b + L.length ≤ 4294967296) : ∀ (q : Nat) (k c : Int) (s : Sg) (T : Int → Int) (f : Nat), (q : Int) + k = L.length → 0 ≤ k → Bf n L src b k s T →
    diffs_grow.l2 (f + 2 * q) L c L L.length k s.lo s.ha s.la = diffs_grow.l2 f L (pass (L.drop k.toNat) k c s).1 L L.length L.length (pass (L.drop k.toNat) k c s).2.lo (pass (L.drop k.toNat) k c s).2.ha (pass (L.drop k.toNat) k c s).2.la
  | 0, k, c, s, T, f, hq, h0, h => by
    have hk : k = L.length := by omega
    rw [List.drop_eq_nil_of_le (by omega), hk]
    rfl
  | q + 1, k, c, s, T, f, hq, h0, h => by
    have hk : k < (L.length : Int) := by omega
    have hd := hE k h0 hk
    have l1 := h.l1
    have l2 := h.l2
    have l3 := h.l3
    rw [rd_T39_drop L k h0 hk, show f + 2 * (q + 1) = (f + 2 * q) + 1 + 1 from by omega]
    have hw := h.w _ hd.a hd.b
    have he := hd.e
    have hf := hd.f
    have hwr : wrap64 (rd s.lo (rd_T39 L k).f0 + (rd_T39 L k).f2) = rd s.lo (rd_T39 L k).f0 + (rd_T39 L k).f2 := wrap_id (by omega) (by omega)
    have hk1 : wrap64 (k + 1) = k + 1 := wrap_id (by omega) (by omega)
    unfold pass
    simp only [diffs_grow.l2]
    rw [if_pos hk, if_pos h0, if_pos hk, if_pos hd.a, if_pos (show (rd_T39 L k).f0 < (s.ha.length : Int) from by rw [l2]; exact hd.b)]
    have hnext : ∀ y, diffs_grow.j3 (f + 2 * q + 1) L c k L L.length k y s.lo s.ha s.la (rd_T39 L k).f0 (rd_T39 L k).f1 (rd_T39 L k).f2 = if y = true then diffs_grow.l2 (f + 2 * q) L (rd_T39 L k).f1 L L.length (k + 1) (s.put (rd_T39 L k) k).lo (s.put (rd_T39 L k) k).ha (s.put (rd_T39 L k) k).la else diffs_grow.l2 (f + 2 * q) L c L L.length (k + 1) s.lo s.ha s.la := by
      intro y
      simp only [diffs_grow.j3]
      rw [if_pos hd.a, if_pos (show (rd_T39 L k).f0 < (s.lo.length : Int) from by rw [l1]; exact hd.b), if_pos hd.c, if_pos (show (rd_T39 L k).f1 < (s.lo.length : Int) from by rw [l1]; exact hd.g), if_pos (show (rd_T39 L k).f1 < (s.ha.length : Int) from by rw [l2]; exact hd.g), if_pos (show (rd_T39 L k).f1 < (s.la.length : Int) from by rw [l3]; exact hd.g), hk1, hwr]
      rfl
    by_cases hu : rdOf false s.ha (rd_T39 L k).f0 = true
    · rw [if_pos hu, if_pos hd.c, if_pos (show (rd_T39 L k).f1 < (s.ha.length : Int) from by rw [l2]; exact hd.g)]
      by_cases hv : rdOf false s.ha (rd_T39 L k).f1 = true
      · rw [if_pos hv, if_pos (show (rd_T39 L k).f0 < (s.lo.length : Int) from by rw [l1]; exact hd.b), if_pos (show (rd_T39 L k).f1 < (s.lo.length : Int) from by rw [l1]; exact hd.g), hnext, hwr]
        by_cases hy : rd s.lo (rd_T39 L k).f0 + (rd_T39 L k).f2 < rd s.lo (rd_T39 L k).f1
        · have hbt : s.better (rd_T39 L k) = true := by rw [better_iff]; exact ⟨hu, Or.inr hy⟩
          rw [if_pos (decide_eq_true hy), if_pos hbt]
          exact grow_l2 hE hb hbm q (k + 1) _ _ _ f (by omega) (by omega) (h.step hE h0 hk hb hbt)
        · have hbt : ¬ s.better (rd_T39 L k) = true := by
            rw [better_iff]; rintro ⟨_, h2 | h2⟩
            · exact h2 hv
            · exact hy h2
          rw [if_neg (by simpa using hy), if_neg hbt]
          exact grow_l2 hE hb hbm q (k + 1) c s T f (by omega) (by omega) (h.skip hE h0 hk hb hbt)
      · have hbt : s.better (rd_T39 L k) = true := by rw [better_iff]; exact ⟨hu, Or.inl hv⟩
        rw [if_neg hv, hnext, if_pos rfl, if_pos hbt]
        exact grow_l2 hE hb hbm q (k + 1) _ _ _ f (by omega) (by omega) (h.step hE h0 hk hb hbt)
    · have hbt : ¬ s.better (rd_T39 L k) = true := by
        rw [better_iff]; rintro ⟨h2, _⟩
        exact hu h2
      rw [if_neg hu, hnext, if_neg (by simp), if_neg hbt]
      exact grow_l2 hE hb hbm q (k + 1) c s T f (by omega) (by omega) (h.skip hE h0 hk hb hbt)
theorem looped_l0 (hE : EdgesOk n L) (hn : n ≤ 65536) {b k : Int} {s : Sg} {T : Int → Int} (h : Bf n L src b k s T) : ∀ (j : Nat) (i v : Int) (f : Nat), (j : Int) + i = n → 0 ≤ i → 0 ≤ v → v < n →
    diffs_tree_looped.l0 (f + j + 1) L v n i s.lo s.ha s.la = some (loopedL L s.la j v)
  | 0, i, v, f, hj, hi, h0, h1 => by
    simp only [diffs_tree_looped.l0]
    rw [if_neg (by omega)]
    rfl
  | j + 1, i, v, f, hj, hi, h0, h1 => by
    rw [show f + (j + 1) + 1 = (f + j + 1) + 1 from by omega]
    have l3 := h.l3
    simp only [diffs_tree_looped.l0]
    rw [if_pos (by omega), if_pos h0, if_pos (by omega)]
    unfold loopedL
    by_cases hl : rd s.la v < 0
    · rw [if_pos hl, if_pos hl]
    · have hp := h.p v h0 h1 (h.la_pos h0 h1 (by omega))
      have hb := h.bk_node hE h0 h1 (by omega)
      rw [if_neg hl, if_neg hl, if_pos (by omega), if_pos hp.2.1, wrap_id (by omega) (by omega)]
      exact looped_l0 hE hn h j (i + 1) _ f (by omega) (by omega) hb.1 hb.2
theorem grow_l1 (hE : EdgesOk n L) (hn : n ≤ 65536) (hm : (n : Int) * L.length ≤ 4294967296) : ∀ (r q : Nat) (s : Sg) (T : Int → Int) (s' : Sg) (bad : Int), q + r = n → Bf n L src ((q : Int) * L.length) 0 s T → growP L n r s = some (s', bad) →
    Ev (fun k => diffs_grow.l1 k L s.lo s.ha s.la) (s'.lo, s'.ha, s'.la, bad)
  | 0, q, s, T, s', bad, hq, h, hg => by simp [growP] at hg
  | r + 1, q, s, T, s', bad, hq, h, hg => by
    have hpos : (0 : Int) ≤ (q : Int) * L.length := Int.mul_nonneg (by omega) (by omega)
    have hb1 : ((q : Int) + 1) * L.length = (q : Int) * L.length + L.length := by rw [Int.add_mul, Int.one_mul]
    have hb2 : (q : Int) * L.length + L.length ≤ (n : Int) * L.length := by
      rw [← hb1]; exact Int.mul_le_mul_of_nonneg_right (by omega) (by omega)
    obtain ⟨T', h', hc⟩ := pass_bf hE hpos L.length 0 (-1) s T (by omega) (by omega) h (Or.inl rfl)
    have e2 := fun f => grow_l2 hE hpos (by omega) L.length 0 (-1) s T f (by omega) (by omega) h
    simp only [show (0 : Int).toNat = 0 from rfl, List.drop_zero] at h' hc e2
    refine Ev.shift (2 * L.length + 2) (h := fun f => if (pass L 0 (-1) s).1 < 0 then some ((pass L 0 (-1) s).2.lo, (pass L 0 (-1) s).2.ha, (pass L 0 (-1) s).2.la, (-1)) else ((diffs_tree_looped.f f (pass L 0 (-1) s).2.lo (pass L 0 (-1) s).2.ha (pass L 0 (-1) s).2.la L (pass L 0 (-1) s).1).bind fun t => if t ≥ 0 then some ((pass L 0 (-1) s).2.lo, (pass L 0 (-1) s).2.ha, (pass L 0 (-1) s).2.la, t) else diffs_grow.l1 f L (pass L 0 (-1) s).2.lo (pass L 0 (-1) s).2.ha (pass L 0 (-1) s).2.la)) (fun f => ?_) ?_
    · rw [show f + (2 * L.length + 2) = ((f + 1) + 2 * L.length) + 1 from by omega]
      simp only [diffs_grow.l1]
      rw [e2 (f + 1)]
      simp only [diffs_grow.l2]
      rw [if_neg (by omega)]
    · unfold growP at hg
      rcases hc with ⟨c1, c2, c3, c4⟩ | hc
      · have hneg : (pass L 0 (-1) s).1 < 0 := by omega
        rw [if_pos hneg] at hg
        simp only [if_pos hneg]
        simp only [Option.some.injEq, Prod.mk.injEq] at hg
        obtain ⟨rfl, rfl⟩ := hg
        exact Ev.now _
      · have hneg : ¬ (pass L 0 (-1) s).1 < 0 := by have := hc.1; omega
        rw [if_neg hneg] at hg
        simp only [if_neg hneg]
        have hl : Ev (fun f => diffs_tree_looped.f f (pass L 0 (-1) s).2.lo (pass L 0 (-1) s).2.ha (pass L 0 (-1) s).2.la L (pass L 0 (-1) s).1) (loopedL L (pass L 0 (-1) s).2.la n (pass L 0 (-1) s).1) := ⟨n + 1, fun k hk => by
          obtain ⟨f, rfl⟩ : ∃ f, k = f + n + 1 := ⟨k - (n + 1), by omega⟩
          have := looped_l0 hE hn h' n 0 _ f (by omega) (by omega) hc.1 hc.2.1
          unfold diffs_tree_looped.f
          rw [h'.l3]
          exact this⟩
        refine hl.bind ?_
        by_cases hlo : loopedL L (pass L 0 (-1) s).2.la n (pass L 0 (-1) s).1 ≥ 0
        · rw [if_pos hlo] at hg
          simp only [if_pos hlo]
          simp only [Option.some.injEq, Prod.mk.injEq] at hg
          obtain ⟨rfl, rfl⟩ := hg
          exact Ev.now _
        · rw [if_neg hlo] at hg
          simp only [if_neg hlo]
          have h'' := h'.next
          rw [← hb1] at h''
          exact grow_l1 hE hn hm r (q + 1) _ T' s' bad (by omega) (by push_cast; exact h'') hg
theorem grow_l0 {L : List S39} (n : Nat) (lo la : List Int) : ∀ (q : Nat) (i : Int) (from_ : List Int) (ha : List Bool) (f : Nat), (q : Int) + i = from_.length → 0 ≤ i → from_.length ≤ 4294967296 → ha.length = n → (∀ x ∈ from_, 0 ≤ x ∧ x < (n : Int)) →
    diffs_grow.l0 (f + q + 1) L from_ from_.length i lo ha la = diffs_grow.l1 f L lo ((from_.drop i.toNat).foldl (fun h x => h.set x.toNat true) ha) la
  | 0, i, from_, ha, f, hq, hi, hl, hh, hf => by
    simp only [diffs_grow.l0]
    rw [if_neg (by omega), List.drop_eq_nil_of_le (by omega)]
    rfl
  | q + 1, i, from_, ha, f, hq, hi, hl, hh, hf => by
    rw [show f + (q + 1) + 1 = (f + q + 1) + 1 from by omega]
    have hlt : i < (from_.length : Int) := by omega
    have hmem : rd from_ i ∈ from_ := by
      unfold rd
      rw [List.getD_eq_getElem?_getD, List.getElem?_eq_getElem (by omega)]; exact List.getElem_mem _
    have hx := hf _ hmem
    rw [diffs_grow.l0, if_pos hlt, if_pos hi, if_pos hlt, if_pos hx.1, if_pos (by rw [hh]; exact hx.2), wrap_id (by omega) (by omega), grow_l0 n lo la q (i + 1) from_ _ f (by omega) (by omega) hl (by simpa using hh) hf]
    congr 1
    have e : from_.drop i.toNat = rd from_ i :: from_.drop (i + 1).toNat := by
      rw [show (i + 1).toNat = i.toNat + 1 from by omega, List.drop_eq_getElem_cons (by omega)]
      congr 1
      unfold rd
      rw [List.getD_eq_getElem?_getD, List.getElem?_eq_getElem (by omega)]; rfl
    rw [e, List.foldl_cons]
/-- What grow answers. -/
theorem grow_ev (hn0 : 0 < n) (hn : n ≤ 65536) (hE : EdgesOk n L) (hm : (n : Int) * L.length ≤ 4294967296) {from_ : List Int} (hl : from_.length ≤ 4294967296) (hf : ∀ i ∈ from_, 0 ≤ i ∧ i < (n : Int)) :
    ∃ s bad, growP L n n (sg0 n from_) = some (s, bad) ∧ GrowPost n L (fun v => v ∈ from_) s bad ∧ Ev (fun k => diffs_grow.f k n L from_) (s.lo, s.ha, s.la, bad) := by
  obtain ⟨s, bad, h1, h2⟩ := grow_all hn0 hE hf
  refine ⟨s, bad, h1, h2, ?_⟩
  have h3 := grow_l1 hE hn hm n 0 (sg0 n from_) (fun _ => 0) s bad (by omega) (by simpa using sg0_bf hf) h1
  refine Ev.shift (from_.length + 1) (h := fun f => diffs_grow.l1 f L (sg0 n from_).lo (sg0 n from_).ha (sg0 n from_).la) (fun f => ?_) h3
  unfold diffs_grow.f diffs_plain_nodes.f slices_Repeat_int_int.f
  simp only [Option.bind_some]
  rw [if_pos (by omega), if_pos (by omega), if_pos (by omega), if_pos (by omega), if_pos (by omega), if_pos (by omega)]
  simp only [Option.bind_some]
  have := grow_l0 (L := L) n (List.replicate n 0) (List.replicate n (-1)) from_.length 0 from_ (List.replicate n false) f (by omega) (by omega) hl (by simp) hf
  simp only [Int.toNat_natCast]
  exact this
end
end Go.Proofs.Ytpolojoeabmhdaa.A
namespace Go.Proofs.Ytpolojoeabmhdaa.A
open Go.RowKit Go.Proofs.YtpolojoeabmhdaaW.PrintWords Go.Proofs.YtpolojoeabmhdaaW.PrintLast Go.Proofs.YtpolojoeabmhdaaW.PrintMore
attribute [local go_sem] max2_int min2_int max_two min_two max_three min_three max_four min_four
def slices_Index_bool_bool.l0 : Nat → List Bool → Bool → Int → Int → Option (Int)
 | 0, _, _, _, _ => none
 | k + 1, x0, x1, x7, x8 => if x8 < x7 then (if 0 ≤ x8 then (if x8 < (x0.length : Int) then (if (x1 == (rdOf false x0 x8)) = true then (some x8) else (slices_Index_bool_bool.l0 k x0 x1 x7 (wrap64 (x8 + 1)))) else (none)) else (none)) else (some (-1))
def slices_Index_bool_bool.f (k : Nat) (l0 : List Bool) (a1 : Bool) : Option (Int) := slices_Index_bool_bool.l0 k l0 a1 (l0.length : Int) 0
theorem slices_Index_bool_bool.mono_l : ∀ k, (∀ y0 y1 y2 y3, LeO (slices_Index_bool_bool.l0 k y0 y1 y2 y3) (slices_Index_bool_bool.l0 (k + 1) y0 y1 y2 y3))
 | 0 => fun _ _ _ _ r h => by simp [slices_Index_bool_bool.l0] at h
 | k + 1 => by
  have ih0 := slices_Index_bool_bool.mono_l k; intro y0 y1 y2 y3; unfold slices_Index_bool_bool.l0; repeat' first | (with_reducible first | exact ih0 _ _ _ _ | exact LeO.refl _ | exact LeO.none _ | refine LeO.ite ?_ ?_ | refine LeO.bind ?_ (fun _ => ?_)) | exact ih0 _ _ _ _ | exact LeO.none _ | refine LeO.ite ?_ ?_ | refine LeO.bind ?_ (fun _ => ?_)
theorem slices_Index_bool_bool.mono : ∀ a0 a1 k, LeO (slices_Index_bool_bool.f k a0 a1) (slices_Index_bool_bool.f (k + 1) a0 a1) := by
 intro a0 a1 k; have ih0 := slices_Index_bool_bool.mono_l k; unfold slices_Index_bool_bool.f; repeat' first | (with_reducible first | exact ih0 _ _ _ _ | exact LeO.refl _ | exact LeO.none _ | refine LeO.ite ?_ ?_ | refine LeO.bind ?_ (fun _ => ?_)) | exact ih0 _ _ _ _ | exact LeO.none _ | refine LeO.ite ?_ ?_ | refine LeO.bind ?_ (fun _ => ?_)
set_option maxHeartbeats 8000000 in
set_option maxRecDepth 100000 in
theorem slices_Index_bool_bool.calls (k : Nat) (A0 : Option Addr) (c0 : Nat) (l0 : List Bool) (a1 : Bool) (r : Int) (w : World) (hr0 : Kd.C Kd.bool w A0 l0.length l0) (hc0 : l0.length ≤ c0) (h : slices_Index_bool_bool.f k l0 a1 = some r) :
  Calls Try.prog 125 #[.slice A0 l0.length c0, .bool a1] w fun e w' => e = .returned (.int .i64 r) ∧ Drawn0 w w' := by
 have HR0 := Z_ hr0; have HC0 := Z_ hc0; clear hr0 hc0; have H : (slices_Index_bool_bool.l0 k l0 a1 (l0.length : Int) 0) = some r := h; clear h; have H' := Z_ H; clear H; go_enter Try.func125, Try.ntmps125; go_wp2; go_loopg [8] k (fun kq v8 w' => ∃ (x8_1 : Int), v8 = .int .i64 x8_1 ∧ Aside0 (slices_Index_bool_bool.l0 kq l0 a1 (l0.length : Int) x8_1 = some r) ∧ Aside0 (kq ≤ k) ∧ Drawn0 w w')
 case atStart => exact ⟨(0), (by first | rfl | (simp; done) | (simp [*]; done)), H', ⟨nR_ _⟩, by repeat (first | exact Drawn0.refl _ | apply Drawn0.step)⟩
 case round =>
  clear H'; (try clear c1); (try clear p2)
  obtain ⟨x8_1, rfl, HA, HK1, ⟨m1, rfl⟩⟩ := hrel
  cases gk with
  | zero => exact absurd HA.out (by simp [slices_Index_bool_bool.l0])
  | succ k1 =>
   have H := HA.out; clear HA; simp only [slices_Index_bool_bool.l0] at H; by_cases c3 : x8_1 < (l0.length : Int)
   ·rw [if_pos c3] at H
    have c3b0 : decide (x8_1 < (l0.length : Int)) = true := eT_ c3; clear c3; by_cases c4 : 0 ≤ x8_1
    ·rw [if_pos c4] at H
     have c4b0 : decide (0 ≤ x8_1) = true := eT_ c4; clear c4; by_cases c5 : x8_1 < (l0.length : Int)
     ·rw [if_pos c5] at H
      have c5b0 : decide (x8_1 < (l0.length : Int)) = true := eT_ c5; clear c5; by_cases c6 : (a1 == (rdOf false l0 x8_1)) = true
      ·rw [if_pos c6] at H
       have c6b0 : (a1 == (rdOf false l0 x8_1)) = true := c6; (try (have c6b1 : decide (a1 = (rdOf false l0 x8_1)) = true := by simpa using c6))
       (try (have c6b2 : (a1 == (rdOf false l0 x8_1)) = true := by simpa using c6))
       clear c6; obtain rfl := oI_ H; have p146 : 0 ≤ (x8_1 : Int) := dT_ (by first | (with_reducible assumption) | assumption); have q146 : x8_1 < (l0.length : Int) := dT_ (by first | (with_reducible assumption) | assumption); obtain ⟨ad146, e146, hx146_0⟩ := Kd.at_bool HR0.out x8_1 p146 q146; cases e146
       replace p146 := eq_true p146; replace q146 := eq_true q146; go_wp2; go_ret; exact ⟨by first | rfl | (simp; done) | (simp [*]; done), by repeat (first | exact Drawn0.refl _ | apply Drawn0.step)⟩
      rw [if_neg c6] at H; have c6b0 : (a1 == (rdOf false l0 x8_1)) = false := by simpa using c6
      (try (have c6b1 : decide (a1 = (rdOf false l0 x8_1)) = false := by simpa using c6))
      (try (have c6b2 : (a1 == (rdOf false l0 x8_1)) = false := by simpa using c6))
      (try (have c6b3 : ¬ (a1 = (rdOf false l0 x8_1)) := by simpa using c6))
      clear c6; have H' := Z_ H; clear H; have p146 : 0 ≤ (x8_1 : Int) := dT_ (by first | (with_reducible assumption) | assumption); have q146 : x8_1 < (l0.length : Int) := dT_ (by first | (with_reducible assumption) | assumption); obtain ⟨ad146, e146, hx146_0⟩ := Kd.at_bool HR0.out x8_1 p146 q146; cases e146
      replace p146 := eq_true p146; replace q146 := eq_true q146; go_wp2; go_roundg k1
      case measure => have := HK1.out; omega
      case rel => exact ⟨(wrap64 (x8_1 + 1)), (by first | rfl | (simp; done) | (simp [*]; done)), H', ⟨by have := HK1.out; omega⟩, by repeat (first | exact Drawn0.refl _ | apply Drawn0.step)⟩
     rw [if_neg c5] at H; exact absurd H (by simp)
    rw [if_neg c4] at H; exact absurd H (by simp)
   rw [if_neg c3] at H; have c3b0 : decide (x8_1 < (l0.length : Int)) = false := eF_ c3; clear c3; obtain rfl := oI_ H; go_wp2; go_ret; exact ⟨by first | rfl | (simp; done) | (simp [*]; done), by repeat (first | exact Drawn0.refl _ | apply Drawn0.step)⟩
def slices_Contains_bool_bool.f (k : Nat) (l0 : List Bool) (a1 : Bool) : Option (Bool) := (slices_Index_bool_bool.f k l0 a1).bind fun t147 => (some (decide (t147 ≥ 0)))
theorem slices_Contains_bool_bool.mono : ∀ a0 a1 k, LeO (slices_Contains_bool_bool.f k a0 a1) (slices_Contains_bool_bool.f (k + 1) a0 a1) := by
  intro a0 a1 k; unfold slices_Contains_bool_bool.f; repeat' first | (with_reducible first | exact slices_Index_bool_bool.mono _ _ _ | exact LeO.refl _ | exact LeO.none _ | refine LeO.ite ?_ ?_ | refine LeO.bind ?_ (fun _ => ?_)) | exact slices_Index_bool_bool.mono _ _ _ | exact LeO.none _ | refine LeO.ite ?_ ?_ | refine LeO.bind ?_ (fun _ => ?_)
set_option maxHeartbeats 8000000 in
set_option maxRecDepth 100000 in
theorem slices_Contains_bool_bool.calls (k : Nat) (A0 : Option Addr) (c0 : Nat) (l0 : List Bool) (a1 : Bool) (r : Bool) (w : World) (hr0 : Kd.C Kd.bool w A0 l0.length l0) (hc0 : l0.length ≤ c0) (h : slices_Contains_bool_bool.f k l0 a1 = some r) :
    Calls Try.prog 109 #[.slice A0 l0.length c0, .bool a1] w fun e w' => e = .returned (.bool r) ∧ Drawn0 w w' := by
  have HR0 := Z_ hr0; have HC0 := Z_ hc0; clear hr0 hc0; have H : ((slices_Index_bool_bool.f k l0 a1).bind fun t147 => (some (decide (t147 ≥ 0)))) = some r := h; clear h; replace H := oS_.mp H; obtain ⟨t147, A30, H⟩ := H; replace H : (some (decide (t147 ≥ 0))) = some r := H; have A3 := Z_ A30; clear A30; obtain rfl := oI_ H; go_enter Try.func109, Try.ntmps109; go_wp2_with (first | ((with_reducible refine gate_callee (f := 125) rfl ?_); refine goesL_ (some 7) rfl rfl Try.func125 (by kernel_rfl) rfl #[.slice A0 l0.length c0, .bool a1] rfl (by (try simp only [mT_, mC_, mN_]); first | done | rfl | (simp only [lD_, lT_]; rfl)) ?_; (with_reducible refine (slices_Index_bool_bool.calls k _ _ l0 a1 t147 _ ?side1 ?side2 A3.out).mono ?_); (case side1 => repeat (first | exact HR0.out | (with_reducible refine Kd.C_alloc ?_ _) | (with_reducible refine Kd.C_drewN ?_ _) | (with_reducible refine Kd.C_drew ?_))); (case side2 => exact HC0.out); rintro e w' ⟨rfl, ⟨nd, rfl⟩⟩; refine ⟨_, rfl, ?_⟩)); go_ret; exact ⟨by first | rfl | (simp; done) | (simp [*]; done), by repeat (first | exact Drawn0.refl _ | apply Drawn0.step)⟩
def diffs_in.f (a0 : Int) (a1 : Int) (a2 : Int) : Option (Bool) := if a0 ≥ a1 then (some (decide (a0 ≤ a2))) else (some false)
set_option maxHeartbeats 8000000 in
set_option maxRecDepth 100000 in
theorem diffs_in.calls (a0 : Int) (a1 : Int) (a2 : Int) (r : Bool) (w : World) (h : diffs_in.f a0 a1 a2 = some r) :
    Calls Try.prog 75 #[.int .i64 a0, .int .i64 a1, .int .i64 a2] w fun e w' => e = .returned (.bool r) ∧ Drawn0 w w' := by
  have H : (if a0 ≥ a1 then (some (decide (a0 ≤ a2))) else (some false)) = some r := h; clear h; by_cases c4 : a0 ≥ a1
  · rw [if_pos c4] at H
    have c4b0 : decide (a1 ≤ a0) = true := eT_ c4; clear c4; obtain rfl := oI_ H; go_enter Try.func75, Try.ntmps75; go_wp2; go_ret; exact ⟨by first | rfl | (simp; done) | (simp [*]; done), by repeat (first | exact Drawn0.refl _ | apply Drawn0.step)⟩
  rw [if_neg c4] at H; have c4b0 : decide (a1 ≤ a0) = false := eF_ c4; clear c4; obtain rfl := oI_ H; go_enter Try.func75, Try.ntmps75; go_wp2; go_ret; exact ⟨by first | rfl | (simp; done) | (simp [*]; done), by repeat (first | exact Drawn0.refl _ | apply Drawn0.step)⟩
def diffs_right.f (a0_0 : Int) (a0_1 : Int) (a0_2 : Int) (a1 : Int) : Option (Bool) := (diffs_in.f a0_0 0 (wrap64 (a1 - 1))).bind fun t102 => (if t102 = true then ((diffs_in.f a0_1 0 (wrap64 (a1 - 1))).bind fun t103 => (if t103 = true then ((diffs_in.f a0_2 (-1073741824) 1073741824).bind fun t104 => (some t104)) else (some false))) else (some false))
set_option maxHeartbeats 8000000 in
set_option maxRecDepth 100000 in
theorem diffs_right.calls (a0_0 : Int) (a0_1 : Int) (a0_2 : Int) (a1 : Int) (r : Bool) (w : World) (h : diffs_right.f a0_0 a0_1 a0_2 a1 = some r) :
  Calls Try.prog 76 #[.agg #[.int .i64 a0_0, .int .i64 a0_1, .int .i64 a0_2], .int .i64 a1] w fun e w' => e = .returned (.bool r) ∧ Below w.heap.size w w' := by
 have hu39 := Try.underlying39; have HB := Z_ (Below.refl w.heap.size w); have H : ((diffs_in.f a0_0 0 (wrap64 (a1 - 1))).bind fun t102 => (if t102 = true then ((diffs_in.f a0_1 0 (wrap64 (a1 - 1))).bind fun t103 => (if t103 = true then ((diffs_in.f a0_2 (-1073741824) 1073741824).bind fun t104 => (some t104)) else (some false))) else (some false))) = some r := h; clear h; replace H := oS_.mp H; obtain ⟨t102, A30, H⟩ := H; replace H : (if t102 = true then ((diffs_in.f a0_1 0 (wrap64 (a1 - 1))).bind fun t103 => (if t103 = true then ((diffs_in.f a0_2 (-1073741824) 1073741824).bind fun t104 => (some t104)) else (some false))) else (some false)) = some r := H; have A3 := Z_ A30; clear A30; by_cases c4 : t102 = true
 ·subst c4
  have H1 : ((diffs_in.f a0_1 0 (wrap64 (a1 - 1))).bind fun t103 => (if t103 = true then ((diffs_in.f a0_2 (-1073741824) 1073741824).bind fun t104 => (some t104)) else (some false))) = some r := by rw [if_pos rfl] at H; exact H
  clear H; have H := H1; clear H1; replace H := oS_.mp H; obtain ⟨t103, A50, H⟩ := H; replace H : (if t103 = true then ((diffs_in.f a0_2 (-1073741824) 1073741824).bind fun t104 => (some t104)) else (some false)) = some r := H; have A5 := Z_ A50; clear A50; by_cases c6 : t103 = true
  ·subst c6
   have H1 : ((diffs_in.f a0_2 (-1073741824) 1073741824).bind fun t104 => (some t104)) = some r := by rw [if_pos rfl] at H; exact H
   clear H; have H := H1; clear H1; replace H := oS_.mp H; obtain ⟨t104, A70, H⟩ := H; replace H : (some t104) = some r := H; have A7 := Z_ A70; clear A70; obtain rfl := oI_ H; go_enter Try.func76, Try.ntmps76; go_wp2_with (first | ((with_reducible refine gate_dst (N := 2) rfl ?_); refine box_event ?hg (N := 2) ?hd (cs := #[.int .i64 a0_0, .int .i64 a0_1, .int .i64 a0_2]) (t := 39) ?hr ?_; (case hd => rfl); (case hg => rfl); (case hr => first | (go_simp; done) | (go_simp; rfl)); intro gb101 hg w8 hbox hb; have BK101 := Z_ (hbox); have GW101 := Z_ ((by rw [hg]; exact (fZ_ HB.out) : w.heap.size ≤ gb101)); have GE101 := Z_ ((by rw [hg]; exact (fZ_ HB.out) : w.heap.size ≤ gb101)); replace HB := Z_ (fS_ HB.out hb); clear hb hbox hg; have hcz9_0 : w8.cell? ⟨gb101, 0, none⟩ = some (.int .i64 a0_0) := (bC_ BK101.out 0).trans rfl; have hcz9_1 : w8.cell? ⟨gb101, 1, none⟩ = some (.int .i64 a0_1) := (bC_ BK101.out 1).trans rfl; have hcz9_2 : w8.cell? ⟨gb101, 2, none⟩ = some (.int .i64 a0_2) := (bC_ BK101.out 2).trans rfl; have hfz9_0 := bF_ BK101.out 0; have hfz9_1 := bF_ BK101.out 1; have hfz9_2 := bF_ BK101.out 2) | ((with_reducible refine gate_callee (f := 75) rfl ?_); refine goesL_ (some 9) rfl rfl Try.func75 (by kernel_rfl) rfl #[.int .i64 a0_0, .int .i64 0, .int .i64 (wrap64 (a1 - 1))] rfl (by (try simp only [mT_, mC_, mN_]); first | done | rfl | (simp only [lD_, lT_]; rfl)) ?_; (with_reducible refine (diffs_in.calls a0_0 0 (wrap64 (a1 - 1)) true _ A3.out).mono ?_); rintro e w' ⟨rfl, ⟨nd, rfl⟩⟩; refine ⟨_, rfl, ?_⟩) | (go_at_call 75; (with_reducible refine (diffs_in.calls a0_1 0 (wrap64 (a1 - 1)) true _ A5.out).mono ?_); rintro e w' ⟨rfl, ⟨nd, rfl⟩⟩) | (go_at_call 75; (with_reducible refine (diffs_in.calls a0_2 (-1073741824) 1073741824 t104 _ A7.out).mono ?_); rintro e w' ⟨rfl, ⟨nd, rfl⟩⟩)); go_ret; exact ⟨by first | rfl | (simp [errW_none, errW_some] <;> rfl) | (simp [*, errW_none, errW_some] <;> rfl), by repeat (first | (with_reducible first | exact HB.out | apply fA_ | apply pB_ | apply fD_ | refine fE_ ?_ GE101.out) | exact HB.out)⟩
  replace c6 := bE_.mpr c6; subst c6; have H1 : (some false) = some r := by rw [if_neg (show ¬ (false = true) by decide)] at H; exact H
  clear H; have H := H1; clear H1; obtain rfl := oI_ H; go_enter Try.func76, Try.ntmps76; go_wp2_with (first | ((with_reducible refine gate_dst (N := 2) rfl ?_); refine box_event ?hg (N := 2) ?hd (cs := #[.int .i64 a0_0, .int .i64 a0_1, .int .i64 a0_2]) (t := 39) ?hr ?_; (case hd => rfl); (case hg => rfl); (case hr => first | (go_simp; done) | (go_simp; rfl)); intro gb101 hg w10 hbox hb; have BK101 := Z_ (hbox); have GW101 := Z_ ((by rw [hg]; exact (fZ_ HB.out) : w.heap.size ≤ gb101)); have GE101 := Z_ ((by rw [hg]; exact (fZ_ HB.out) : w.heap.size ≤ gb101)); replace HB := Z_ (fS_ HB.out hb); clear hb hbox hg; have hcz11_0 : w10.cell? ⟨gb101, 0, none⟩ = some (.int .i64 a0_0) := (bC_ BK101.out 0).trans rfl; have hcz11_1 : w10.cell? ⟨gb101, 1, none⟩ = some (.int .i64 a0_1) := (bC_ BK101.out 1).trans rfl; have hcz11_2 : w10.cell? ⟨gb101, 2, none⟩ = some (.int .i64 a0_2) := (bC_ BK101.out 2).trans rfl; have hfz11_0 := bF_ BK101.out 0; have hfz11_1 := bF_ BK101.out 1; have hfz11_2 := bF_ BK101.out 2) | ((with_reducible refine gate_callee (f := 75) rfl ?_); refine goesL_ (some 9) rfl rfl Try.func75 (by kernel_rfl) rfl #[.int .i64 a0_0, .int .i64 0, .int .i64 (wrap64 (a1 - 1))] rfl (by (try simp only [mT_, mC_, mN_]); first | done | rfl | (simp only [lD_, lT_]; rfl)) ?_; (with_reducible refine (diffs_in.calls a0_0 0 (wrap64 (a1 - 1)) true _ A3.out).mono ?_); rintro e w' ⟨rfl, ⟨nd, rfl⟩⟩; refine ⟨_, rfl, ?_⟩) | (go_at_call 75; (with_reducible refine (diffs_in.calls a0_1 0 (wrap64 (a1 - 1)) false _ A5.out).mono ?_); rintro e w' ⟨rfl, ⟨nd, rfl⟩⟩)); go_ret; exact ⟨by first | rfl | (simp [errW_none, errW_some] <;> rfl) | (simp [*, errW_none, errW_some] <;> rfl), by repeat (first | (with_reducible first | exact HB.out | apply fA_ | apply pB_ | apply fD_ | refine fE_ ?_ GE101.out) | exact HB.out)⟩
 replace c4 := bE_.mpr c4; subst c4; have H1 : (some false) = some r := by rw [if_neg (show ¬ (false = true) by decide)] at H; exact H
 clear H; have H := H1; clear H1; obtain rfl := oI_ H; go_enter Try.func76, Try.ntmps76; go_wp2_with (first | ((with_reducible refine gate_dst (N := 2) rfl ?_); refine box_event ?hg (N := 2) ?hd (cs := #[.int .i64 a0_0, .int .i64 a0_1, .int .i64 a0_2]) (t := 39) ?hr ?_; (case hd => rfl); (case hg => rfl); (case hr => first | (go_simp; done) | (go_simp; rfl)); intro gb101 hg w12 hbox hb; have BK101 := Z_ (hbox); have GW101 := Z_ ((by rw [hg]; exact (fZ_ HB.out) : w.heap.size ≤ gb101)); have GE101 := Z_ ((by rw [hg]; exact (fZ_ HB.out) : w.heap.size ≤ gb101)); replace HB := Z_ (fS_ HB.out hb); clear hb hbox hg; have hcz13_0 : w12.cell? ⟨gb101, 0, none⟩ = some (.int .i64 a0_0) := (bC_ BK101.out 0).trans rfl; have hcz13_1 : w12.cell? ⟨gb101, 1, none⟩ = some (.int .i64 a0_1) := (bC_ BK101.out 1).trans rfl; have hcz13_2 : w12.cell? ⟨gb101, 2, none⟩ = some (.int .i64 a0_2) := (bC_ BK101.out 2).trans rfl; have hfz13_0 := bF_ BK101.out 0; have hfz13_1 := bF_ BK101.out 1; have hfz13_2 := bF_ BK101.out 2) | ((with_reducible refine gate_callee (f := 75) rfl ?_); refine goesL_ (some 9) rfl rfl Try.func75 (by kernel_rfl) rfl #[.int .i64 a0_0, .int .i64 0, .int .i64 (wrap64 (a1 - 1))] rfl (by (try simp only [mT_, mC_, mN_]); first | done | rfl | (simp only [lD_, lT_]; rfl)) ?_; (with_reducible refine (diffs_in.calls a0_0 0 (wrap64 (a1 - 1)) false _ A3.out).mono ?_); rintro e w' ⟨rfl, ⟨nd, rfl⟩⟩; refine ⟨_, rfl, ?_⟩)); go_ret; exact ⟨by first | rfl | (simp [errW_none, errW_some] <;> rfl) | (simp [*, errW_none, errW_some] <;> rfl), by repeat (first | (with_reducible first | exact HB.out | apply fA_ | apply pB_ | apply fD_ | refine fE_ ?_ GE101.out) | exact HB.out)⟩
mutual
def diffs_Check.j0 : Nat → Bool → Int → List (S39) → Option (Int)
 | 0, _, _, _ => none
 | k + 1, x14, x106000, x106001 => if x14 = true then (some 40) else (diffs_Check.l0 k x106001 (x106001.length : Int) 0 x106000 x106001)
def diffs_Check.l0 : Nat → List (S39) → Int → Int → Int → List (S39) → Option (Int)
 | 0, _, _, _, _, _ => none
 | k + 1, x16, x17, x18, x106000, x106001 => if x18 < x17 then (if 0 ≤ x18 then (if x18 < (x16.length : Int) then ((diffs_right.f ((rd_T39 x16 x18).f0) ((rd_T39 x16 x18).f1) ((rd_T39 x16 x18).f2) x106000).bind fun t109 => (if t109 = true then (diffs_Check.l0 k x16 x17 (wrap64 (x18 + 1)) x106000 x106001) else (some 40))) else (none)) else (none)) else (some 0)
end
def diffs_Check.f (k : Nat) (a0_0 : Int) (l0_1 : List (S39)) : Option (Int) := (diffs_in.f a0_0 1 256).bind fun t106 => (if t106 = true then (diffs_Check.j0 k (decide ((l0_1.length : Int) > 4096)) a0_0 l0_1) else (diffs_Check.j0 k true a0_0 l0_1))
theorem diffs_Check.mono_l : ∀ k, (∀ y0 y1 y2, LeO (diffs_Check.j0 k y0 y1 y2) (diffs_Check.j0 (k + 1) y0 y1 y2)) ∧ (∀ y0 y1 y2 y3 y4, LeO (diffs_Check.l0 k y0 y1 y2 y3 y4) (diffs_Check.l0 (k + 1) y0 y1 y2 y3 y4))
 | 0 => ⟨fun _ _ _ r h => by simp [diffs_Check.j0] at h, fun _ _ _ _ _ r h => by simp [diffs_Check.l0] at h⟩
 | k + 1 => by
  obtain ⟨ih0, ih1⟩ := diffs_Check.mono_l k; refine ⟨?_, ?_⟩ <;> intros <;> (first | unfold diffs_Check.j0 | unfold diffs_Check.l0) <;> repeat' first | (with_reducible first | exact ih0 _ _ _ | exact ih1 _ _ _ _ _ | exact LeO.refl _ | exact LeO.none _ | refine LeO.ite ?_ ?_ | refine LeO.bind ?_ (fun _ => ?_)) | exact ih0 _ _ _ | exact ih1 _ _ _ _ _ | exact LeO.none _ | refine LeO.ite ?_ ?_ | refine LeO.bind ?_ (fun _ => ?_)
theorem diffs_Check.mono : ∀ a0 a1 k, LeO (diffs_Check.f k a0 a1) (diffs_Check.f (k + 1) a0 a1) := by
 intro a0 a1 k; obtain ⟨ih0, ih1⟩ := diffs_Check.mono_l k; unfold diffs_Check.f; repeat' first | (with_reducible first | exact ih0 _ _ _ | exact ih1 _ _ _ _ _ | exact LeO.refl _ | exact LeO.none _ | refine LeO.ite ?_ ?_ | refine LeO.bind ?_ (fun _ => ?_)) | exact ih0 _ _ _ | exact ih1 _ _ _ _ _ | exact LeO.none _ | refine LeO.ite ?_ ?_ | refine LeO.bind ?_ (fun _ => ?_)
set_option maxHeartbeats 8000000 in
set_option maxRecDepth 100000 in
theorem diffs_Check.calls (k : Nat) (a0_0 : Int) (A0_1 : Option Addr) (c0_1 : Nat) (l0_1 : List (S39)) (r : Int) (w : World) (hr0_1 : Kd.C k39 w A0_1 l0_1.length l0_1) (hc0_1 : l0_1.length ≤ c0_1) (h : diffs_Check.f k a0_0 l0_1 = some r) :
  Calls Try.prog 29 #[.agg #[.int .i64 a0_0, .slice A0_1 l0_1.length c0_1]] w fun e w' => e = .returned (.int .i64 r) ∧ Below w.heap.size w w' := by
 have hu24 := Try.underlying24; have hu39 := Try.underlying39; have HR0_1 := Z_ hr0_1; have HC0_1 := Z_ hc0_1; clear hr0_1 hc0_1; have HB := Z_ (Below.refl w.heap.size w); have H : ((diffs_in.f a0_0 1 256).bind fun t106 => (if t106 = true then (diffs_Check.j0 k (decide ((l0_1.length : Int) > 4096)) a0_0 l0_1) else (diffs_Check.j0 k true a0_0 l0_1))) = some r := h; clear h; have HC2 := Z_ H; clear H; go_enter Try.func29, Try.ntmps29; go_upto_region 1 with (first | ((with_reducible refine gate_dst (N := 1) rfl ?_); (try (refine gate_guard (by rfl) ?_; dsimp only)); refine box_event ?hg (N := 1) ?hd (cs := #[.int .i64 a0_0, .slice A0_1 l0_1.length c0_1]) (t := 24) ?hr ?_; (case hd => rfl); (case hg => rfl); (case hr => first | (go_simp; done) | (go_simp; rfl)); intro gb105 hg w3 hbox hb; have BK105 := Z_ (hbox); have GW105 := Z_ ((by rw [hg]; exact (fZ_ HB.out) : w.heap.size ≤ gb105)); have GE105 := Z_ ((by rw [hg]; exact (fZ_ HB.out) : w.heap.size ≤ gb105)); replace HB := Z_ (fS_ HB.out hb); clear hb hbox hg)); (try simp only [Act.put, sT_, sZ_, sS_])
 go_cut [14] (fun v14 wc => ∃ (kq : Nat) (x14_1 : Bool), v14 = .bool x14_1 ∧ Aside0 (diffs_Check.j0 kq x14_1 a0_0 l0_1 = some r) ∧ Aside0 (kq ≤ k) ∧ Aside0 (wc.heap[gb105]? = some (.cells #[.int .i64 a0_0, (.slice A0_1 l0_1.length c0_1)] 24 (0, 0))) ∧ Aside0 (Below w.heap.size w wc))
 case first =>
  have H := HC2.out; clear HC2; replace H := oS_.mp H; obtain ⟨t106, A40, H⟩ := H; replace H : (if t106 = true then (diffs_Check.j0 k (decide ((l0_1.length : Int) > 4096)) a0_0 l0_1) else (diffs_Check.j0 k true a0_0 l0_1)) = some r := H; have A4 := Z_ A40; clear A40; by_cases c5 : t106 = true
  ·subst c5
   have H1 : (diffs_Check.j0 k (decide ((l0_1.length : Int) > 4096)) a0_0 l0_1) = some r := by rw [if_pos rfl] at H; exact H
   clear H; have H := H1; clear H1; have H' := Z_ H; clear H; have hcz6_0 : w3.cell? ⟨gb105, 0, none⟩ = some (.int .i64 a0_0) := (bC_ BK105.out 0).trans rfl; have hcz6_1 : w3.cell? ⟨gb105, 1, none⟩ = some (.slice A0_1 l0_1.length c0_1) := (bC_ BK105.out 1).trans rfl; have hfz6_0 := bF_ BK105.out 0; have hfz6_1 := bF_ BK105.out 1; go_wp2_with (first | ((with_reducible refine gate_callee (f := 75) rfl ?_); refine goesL_ (some 7) rfl rfl Try.func75 (by kernel_rfl) rfl #[.int .i64 a0_0, .int .i64 1, .int .i64 256] rfl (by (try simp only [mT_, mC_, mN_]); first | done | rfl | (simp only [lD_, lT_]; rfl)) ?_; (with_reducible refine (diffs_in.calls a0_0 1 256 true _ A4.out).mono ?_); rintro e w' ⟨rfl, ⟨nd, rfl⟩⟩; refine ⟨_, rfl, ?_⟩)); go_meet
   case rel => exact ⟨_, (decide ((l0_1.length : Int) > 4096)), (by first | rfl | (simp; done) | (simp [*]; done)), H', ⟨by first | omega | exact nR_ _⟩, ⟨by (with_reducible repeat (first | refine bN_ ?_ _ | refine bD_ ?_)); exact BK105.out⟩, ⟨by repeat (first | (with_reducible first | exact HB.out | apply fA_ | apply pB_ | apply fD_ | refine fE_ ?_ GE105.out) | exact HB.out)⟩⟩
  replace c5 := bE_.mpr c5; subst c5; have H1 : (diffs_Check.j0 k true a0_0 l0_1) = some r := by rw [if_neg (show ¬ (false = true) by decide)] at H; exact H
  clear H; have H := H1; clear H1; have H' := Z_ H; clear H; have hcz7_0 : w3.cell? ⟨gb105, 0, none⟩ = some (.int .i64 a0_0) := (bC_ BK105.out 0).trans rfl; have hcz7_1 : w3.cell? ⟨gb105, 1, none⟩ = some (.slice A0_1 l0_1.length c0_1) := (bC_ BK105.out 1).trans rfl; have hfz7_0 := bF_ BK105.out 0; have hfz7_1 := bF_ BK105.out 1; go_wp2_with (first | ((with_reducible refine gate_callee (f := 75) rfl ?_); refine goesL_ (some 7) rfl rfl Try.func75 (by kernel_rfl) rfl #[.int .i64 a0_0, .int .i64 1, .int .i64 256] rfl (by (try simp only [mT_, mC_, mN_]); first | done | rfl | (simp only [lD_, lT_]; rfl)) ?_; (with_reducible refine (diffs_in.calls a0_0 1 256 false _ A4.out).mono ?_); rintro e w' ⟨rfl, ⟨nd, rfl⟩⟩; refine ⟨_, rfl, ?_⟩)); go_meet
  case rel => exact ⟨_, (true), (by first | rfl | (simp; done) | (simp [*]; done)), H', ⟨by first | omega | exact nR_ _⟩, ⟨by (with_reducible repeat (first | refine bN_ ?_ _ | refine bD_ ?_)); exact BK105.out⟩, ⟨by repeat (first | (with_reducible first | exact HB.out | apply fA_ | apply pB_ | apply fD_ | refine fE_ ?_ GE105.out) | exact HB.out)⟩⟩
 case rest =>
  clear HC2; (try clear c2); (try clear p2); (try clear c5); (try clear c7); (try clear hcz6_0); (try clear hcz6_1); (try clear hcz7_0); (try clear hcz7_1); (try clear hfz6_0); (try clear hfz6_1); (try clear hfz7_0); (try clear hfz7_1)
  obtain ⟨kq, x14_1, rfl, HA, HJ1, BK105, HB⟩ := hcut
  cases kq with
  | zero => exact absurd HA.out (by simp [diffs_Check.j0])
  | succ kj1 =>
   have H := HA.out; clear HA; simp only [diffs_Check.j0] at H; by_cases c8 : x14_1 = true
   ·subst c8
    have H1 : (some 40) = some r := by rw [if_pos rfl] at H; exact H
    clear H; have H := H1; clear H1; obtain rfl := oI_ H; go_wp2; go_ret; exact ⟨by first | rfl | (simp [errW_none, errW_some] <;> rfl) | (simp [*, errW_none, errW_some] <;> rfl), HB.out⟩
   replace c8 := bE_.mpr c8; subst c8; have H1 : (diffs_Check.l0 kj1 l0_1 (l0_1.length : Int) 0 a0_0 l0_1) = some r := by rw [if_neg (show ¬ (false = true) by decide)] at H; exact H
   clear H; have H := H1; clear H1; have H' := Z_ H; clear H; have hcz9_0 : wc.cell? ⟨gb105, 0, none⟩ = some (.int .i64 a0_0) := (bC_ BK105.out 0).trans rfl; have hcz9_1 : wc.cell? ⟨gb105, 1, none⟩ = some (.slice A0_1 l0_1.length c0_1) := (bC_ BK105.out 1).trans rfl; have hfz9_0 := bF_ BK105.out 0; have hfz9_1 := bF_ BK105.out 1; go_wp2; go_loopg [18] kj1 (fun kq v18 w' => ∃ (x18_2 : Int), v18 = .int .i64 x18_2 ∧ Aside0 (diffs_Check.l0 kq l0_1 (l0_1.length : Int) x18_2 a0_0 l0_1 = some r) ∧ Aside0 (kq ≤ kj1) ∧ Aside0 (w'.heap[gb105]? = some (.cells #[.int .i64 a0_0, (.slice A0_1 l0_1.length c0_1)] 24 (0, 0))) ∧ Aside0 (Below w.heap.size w w'))
   case atStart => exact ⟨(0), (by first | rfl | (simp; done) | (simp [*]; done)), H', ⟨nR_ _⟩, ⟨BK105.out⟩, ⟨HB.out⟩⟩
   case round =>
    clear H'; (try clear c2); (try clear p2); (try clear c5); (try clear c7); (try clear c8); (try clear hcz6_0); (try clear hcz6_1); (try clear hcz7_0); (try clear hcz7_1); (try clear hcz9_0); (try clear hcz9_1); (try clear hfz6_0); (try clear hfz6_1); (try clear hfz7_0); (try clear hfz7_1); (try clear hfz9_0); (try clear hfz9_1); (try clear p2)
    obtain ⟨x18_2, rfl, HA, HK2, BK105, HB⟩ := hrel
    cases gk with
    | zero => exact absurd HA.out (by simp [diffs_Check.l0])
    | succ k2 =>
     have H := HA.out; clear HA; simp only [diffs_Check.l0] at H; by_cases c10 : x18_2 < (l0_1.length : Int)
     ·rw [if_pos c10] at H
      have c10b0 : decide (x18_2 < (l0_1.length : Int)) = true := eT_ c10; clear c10; by_cases c11 : 0 ≤ x18_2
      ·rw [if_pos c11] at H
       have c11b0 : decide (0 ≤ x18_2) = true := eT_ c11; clear c11; by_cases c12 : x18_2 < (l0_1.length : Int)
       ·rw [if_pos c12] at H
        have c12b0 : decide (x18_2 < (l0_1.length : Int)) = true := eT_ c12; clear c12; replace H := oS_.mp H; obtain ⟨t109, A130, H⟩ := H; replace H : (if t109 = true then (diffs_Check.l0 k2 l0_1 (l0_1.length : Int) (wrap64 (x18_2 + 1)) a0_0 l0_1) else (some 40)) = some r := H; have A13 := Z_ A130; clear A130; have HF14 := Z_ H; clear H; have p107 : 0 ≤ (x18_2 : Int) := dT_ (by first | (with_reducible assumption) | assumption); have q107 : x18_2 < (l0_1.length : Int) := dT_ (by first | (with_reducible assumption) | assumption); obtain ⟨ad107, e107, hx107_0, hx107_1, hx107_2⟩ := at_T39 HR0_1.out x18_2 p107 q107; cases e107
        replace hx107_0 := (HB.out.cell (World.block_lt_of_cell? w _ hx107_0)).trans hx107_0; replace hx107_1 := (HB.out.cell (World.block_lt_of_cell? w _ hx107_1)).trans hx107_1; replace hx107_2 := (HB.out.cell (World.block_lt_of_cell? w _ hx107_2)).trans hx107_2; replace p107 := eq_true p107; replace q107 := eq_true q107; go_upto_if 26 with (first | ((with_reducible refine gate_dst (N := 4) rfl ?_); (try (refine gate_guard (by rfl) ?_; dsimp only)); refine box_event ?hg (N := 4) ?hd (cs := #[.int .i64 0, .int .i64 0, .int .i64 0]) (t := 39) ?hr ?_; (case hd => rfl); (case hg => rfl); (case hr => first | (go_simp; done) | (go_simp; rfl)); intro gb108 hg w15 hbox hb; have BK108 := Z_ (hbox); have GW108 := Z_ ((by rw [hg]; exact (fZ_ (by repeat (first | (with_reducible first | exact HB.out | apply fA_ | apply pB_ | apply fD_ | refine fE_ ?_ GE105.out) | exact HB.out))) : w.heap.size ≤ gb108)); have GE108 := Z_ ((by rw [hg]; exact (fZ_ (by repeat (first | (with_reducible first | exact HB.out | apply fA_ | apply pB_ | apply fD_ | refine fE_ ?_ GE105.out) | exact HB.out))) : w.heap.size ≤ gb108)); replace HB := Z_ (fS_ (by repeat (first | (with_reducible first | exact HB.out | apply fA_ | apply pB_ | apply fD_ | refine fE_ ?_ GE105.out) | exact HB.out)) hb); have NB105_108 := Z_ ((by rw [hg]; exact Nat.ne_of_lt (blk_lt (g := gb105) (o := .cells #[.int .i64 a0_0, .slice (some ad107) l0_1.length c0_1] 24 (0, 0)) (by (with_reducible repeat (first | refine bN_ ?_ _ | refine bD_ ?_)); exact BK105.out)) : gb105 ≠ gb108)); have NB108_105 := Z_ ((by rw [hg]; exact Nat.ne_of_gt (blk_lt (g := gb105) (o := .cells #[.int .i64 a0_0, .slice (some ad107) l0_1.length c0_1] 24 (0, 0)) (by (with_reducible repeat (first | refine bN_ ?_ _ | refine bD_ ?_)); exact BK105.out)) : gb108 ≠ gb105)); replace BK105 := Z_ (bB_ (g := gb105) (o := .cells #[.int .i64 a0_0, .slice (some ad107) l0_1.length c0_1] 24 (0, 0)) (by (with_reducible repeat (first | refine bN_ ?_ _ | refine bD_ ?_)); exact BK105.out) hb); clear hb hbox hg; have hnb16 := NB108_105.out; have hnc16 := NB105_108.out; have hcz17_0 : w15.cell? ⟨gb108, 0, none⟩ = some (.int .i64 0) := (bC_ BK108.out 0).trans rfl; have hcz17_1 : w15.cell? ⟨gb108, 1, none⟩ = some (.int .i64 0) := (bC_ BK108.out 1).trans rfl; have hcz17_2 : w15.cell? ⟨gb108, 2, none⟩ = some (.int .i64 0) := (bC_ BK108.out 2).trans rfl; have hfz17_0 := bF_ BK108.out 0; have hfz17_1 := bF_ BK108.out 1; have hfz17_2 := bF_ BK108.out 2; have hcz18_0 : w15.cell? ⟨gb105, 0, none⟩ = some (.int .i64 a0_0) := (bC_ BK105.out 0).trans rfl; have hcz18_1 : w15.cell? ⟨gb105, 1, none⟩ = some (.slice (some ad107) l0_1.length c0_1) := (bC_ BK105.out 1).trans rfl; have hfz18_0 := bF_ BK105.out 0; have hfz18_1 := bF_ BK105.out 1) | ((with_reducible refine gate_callee (f := 76) rfl ?_); refine goesL_ (some 25) rfl rfl Try.func76 (by kernel_rfl) rfl #[.agg #[.int .i64 ((rd_T39 l0_1 x18_2).f0), .int .i64 ((rd_T39 l0_1 x18_2).f1), .int .i64 ((rd_T39 l0_1 x18_2).f2)], .int .i64 a0_0] rfl (by (try simp only [mT_, mC_, mN_]); first | done | rfl | (simp only [lD_, lT_]; rfl)) ?_; (with_reducible refine (diffs_right.calls ((rd_T39 l0_1 x18_2).f0) ((rd_T39 l0_1 x18_2).f1) ((rd_T39 l0_1 x18_2).f2) a0_0 t109 _ A13.out).mono ?_); rintro e w19 ⟨rfl, hb⟩; refine ⟨_, rfl, ?_⟩; replace BK105 := Z_ (bB_ (g := gb105) (o := .cells #[.int .i64 a0_0, .slice (some ad107) l0_1.length c0_1] 24 (0, 0)) (by (with_reducible repeat (first | refine bN_ ?_ _ | refine bD_ ?_)); refine blk_far ?_ NB105_108.out _; (with_reducible repeat (first | refine bN_ ?_ _ | refine bD_ ?_)); refine blk_far ?_ NB105_108.out _; (with_reducible repeat (first | refine bN_ ?_ _ | refine bD_ ?_)); refine blk_far ?_ NB105_108.out _; (with_reducible repeat (first | refine bN_ ?_ _ | refine bD_ ?_)); exact BK105.out) hb); replace BK108 := Z_ (bB_ (g := gb108) (o := .cells #[.int .i64 ((rd_T39 l0_1 x18_2).f0), .int .i64 ((rd_T39 l0_1 x18_2).f1), .int .i64 ((rd_T39 l0_1 x18_2).f2)] 39 (0, 0)) (by (with_reducible repeat (first | refine bN_ ?_ _ | refine bD_ ?_)); refine blk_put (cs := #[.int .i64 ((rd_T39 l0_1 x18_2).f0), .int .i64 ((rd_T39 l0_1 x18_2).f1), .int .i64 0]) ?_ 2 _ rfl; (with_reducible repeat (first | refine bN_ ?_ _ | refine bD_ ?_)); refine blk_put (cs := #[.int .i64 ((rd_T39 l0_1 x18_2).f0), .int .i64 0, .int .i64 0]) ?_ 1 _ rfl; (with_reducible repeat (first | refine bN_ ?_ _ | refine bD_ ?_)); refine blk_put (cs := #[.int .i64 0, .int .i64 0, .int .i64 0]) ?_ 0 _ rfl; (with_reducible repeat (first | refine bN_ ?_ _ | refine bD_ ?_)); exact BK108.out) hb); replace HB := Z_ (fS_ (by repeat (first | (with_reducible first | exact HB.out | apply fA_ | apply pB_ | apply fD_ | refine fE_ ?_ GE105.out | refine fE_ ?_ GE108.out) | exact HB.out)) hb); (try clear hb); (try clear hb2); (try clear hk); (try clear hi))); (try simp only [Act.put, sT_, sZ_, sS_])
        have H := HF14.out; clear HF14; by_cases c20 : t109 = true
        ·subst c20
         have H1 : (diffs_Check.l0 k2 l0_1 (l0_1.length : Int) (wrap64 (x18_2 + 1)) a0_0 l0_1) = some r := by rw [if_pos rfl] at H; exact H
         clear H; have H := H1; clear H1; have H' := Z_ H; clear H; go_wp2; go_roundg k2
         case measure => have := HJ1.out; have := HK2.out; omega
         case rel => exact ⟨(wrap64 (x18_2 + 1)), (by first | rfl | (simp; done) | (simp [*]; done)), H', ⟨by have := HJ1.out; have := HK2.out; omega⟩, ⟨by (with_reducible repeat (first | refine bN_ ?_ _ | refine bD_ ?_)); exact BK105.out⟩, ⟨by repeat (first | (with_reducible first | exact HB.out | apply fA_ | apply pB_ | apply fD_ | refine fE_ ?_ GE105.out | refine fE_ ?_ GE108.out) | exact HB.out)⟩⟩
        replace c20 := bE_.mpr c20; subst c20; have H1 : (some 40) = some r := by rw [if_neg (show ¬ (false = true) by decide)] at H; exact H
        clear H; have H := H1; clear H1; obtain rfl := oI_ H; go_wp2; go_ret; exact ⟨by first | rfl | (simp [errW_none, errW_some] <;> rfl) | (simp [*, errW_none, errW_some] <;> rfl), by repeat (first | (with_reducible first | exact HB.out | apply fA_ | apply pB_ | apply fD_ | refine fE_ ?_ GE105.out | refine fE_ ?_ GE108.out) | exact HB.out)⟩
       rw [if_neg c12] at H; exact absurd H (by simp)
      rw [if_neg c11] at H; exact absurd H (by simp)
     rw [if_neg c10] at H; have c10b0 : decide (x18_2 < (l0_1.length : Int)) = false := eF_ c10; clear c10; obtain rfl := oI_ H; go_wp2; go_ret; exact ⟨by first | rfl | (simp [errW_none, errW_some] <;> rfl) | (simp [*, errW_none, errW_some] <;> rfl), HB.out⟩
def diffs_asked.f (k : Nat) (a0_0 : Int) (l0_1 : List (S39)) (l1 : List Bool) : Option (Int) := (diffs_Check.f k a0_0 l0_1).bind fun t190 => (if t190 = 0 then ((slices_Contains_bool_bool.f k l1 false).bind fun t191 => (if t191 = true then (some 1) else (some 0))) else (some t190))
theorem diffs_asked.mono : ∀ a0 a1 a2 k, LeO (diffs_asked.f k a0 a1 a2) (diffs_asked.f (k + 1) a0 a1 a2) := by
 intro a0 a1 a2 k; unfold diffs_asked.f; repeat' first | (with_reducible first | exact diffs_Check.mono _ _ _ | exact slices_Contains_bool_bool.mono _ _ _ | exact LeO.refl _ | exact LeO.none _ | refine LeO.ite ?_ ?_ | refine LeO.bind ?_ (fun _ => ?_)) | exact diffs_Check.mono _ _ _ | exact slices_Contains_bool_bool.mono _ _ _ | exact LeO.none _ | refine LeO.ite ?_ ?_ | refine LeO.bind ?_ (fun _ => ?_)
set_option maxHeartbeats 8000000 in
set_option maxRecDepth 100000 in
theorem diffs_asked.calls (k : Nat) (a0_0 : Int) (A0_1 : Option Addr) (c0_1 : Nat) (l0_1 : List (S39)) (A1 : Option Addr) (c1 : Nat) (l1 : List Bool) (r : Int) (w : World) (hr0_1 : Kd.C k39 w A0_1 l0_1.length l0_1) (hc0_1 : l0_1.length ≤ c0_1) (hr1 : Kd.C Kd.bool w A1 l1.length l1) (hc1 : l1.length ≤ c1) (h : diffs_asked.f k a0_0 l0_1 l1 = some r) :
  Calls Try.prog 77 #[.agg #[.int .i64 a0_0, .slice A0_1 l0_1.length c0_1], .slice A1 l1.length c1] w fun e w' => e = .returned (.int .i64 r) ∧ Below w.heap.size w w' := by
 have hu24 := Try.underlying24; have HR0_1 := Z_ hr0_1; have HC0_1 := Z_ hc0_1; clear hr0_1 hc0_1; have HR1 := Z_ hr1; have HC1 := Z_ hc1; clear hr1 hc1; have HB := Z_ (Below.refl w.heap.size w); have H : ((diffs_Check.f k a0_0 l0_1).bind fun t190 => (if t190 = 0 then ((slices_Contains_bool_bool.f k l1 false).bind fun t191 => (if t191 = true then (some 1) else (some 0))) else (some t190))) = some r := h; clear h; replace H := oS_.mp H; obtain ⟨t190, A30, H⟩ := H; replace H : (if t190 = 0 then ((slices_Contains_bool_bool.f k l1 false).bind fun t191 => (if t191 = true then (some 1) else (some 0))) else (some t190)) = some r := H; have A3 := Z_ A30; clear A30; have HF4 := Z_ H; clear H; go_enter Try.func77, Try.ntmps77; go_upto_if 9 with (first | ((with_reducible refine gate_dst (N := 2) rfl ?_); refine box_event ?hg (N := 2) ?hd (cs := #[.int .i64 a0_0, .slice A0_1 l0_1.length c0_1]) (t := 24) ?hr ?_; (case hd => rfl); (case hg => rfl); (case hr => first | (go_simp; done) | (go_simp; rfl)); intro gb189 hg w5 hbox hb; have BK189 := Z_ (hbox); have GW189 := Z_ ((by rw [hg]; exact (fZ_ HB.out) : w.heap.size ≤ gb189)); have GE189 := Z_ ((by rw [hg]; exact (fZ_ HB.out) : w.heap.size ≤ gb189)); replace HB := Z_ (fS_ HB.out hb); clear hb hbox hg; have hcz6_0 : w5.cell? ⟨gb189, 0, none⟩ = some (.int .i64 a0_0) := (bC_ BK189.out 0).trans rfl; have hcz6_1 : w5.cell? ⟨gb189, 1, none⟩ = some (.slice A0_1 l0_1.length c0_1) := (bC_ BK189.out 1).trans rfl; have hfz6_0 := bF_ BK189.out 0; have hfz6_1 := bF_ BK189.out 1) | ((with_reducible refine gate_callee (f := 29) rfl ?_); refine goesL_ (some 7) rfl rfl Try.func29 (by kernel_rfl) rfl #[.agg #[.int .i64 a0_0, .slice A0_1 l0_1.length c0_1]] rfl (by (try simp only [mT_, mC_, mN_]); first | done | rfl | (simp only [lD_, lT_]; rfl)) ?_; (with_reducible refine (diffs_Check.calls k a0_0 _ _ l0_1 t190 _ ?side1 ?side2 A3.out).mono ?_); (case side1 => exact (cB_ HR0_1.out HB.out)); (case side2 => exact HC0_1.out); rintro e w7 ⟨rfl, hb⟩; refine ⟨_, rfl, ?_⟩; replace BK189 := Z_ (bB_ (g := gb189) (o := .cells #[.int .i64 a0_0, .slice A0_1 l0_1.length c0_1] 24 (0, 0)) BK189.out hb); replace HB := Z_ (fS_ HB.out hb); (try clear hb); (try clear hb2); (try clear hk); (try clear hi))); (try simp only [Act.put, sT_, sZ_, sS_])
 have H := HF4.out; clear HF4; by_cases c8 : t190 = 0
 ·rw [if_pos c8] at H
  have c8b0 : (t190 == 0) = true := beq_iff_eq.mpr c8; have c8b1 : (t190 != 0) = false := bne_eq_false_iff_eq.mpr c8; clear c8; (first | rw [c8b0] | (simp only [i64_w, i32_w]; rw [c8b0]) | skip)
  replace H := oS_.mp H; obtain ⟨t191, A90, H⟩ := H; replace H : (if t191 = true then (some 1) else (some 0)) = some r := H; have A9 := Z_ A90; clear A90; have HF10 := Z_ H; clear H; go_upto_if 12 with (first | ((with_reducible refine gate_callee (f := 109) rfl ?_); refine goesL_ (some 12) rfl rfl Try.func109 (by kernel_rfl) rfl #[.slice A1 l1.length c1, .bool false] rfl (by (try simp only [mT_, mC_, mN_]); first | done | rfl | (simp only [lD_, lT_]; rfl)) ?_; (with_reducible refine (slices_Contains_bool_bool.calls k _ _ l1 false t191 _ ?side1 ?side2 A9.out).mono ?_); (case side1 => exact (cB_ HR1.out HB.out)); (case side2 => exact HC1.out); rintro e w' ⟨rfl, ⟨nd, rfl⟩⟩; refine ⟨_, rfl, ?_⟩)); (try simp only [Act.put, sT_, sZ_, sS_])
  have H := HF10.out; clear HF10; by_cases c11 : t191 = true
  ·subst c11
   have H1 : (some 1) = some r := by rw [if_pos rfl] at H; exact H
   clear H; have H := H1; clear H1; obtain rfl := oI_ H; go_wp2; go_ret; exact ⟨by first | rfl | (simp [errW_none, errW_some] <;> rfl) | (simp [*, errW_none, errW_some] <;> rfl), by repeat (first | (with_reducible first | exact HB.out | apply fA_ | apply pB_ | apply fD_ | refine fE_ ?_ GE189.out) | exact HB.out)⟩
  replace c11 := bE_.mpr c11; subst c11; have H1 : (some 0) = some r := by rw [if_neg (show ¬ (false = true) by decide)] at H; exact H
  clear H; have H := H1; clear H1; obtain rfl := oI_ H; go_wp2; go_ret; exact ⟨by first | rfl | (simp [errW_none, errW_some] <;> rfl) | (simp [*, errW_none, errW_some] <;> rfl), by repeat (first | (with_reducible first | exact HB.out | apply fA_ | apply pB_ | apply fD_ | refine fE_ ?_ GE189.out) | exact HB.out)⟩
 rw [if_neg c8] at H; have c8b0 : (t190 == 0) = false := beq_eq_false_iff_ne.mpr c8; have c8b1 : (t190 != 0) = true := bne_iff_ne.mpr c8; (first | rw [c8b0] | (simp only [i64_w, i32_w]; rw [c8b0]) | skip)
 obtain rfl := oI_ H; go_wp2; go_ret; exact ⟨by first | rfl | (simp [errW_none, errW_some] <;> rfl) | (simp [*, errW_none, errW_some] <;> rfl), HB.out⟩
end Go.Proofs.Ytpolojoeabmhdaa.A
/- solve, Check, asked: what they answer. -/
namespace Go.Proofs.Ytpolojoeabmhdaa.A
open Go.RowKit Go.Proofs.YtpolojoeabmhdaaW.PrintWords Go.Proofs.YtpolojoeabmhdaaW.PrintLast Go.Proofs.YtpolojoeabmhdaaW.PrintMore
def allL (n : Nat) : List Int := (List.range n).map fun (i : Nat) => (i : Int)
theorem mem_allL {n : Nat} {v : Int} : v ∈ allL n ↔ 0 ≤ v ∧ v < (n : Int) := by
  unfold allL
  rw [List.mem_map]
  constructor
  · rintro ⟨i, hi, rfl⟩
    have := List.mem_range.1 hi
    omega
  · intro h
    exact ⟨v.toNat, List.mem_range.2 (by omega), by omega⟩
theorem all_l0 (n : Nat) (hn : n ≤ 65536) : ∀ (q i f : Nat), q + i = n → diffs_all.l0 (f + q + 1) (allL i) n i = some (allL n)
  | 0, i, f, hq => by
    rw [diffs_all.l0, if_neg (by omega), show i = n from by omega]
  | q + 1, i, f, hq => by
    rw [show f + (q + 1) + 1 = (f + q + 1) + 1 from by omega, diffs_all.l0, if_pos (by omega), if_pos (by unfold allL; simp; omega), wrap_id (by omega) (by omega)]
    have := all_l0 n hn q (i + 1) f (by omega)
    rw [show allL (i + 1) = allL i ++ [(i : Int)] from by unfold allL; rw [List.range_succ, List.map_append]; rfl] at this
    exact this
theorem all_ev (n : Nat) (hn : n ≤ 65536) (L : List S39) : Ev (fun k => diffs_all.f k n L) (allL n) :=
  Ev.shift (n + 1) (h := fun _ => some (allL n)) (fun f => by
    unfold diffs_all.f diffs_plain_nodes.f
    simp only [Option.bind_some]
    have := all_l0 n hn n 0 f (by omega)
    rw [show ((0 : Nat) : Int) = 0 from rfl] at this
    exact this) (Ev.now _)
/-- The numbers, moved so that the first one is 0. -/
theorem solve_l0 (lo : List Int) (ha : List Bool) (la : List Int) (hl : ∀ v, 0 ≤ v → v < (lo.length : Int) → -2305843009213693952 ≤ rd lo v ∧ rd lo v ≤ 2305843009213693952) (hl2 : lo.length ≤ 65536) : ∀ (q : Nat) (i : Int) (x : List Int) (f : Nat), (q : Int) + i = lo.length → 0 ≤ i → x.length = lo.length → (∀ v, 0 ≤ v → v < (lo.length : Int) → rd x v = if v < i then rd lo v - rd lo 0 else rd lo v) →
    ∃ y, diffs_solve.l0 (f + q + 1) x lo.length i lo ha la = some (y, lo, ha, la, -1) ∧ y.length = lo.length ∧ ∀ v, 0 ≤ v → v < (lo.length : Int) → rd y v = rd lo v - rd lo 0
  | 0, i, x, f, hq, hi, hx, hv => by
    refine ⟨x, ?_, hx, fun v h0 h1 => by rw [hv v h0 h1, if_pos (by omega)]⟩
    rw [diffs_solve.l0, if_neg (by omega)]
  | q + 1, i, x, f, hq, hi, hx, hv => by
    have hlt : i < (lo.length : Int) := by omega
    have b0 := hl 0 (by omega) (by omega)
    have b1 := hl i hi hlt
    have e : rd x i = rd lo i := by rw [hv i hi hlt, if_neg (by omega)]
    rw [show f + (q + 1) + 1 = (f + q + 1) + 1 from by omega, diffs_solve.l0, if_pos hlt, if_pos hi, if_pos (by rw [hx]; exact hlt), if_pos (by omega), e, wrap_id (by omega) (by omega), wrap_id (by omega) (by omega)]
    refine solve_l0 lo ha la hl hl2 q (i + 1) _ f (by omega) (by omega) (by rw [List.length_set]; exact hx) (fun v h0 h1 => ?_)
    rw [rd_set _ _ _ _ hi (by omega) h0]
    by_cases ev : v = i
    · rw [if_pos ev, if_pos (by omega), ev]
    · rw [if_neg ev, hv v h0 h1]
      by_cases h2 : v < i
      · rw [if_pos h2, if_pos (by omega)]
      · rw [if_neg h2, if_neg (by omega)]
section
variable {n : Nat} {L : List S39}
/-- What solve answers. -/
theorem solve_ev (hn0 : 0 < n) (hn : n ≤ 65536) (hE : EdgesOk n L) (hm : (n : Int) * L.length ≤ 1048576) :
    ∃ x s bad, growP L n n (sg0 n (allL n)) = some (s, bad) ∧ GrowPost n L (fun v => v ∈ allL n) s bad ∧ Ev (fun k => diffs_solve.f k n L) (x, s.lo, s.ha, s.la, bad) ∧ (bad = -1 → (x.length = n ∧ ∀ v, 0 ≤ v → v < (n : Int) → rd x v = rd s.lo v - rd s.lo 0)) ∧ (0 ≤ bad → x = []) := by
  obtain ⟨s, bad, h1, h2, h3⟩ := grow_ev hn0 hn hE (by omega) (from_ := allL n) (by unfold allL; simp; omega) (fun i hi => mem_allL.1 hi)
  obtain ⟨b, T, hb, hb2, hB⟩ := h2.bf
  have hl1 := hB.l1
  have hbd : ∀ v, 0 ≤ v → v < (s.lo.length : Int) → -2305843009213693952 ≤ rd s.lo v ∧ rd s.lo v ≤ 2305843009213693952 := fun v h0 h1 => by
    have := h2.bounds h0 (by omega); omega
  rcases h2.res with ⟨e, _⟩ | ⟨e, _⟩
  · subst e
    obtain ⟨y, hy1, hy2, hy3⟩ : ∃ y, (∀ f, diffs_solve.l0 (f + n + 1) s.lo s.lo.length 0 s.lo s.ha s.la = some (y, s.lo, s.ha, s.la, -1)) ∧ y.length = s.lo.length ∧ ∀ v, 0 ≤ v → v < (s.lo.length : Int) → rd y v = rd s.lo v - rd s.lo 0 := by
      obtain ⟨y, a, b, c⟩ := solve_l0 s.lo s.ha s.la hbd (by omega) n 0 s.lo 0 (by omega) (by omega) rfl (fun v h0 h1 => by rw [if_neg (by omega)])
      refine ⟨y, fun f => ?_, b, c⟩
      obtain ⟨y', a', b', c'⟩ := solve_l0 s.lo s.ha s.la hbd (by omega) n 0 s.lo f (by omega) (by omega) rfl (fun v h0 h1 => by rw [if_neg (by omega)])
      rw [a']
      have e2 : y' = y := List.ext_getElem (by omega) (fun i h1 h2 => by
        have p := c' i (by omega) (by omega)
        have q := c i (by omega) (by omega)
        unfold rd at p q
        rw [List.getD_eq_getElem?_getD, Int.toNat_natCast, List.getElem?_eq_getElem (by omega)] at p q
        simp only [Option.getD_some] at p q
        rw [p, q])
      rw [e2]
    refine ⟨y, s, -1, h1, h2, ?_, fun _ => ⟨by omega, fun v h0 h1 => hy3 v h0 (by omega)⟩, fun h => by omega⟩
    unfold diffs_solve.f
    refine (all_ev n hn L).bind (h3.bind ?_)
    simp only [ge_iff_le, if_neg (show ¬ (0 : Int) ≤ -1 from by omega)]
    unfold slices_Clone_int_int.f
    rw [if_pos (by omega)]
    simp only [Option.bind_some]
    exact Ev.shift (n + 1) (h := fun _ => some _) hy1 (Ev.now _)
  · refine ⟨[], s, bad, h1, h2, ?_, fun h => by omega, fun _ => rfl⟩
    unfold diffs_solve.f
    refine (all_ev n hn L).bind (h3.bind ?_)
    simp only [ge_iff_le, if_pos e]
    exact Ev.now _
end
def edgeB (n : Int) (d : S39) : Bool := decide (0 ≤ d.f0) && decide (d.f0 < n) && decide (0 ≤ d.f1) && decide (d.f1 < n) && decide (-1073741824 ≤ d.f2) && decide (d.f2 ≤ 1073741824)
theorem edgeB_iff {n : Int} {d : S39} : edgeB n d = true ↔ EdgeOk n d := by
  simp only [edgeB, Bool.and_eq_true, decide_eq_true_eq]
  exact ⟨fun h => ⟨h.1.1.1.1.1, h.1.1.1.1.2, h.1.1.1.2, h.1.1.2, h.1.2, h.2⟩, fun h => ⟨⟨⟨⟨⟨h.a, h.b⟩, h.c⟩, h.g⟩, h.e⟩, h.f⟩⟩
def validB (n : Int) (L : List S39) : Bool := decide (1 ≤ n) && decide (n ≤ 256) && decide (L.length ≤ 4096) && L.all (edgeB n)
structure Valid (n : Int) (L : List S39) : Prop where
  n1 : 1 ≤ n
  n2 : n ≤ 256
  l : L.length ≤ 4096
  e : EdgesOk n L
theorem all_edges {n : Int} {L : List S39} : L.all (edgeB n) = true ↔ EdgesOk n L := by
  rw [List.all_eq_true]
  constructor
  · intro h k h0 h1
    refine edgeB_iff.1 (h _ ?_)
    unfold rd_T39
    rw [List.getD_eq_getElem?_getD, List.getElem?_eq_getElem (by omega)]; exact List.getElem_mem _
  · intro h d hd
    obtain ⟨i, hi, rfl⟩ := List.getElem_of_mem hd
    have := h i (by omega) (by omega)
    unfold rd_T39 at this
    rw [List.getD_eq_getElem?_getD, Int.toNat_natCast, List.getElem?_eq_getElem (by omega)] at this
    exact edgeB_iff.2 this
theorem validB_iff {n : Int} {L : List S39} : validB n L = true ↔ Valid n L := by
  simp only [validB, Bool.and_eq_true, decide_eq_true_eq, all_edges]
  exact ⟨fun h => ⟨h.1.1.1, h.1.1.2, h.1.2, h.2⟩, fun h => ⟨⟨⟨h.n1, h.n2⟩, h.l⟩, h.e⟩⟩
theorem in_some (a lo hi : Int) : diffs_in.f a lo hi = some (decide (lo ≤ a) && decide (a ≤ hi)) := by
  unfold diffs_in.f
  by_cases h : a ≥ lo
  · rw [if_pos h]; simp [show lo ≤ a from h]
  · rw [if_neg h]; simp [show ¬ lo ≤ a from h]
theorem right_some (d : S39) (n : Int) (h1 : 1 ≤ n) (h2 : n ≤ 256) : diffs_right.f d.f0 d.f1 d.f2 n = some (edgeB n d) := by
  unfold diffs_right.f
  rw [wrap_id (by omega) (by omega)]
  simp only [in_some, Option.bind_some]
  have ea : decide (d.f0 ≤ n - 1) = decide (d.f0 < n) := by congr 1; exact propext (by omega)
  have eb : decide (d.f1 ≤ n - 1) = decide (d.f1 < n) := by congr 1; exact propext (by omega)
  rw [ea, eb]
  unfold edgeB
  by_cases c1 : (decide (0 ≤ d.f0) && decide (d.f0 < n)) = true
  · rw [if_pos c1, c1]
    by_cases c2 : (decide (0 ≤ d.f1) && decide (d.f1 < n)) = true
    · rw [if_pos c2]
      simp only [Bool.true_and, c2]
    · rw [if_neg c2]
      rw [Bool.not_eq_true] at c2
      simp only [Bool.true_and, c2, Bool.false_and]
  · rw [if_neg c1]
    rw [Bool.not_eq_true] at c1
    simp only [c1, Bool.false_and]
theorem check_l0 (n : Int) (L : List S39) (h1 : 1 ≤ n) (h2 : n ≤ 256) (hl : L.length ≤ 4096) (M : List S39) : ∀ (q : Nat) (i : Int) (f : Nat), (q : Int) + i = L.length → 0 ≤ i →
    diffs_Check.l0 (f + q + 1) L L.length i n M = some (if (L.drop i.toNat).all (edgeB n) = true then 0 else 40)
  | 0, i, f, hq, hi => by
    rw [diffs_Check.l0, if_neg (by omega), List.drop_eq_nil_of_le (by omega)]
    rfl
  | q + 1, i, f, hq, hi => by
    have hlt : i < (L.length : Int) := by omega
    rw [show f + (q + 1) + 1 = (f + q + 1) + 1 from by omega, diffs_Check.l0, if_pos hlt, if_pos hi, if_pos hlt, right_some _ n h1 h2, rd_T39_drop L i hi hlt]
    simp only [Option.bind_some]
    by_cases c : edgeB n (rd_T39 L i) = true
    · have e : (rd_T39 L i :: L.drop (i + 1).toNat).all (edgeB n) = (L.drop (i + 1).toNat).all (edgeB n) := by rw [List.all_cons, c, Bool.true_and]
      rw [if_pos c, e, wrap_id (by omega) (by omega)]
      exact check_l0 n L h1 h2 hl M q (i + 1) f (by omega) (by omega)
    · have e : (rd_T39 L i :: L.drop (i + 1).toNat).all (edgeB n) = false := by
        rw [Bool.not_eq_true] at c
        rw [List.all_cons, c, Bool.false_and]
      rw [if_neg c, e]
      rfl
theorem check_ev (n : Int) (L : List S39) : Ev (fun k => diffs_Check.f k n L) (if validB n L = true then 0 else 40) := by
  unfold diffs_Check.f
  simp only [in_some, Option.bind_some]
  by_cases h : 1 ≤ n ∧ n ≤ 256
  · refine Ev.pos (by simp [h]) ?_
    refine Ev.step (f := fun k => if (decide ((L.length : Int) > 4096)) = true then some 40 else diffs_Check.l0 k L L.length 0 n L) (fun k => by rw [diffs_Check.j0]) ?_
    by_cases hl : L.length ≤ 4096
    · refine Ev.neg (by simp; omega) ?_
      have e : validB n L = L.all (edgeB n) := by
        unfold validB; simp [h, hl]
      rw [e]
      refine Ev.shift (L.length + 1) (h := fun _ => some _) (fun f => ?_) (Ev.now _)
      have := check_l0 n L h.1 h.2 hl L L.length 0 f (by omega) (by omega)
      rw [show (0 : Int).toNat = 0 from rfl, List.drop_zero] at this
      exact this
    · have e : validB n L = false := by unfold validB; simp [hl]
      rw [e]
      exact Ev.pos (by simp; omega) (Ev.now _)
  · have e : validB n L = false := by
      cases hv : validB n L with
      | false => rfl
      | true => have := validB_iff.1 hv; exact absurd ⟨this.n1, this.n2⟩ h
    rw [e]
    refine Ev.neg (by simp only [Bool.and_eq_true, decide_eq_true_eq]; exact h) ?_
    exact Ev.step (f := fun k => some 40) (fun k => by rw [diffs_Check.j0]; rfl) (Ev.now _)
theorem index_l0 (bs : List Bool) (hb : bs.length ≤ 65536) : ∀ (q : Nat) (i : Int) (f : Nat), (q : Int) + i = bs.length → 0 ≤ i →
    ∃ r, slices_Index_bool_bool.l0 (f + q + 1) bs false bs.length i = some r ∧ (0 ≤ r ↔ false ∈ bs.drop i.toNat)
  | 0, i, f, hq, hi => by
    refine ⟨-1, ?_, ?_⟩
    · rw [slices_Index_bool_bool.l0, if_neg (by omega)]
    · rw [List.drop_eq_nil_of_le (by omega)]; simp
  | q + 1, i, f, hq, hi => by
    have hlt : i < (bs.length : Int) := by omega
    have ed : bs.drop i.toNat = rdOf false bs i :: bs.drop (i + 1).toNat := by
      rw [show (i + 1).toNat = i.toNat + 1 from by omega, List.drop_eq_getElem_cons (by omega)]
      congr 1
      unfold rdOf
      rw [List.getD_eq_getElem?_getD, List.getElem?_eq_getElem (by omega)]; rfl
    rw [show f + (q + 1) + 1 = (f + q + 1) + 1 from by omega, slices_Index_bool_bool.l0, if_pos hlt, if_pos hi, if_pos hlt, ed]
    by_cases c : (false == rdOf false bs i) = true
    · rw [if_pos c]
      refine ⟨i, rfl, ?_⟩
      have : rdOf false bs i = false := by simpa using c
      rw [this]; simp [hi]
    · rw [if_neg c, wrap_id (by omega) (by omega)]
      obtain ⟨r, a, b⟩ := index_l0 bs hb q (i + 1) f (by omega) (by omega)
      refine ⟨r, a, b.trans ?_⟩
      have : rdOf false bs i = true := by simpa using c
      rw [this]; simp
theorem contains_ev (bs : List Bool) (hb : bs.length ≤ 65536) : Ev (fun k => slices_Contains_bool_bool.f k bs false) (bs.contains false) := by
  refine Ev.shift (bs.length + 1) (h := fun _ => some (bs.contains false)) (fun f => ?_) (Ev.now _)
  obtain ⟨r, a, b⟩ := index_l0 bs hb bs.length 0 f (by omega) (by omega)
  unfold slices_Contains_bool_bool.f slices_Index_bool_bool.f
  rw [show f + (bs.length + 1) = f + bs.length + 1 from rfl, a]
  simp only [Option.bind_some]
  rw [show (0 : Int).toNat = 0 from rfl, List.drop_zero] at b
  congr 1
  rw [Bool.eq_iff_iff, decide_eq_true_eq, List.contains_iff_mem]
  exact b
theorem asked_ev (n : Int) (L : List S39) (bs : List Bool) (hb : bs.length ≤ 65536) : Ev (fun k => diffs_asked.f k n L bs) (if validB n L = true then (if bs.contains false = true then 1 else 0) else 40) := by
  unfold diffs_asked.f
  refine (check_ev n L).bind ?_
  by_cases hv : validB n L = true
  · rw [if_pos hv, if_pos hv]
    refine Ev.pos rfl ((contains_ev bs hb).bind ?_)
    by_cases hc : bs.contains false = true
    · refine Ev.pos hc ?_; rw [if_pos hc]; exact Ev.now _
    · refine Ev.neg hc ?_; rw [if_neg hc]; exact Ev.now _
  · rw [if_neg hv, if_neg hv]
    exact Ev.neg (by decide) (Ev.now _)
end Go.Proofs.Ytpolojoeabmhdaa.A
