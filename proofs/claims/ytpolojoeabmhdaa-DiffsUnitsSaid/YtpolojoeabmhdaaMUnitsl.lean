import Derived.Test.YtpolojoeabmhdaaMUnitsHFacts
import Derived.Test.YtpolojoeabmhdaaMUnitsd
import Derived.Test.YtpolojoeabmhdaaMUnitsf
import Derived.Test.YtpolojoeabmhdaaMUnitsg
import Derived.Test.YtpolojoeabmhdaaMUnitsh
import Derived.Test.YtpolojoeabmhdaaMUnitsi
import Derived.Test.YtpolojoeabmhdaaMUnitsk
import Derived.Test.YtpolojoeabmhdaaRows
set_option linter.unusedVariables false
set_option linter.unusedSimpArgs false
namespace Go.Proofs.Ytpolojoeabmhdaa.A
open Go.RowKit Go.Proofs.YtpolojoeabmhdaaW.PrintWords Go.Proofs.YtpolojoeabmhdaaW.PrintLast Go.Proofs.YtpolojoeabmhdaaW.PrintMore
attribute [local go_sem] max2_int min2_int max_two min_two max_three min_three max_four min_four
mutual
def snowlinelaw04_DiffsUnits.j0 : Nat → Int → Int → Bool → Int → List (S39) → Option (Bool)
  | 0, _, _, _, _, _ => none
  | k + 1, x1, x2, x48, x451000, x451001 => if x48 = true then (some true) else (if 0 ≤ x451000 then (if (x451000 : Int).toNat ≤ 35184372088832 then ((some (List.replicate (x451000 : Int).toNat 0 : List Int)).bind fun y454 => (if 0 ≤ x1 then (if x1 < (y454.length : Int) then ((some (y454.set (x1 : Int).toNat 1 : List Int)).bind fun y457 => ((diffs_Most.f k x451000 x451001 y457).bind fun bt458 => ((diffs_Apart.f k x451000 x451001 0 x1).bind fun bt461 => (if bt458.1 = bt461.1 then (if (bt458.2.1 != bt461.2.1) = true then (snowlinelaw04_DiffsUnits.j1 k x1 x2 y457 true x451000 x451001) else (snowlinelaw04_DiffsUnits.j1 k x1 x2 y457 (bt458.2.2 != bt461.2.2) x451000 x451001)) else (snowlinelaw04_DiffsUnits.j1 k x1 x2 y457 true x451000 x451001))))) else (none)) else (none))) else (none)) else (none))
def snowlinelaw04_DiffsUnits.j1 : Nat → Int → Int → List Int → Bool → Int → List (S39) → Option (Bool)
  | 0, _, _, _, _, _, _ => none
  | k + 1, x1, x2, x7, x81, x451000, x451001 => if x81 = true then (some false) else (if 0 ≤ x2 then (if x2 < (x7.length : Int) then ((diffs_Most.f k x451000 x451001 (x7.set (x2 : Int).toNat (-1))).bind fun bt465 => ((diffs_Apart.f k x451000 x451001 x2 x1).bind fun bt468 => (if bt465.1 = bt468.1 then (if (bt465.2.1 == bt468.2.1) = true then (some (bt465.2.2 == bt468.2.2)) else (some false)) else (some false)))) else (none)) else (none))
end
def snowlinelaw04_DiffsUnits.f (k : Nat) (a0_0 : Int) (l0_1 : List (S39)) (a1 : Int) (a2 : Int) : Option (Bool) := (snowlinelaw04_sane.f).bind fun t451 => (if t451 = true then ((diffs_Check.f k a0_0 l0_1).bind fun t452 => (if t452 = 0 then ((snowlinelaw04_small.f a0_0 l0_1).bind fun t453 => (if t453 = true then (if a1 < 1 then (snowlinelaw04_DiffsUnits.j0 k a1 a2 true a0_0 l0_1) else (if a1 ≥ a0_0 then (snowlinelaw04_DiffsUnits.j0 k a1 a2 true a0_0 l0_1) else (if a2 < 0 then (snowlinelaw04_DiffsUnits.j0 k a1 a2 true a0_0 l0_1) else (if a2 ≥ a0_0 then (snowlinelaw04_DiffsUnits.j0 k a1 a2 true a0_0 l0_1) else (snowlinelaw04_DiffsUnits.j0 k a1 a2 (a1 == a2) a0_0 l0_1))))) else (snowlinelaw04_DiffsUnits.j0 k a1 a2 true a0_0 l0_1))) else (snowlinelaw04_DiffsUnits.j0 k a1 a2 true a0_0 l0_1))) else (some false))
theorem snowlinelaw04_DiffsUnits.mono_l : ∀ k, (∀ y0 y1 y2 y3 y4, LeO (snowlinelaw04_DiffsUnits.j0 k y0 y1 y2 y3 y4) (snowlinelaw04_DiffsUnits.j0 (k + 1) y0 y1 y2 y3 y4)) ∧ (∀ y0 y1 y2 y3 y4 y5, LeO (snowlinelaw04_DiffsUnits.j1 k y0 y1 y2 y3 y4 y5) (snowlinelaw04_DiffsUnits.j1 (k + 1) y0 y1 y2 y3 y4 y5))
  | 0 => ⟨fun _ _ _ _ _ r h => by simp [snowlinelaw04_DiffsUnits.j0] at h, fun _ _ _ _ _ _ r h => by simp [snowlinelaw04_DiffsUnits.j1] at h⟩
  | k + 1 => by
    obtain ⟨ih0, ih1⟩ := snowlinelaw04_DiffsUnits.mono_l k; refine ⟨?_, ?_⟩ <;> intros <;> (first | unfold snowlinelaw04_DiffsUnits.j0 | unfold snowlinelaw04_DiffsUnits.j1) <;> repeat' first | (with_reducible first | exact ih0 _ _ _ _ _ | exact ih1 _ _ _ _ _ _ | exact diffs_Apart.mono _ _ _ _ _ | exact diffs_Check.mono _ _ _ | exact diffs_Most.mono _ _ _ _ | exact LeO.refl _ | exact LeO.none _ | refine LeO.ite ?_ ?_ | refine LeO.bind ?_ (fun _ => ?_)) | exact ih0 _ _ _ _ _ | exact ih1 _ _ _ _ _ _ | exact diffs_Apart.mono _ _ _ _ _ | exact diffs_Check.mono _ _ _ | exact diffs_Most.mono _ _ _ _ | exact LeO.none _ | refine LeO.ite ?_ ?_ | refine LeO.bind ?_ (fun _ => ?_)
theorem snowlinelaw04_DiffsUnits.mono : ∀ a0 a1 a2 a3 k, LeO (snowlinelaw04_DiffsUnits.f k a0 a1 a2 a3) (snowlinelaw04_DiffsUnits.f (k + 1) a0 a1 a2 a3) := by
  intro a0 a1 a2 a3 k; obtain ⟨ih0, ih1⟩ := snowlinelaw04_DiffsUnits.mono_l k; unfold snowlinelaw04_DiffsUnits.f; repeat' first | (with_reducible first | exact ih0 _ _ _ _ _ | exact ih1 _ _ _ _ _ _ | exact diffs_Apart.mono _ _ _ _ _ | exact diffs_Check.mono _ _ _ | exact diffs_Most.mono _ _ _ _ | exact LeO.refl _ | exact LeO.none _ | refine LeO.ite ?_ ?_ | refine LeO.bind ?_ (fun _ => ?_)) | exact ih0 _ _ _ _ _ | exact ih1 _ _ _ _ _ _ | exact diffs_Apart.mono _ _ _ _ _ | exact diffs_Check.mono _ _ _ | exact diffs_Most.mono _ _ _ _ | exact LeO.none _ | refine LeO.ite ?_ ?_ | refine LeO.bind ?_ (fun _ => ?_)
set_option maxHeartbeats 8000000 in
set_option maxRecDepth 100000 in
theorem snowlinelaw04_DiffsUnits.calls (k : Nat) (a0_0 : Int) (A0_1 : Option Addr) (c0_1 : Nat) (l0_1 : List (S39)) (a1 : Int) (a2 : Int) (r : Bool) (w : World) (hr0_1 : Kd.C k39 w A0_1 l0_1.length l0_1) (hc0_1 : l0_1.length ≤ c0_1) (h : snowlinelaw04_DiffsUnits.f k a0_0 l0_1 a1 a2 = some r) :
    Calls Try.prog 5 #[.agg #[.int .i64 a0_0, .slice A0_1 l0_1.length c0_1], .int .i64 a1, .int .i64 a2] w fun e w' => e = .returned (.bool r) ∧ Below w.heap.size w w' := by
  have hu24 := Try.underlying24; have HR0_1 := Z_ hr0_1; have HC0_1 := Z_ hc0_1; clear hr0_1 hc0_1; have HB := Z_ (Below.refl w.heap.size w); have H : ((snowlinelaw04_sane.f).bind fun t451 => (if t451 = true then ((diffs_Check.f k a0_0 l0_1).bind fun t452 => (if t452 = 0 then ((snowlinelaw04_small.f a0_0 l0_1).bind fun t453 => (if t453 = true then (if a1 < 1 then (snowlinelaw04_DiffsUnits.j0 k a1 a2 true a0_0 l0_1) else (if a1 ≥ a0_0 then (snowlinelaw04_DiffsUnits.j0 k a1 a2 true a0_0 l0_1) else (if a2 < 0 then (snowlinelaw04_DiffsUnits.j0 k a1 a2 true a0_0 l0_1) else (if a2 ≥ a0_0 then (snowlinelaw04_DiffsUnits.j0 k a1 a2 true a0_0 l0_1) else (snowlinelaw04_DiffsUnits.j0 k a1 a2 (a1 == a2) a0_0 l0_1))))) else (snowlinelaw04_DiffsUnits.j0 k a1 a2 true a0_0 l0_1))) else (snowlinelaw04_DiffsUnits.j0 k a1 a2 true a0_0 l0_1))) else (some false))) = some r := h; clear h; replace H := oS_.mp H; obtain ⟨t451, A40, H⟩ := H; replace H : (if t451 = true then ((diffs_Check.f k a0_0 l0_1).bind fun t452 => (if t452 = 0 then ((snowlinelaw04_small.f a0_0 l0_1).bind fun t453 => (if t453 = true then (if a1 < 1 then (snowlinelaw04_DiffsUnits.j0 k a1 a2 true a0_0 l0_1) else (if a1 ≥ a0_0 then (snowlinelaw04_DiffsUnits.j0 k a1 a2 true a0_0 l0_1) else (if a2 < 0 then (snowlinelaw04_DiffsUnits.j0 k a1 a2 true a0_0 l0_1) else (if a2 ≥ a0_0 then (snowlinelaw04_DiffsUnits.j0 k a1 a2 true a0_0 l0_1) else (snowlinelaw04_DiffsUnits.j0 k a1 a2 (a1 == a2) a0_0 l0_1))))) else (snowlinelaw04_DiffsUnits.j0 k a1 a2 true a0_0 l0_1))) else (snowlinelaw04_DiffsUnits.j0 k a1 a2 true a0_0 l0_1))) else (some false)) = some r := H; have A4 := Z_ A40; clear A40; have HF5 := Z_ H; clear H; go_enter Try.func5, Try.ntmps5; go_upto_if 15 with (first | ((with_reducible refine gate_dst (N := 3) rfl ?_); refine box_event ?hg (N := 3) ?hd (cs := #[.int .i64 a0_0, .slice A0_1 l0_1.length c0_1]) (t := 24) ?hr ?_; (case hd => rfl); (case hg => rfl); (case hr => first | (go_simp; done) | (go_simp; rfl)); intro gb450 hg w6 hbox hb; have n0_ := Z_ (fS_ (by repeat (first | (with_reducible first | exact HB.out | apply fA_ | apply pB_ | apply fD_) | exact HB.out)) hb); have n1_ := Z_ (hbox); have n2_ := Z_ ((by rw [hg]; exact (fZ_ (by repeat (first | (with_reducible first | exact HB.out | apply fA_ | apply pB_ | apply fD_) | exact HB.out))) : w.heap.size ≤ gb450)); have n3_ := Z_ ((by rw [hg]; exact (fZ_ (by repeat (first | (with_reducible first | exact HB.out | apply fA_ | apply pB_ | apply fD_) | exact HB.out))) : w.heap.size ≤ gb450)); clear HB; have HB := n0_; have BK450 := n1_; have GW450 := n2_; have GE450 := n3_; clear n0_ n1_ n2_ n3_; clear hb hbox hg) | ((with_reducible refine gate_callee (f := 21) rfl ?_); refine goesL_ (some 14) rfl rfl Try.func21 (by kernel_rfl) rfl #[] rfl (by (try simp only [mT_, mC_, mN_]); first | done | rfl | (simp only [lD_, lT_]; rfl)) ?_; (with_reducible refine (snowlinelaw04_sane.calls  t451 _ A4.out).mono ?_); rintro e w7 ⟨rfl, hb⟩; refine ⟨_, rfl, ?_⟩; have n0_ := Z_ (bB_ (g := gb450) (o := .cells #[.int .i64 a0_0, .slice A0_1 l0_1.length c0_1] 24 (0, 0)) (by (with_reducible repeat (first | refine bN_ ?_ _ | refine bD_ ?_)); exact BK450.out) hb); have n1_ := Z_ (fS_ (by repeat (first | (with_reducible first | exact HB.out | apply fA_ | apply pB_ | apply fD_ | refine fE_ ?_ GE450.out) | exact HB.out)) hb); clear BK450; clear HB; have BK450 := n0_; have HB := n1_; clear n0_ n1_; (try clear hb); (try clear hb2); (try clear hk); (try clear hi))); (try simp only [Act.put, sT_, sZ_, sS_])
  have H := HF5.out; clear HF5; by_cases c8 : t451 = true
  · subst c8
    have H1 : ((diffs_Check.f k a0_0 l0_1).bind fun t452 => (if t452 = 0 then ((snowlinelaw04_small.f a0_0 l0_1).bind fun t453 => (if t453 = true then (if a1 < 1 then (snowlinelaw04_DiffsUnits.j0 k a1 a2 true a0_0 l0_1) else (if a1 ≥ a0_0 then (snowlinelaw04_DiffsUnits.j0 k a1 a2 true a0_0 l0_1) else (if a2 < 0 then (snowlinelaw04_DiffsUnits.j0 k a1 a2 true a0_0 l0_1) else (if a2 ≥ a0_0 then (snowlinelaw04_DiffsUnits.j0 k a1 a2 true a0_0 l0_1) else (snowlinelaw04_DiffsUnits.j0 k a1 a2 (a1 == a2) a0_0 l0_1))))) else (snowlinelaw04_DiffsUnits.j0 k a1 a2 true a0_0 l0_1))) else (snowlinelaw04_DiffsUnits.j0 k a1 a2 true a0_0 l0_1))) = some r := by rw [if_pos rfl] at H; exact H
    clear H; have H := H1; clear H1; have HC9 := Z_ H; clear H; go_upto_region 3 with (fail); go_cut [48] (fun v48 wc => ∃ (kq : Nat) (x48_8 : Bool), v48 = .bool x48_8 ∧ Aside0 (snowlinelaw04_DiffsUnits.j0 kq a1 a2 x48_8 a0_0 l0_1 = some r) ∧ Aside0 (kq ≤ k) ∧ Aside0 (wc.heap[gb450]? = some (.cells #[.int .i64 a0_0, (.slice A0_1 l0_1.length c0_1)] 24 (0, 0))) ∧ Aside0 (Below w.heap.size w wc))
    case first =>
      have H := HC9.out; clear HC9; replace H := oS_.mp H; obtain ⟨t452, A100, H⟩ := H; replace H : (if t452 = 0 then ((snowlinelaw04_small.f a0_0 l0_1).bind fun t453 => (if t453 = true then (if a1 < 1 then (snowlinelaw04_DiffsUnits.j0 k a1 a2 true a0_0 l0_1) else (if a1 ≥ a0_0 then (snowlinelaw04_DiffsUnits.j0 k a1 a2 true a0_0 l0_1) else (if a2 < 0 then (snowlinelaw04_DiffsUnits.j0 k a1 a2 true a0_0 l0_1) else (if a2 ≥ a0_0 then (snowlinelaw04_DiffsUnits.j0 k a1 a2 true a0_0 l0_1) else (snowlinelaw04_DiffsUnits.j0 k a1 a2 (a1 == a2) a0_0 l0_1))))) else (snowlinelaw04_DiffsUnits.j0 k a1 a2 true a0_0 l0_1))) else (snowlinelaw04_DiffsUnits.j0 k a1 a2 true a0_0 l0_1)) = some r := H; have A10 := Z_ A100; clear A100; by_cases c11 : t452 = 0
      · rw [if_pos c11] at H
        have c11b0 : (t452 == 0) = true := beq_iff_eq.mpr c11; have c11b1 : (t452 != 0) = false := bne_eq_false_iff_eq.mpr c11; clear c11; (first | rw [c11b0] | (simp only [i64_w, i32_w]; rw [c11b0]) | skip)
        replace H := oS_.mp H; obtain ⟨t453, A120, H⟩ := H; replace H : (if t453 = true then (if a1 < 1 then (snowlinelaw04_DiffsUnits.j0 k a1 a2 true a0_0 l0_1) else (if a1 ≥ a0_0 then (snowlinelaw04_DiffsUnits.j0 k a1 a2 true a0_0 l0_1) else (if a2 < 0 then (snowlinelaw04_DiffsUnits.j0 k a1 a2 true a0_0 l0_1) else (if a2 ≥ a0_0 then (snowlinelaw04_DiffsUnits.j0 k a1 a2 true a0_0 l0_1) else (snowlinelaw04_DiffsUnits.j0 k a1 a2 (a1 == a2) a0_0 l0_1))))) else (snowlinelaw04_DiffsUnits.j0 k a1 a2 true a0_0 l0_1)) = some r := H; have A12 := Z_ A120; clear A120; by_cases c13 : t453 = true
        · subst c13
          have H1 : (if a1 < 1 then (snowlinelaw04_DiffsUnits.j0 k a1 a2 true a0_0 l0_1) else (if a1 ≥ a0_0 then (snowlinelaw04_DiffsUnits.j0 k a1 a2 true a0_0 l0_1) else (if a2 < 0 then (snowlinelaw04_DiffsUnits.j0 k a1 a2 true a0_0 l0_1) else (if a2 ≥ a0_0 then (snowlinelaw04_DiffsUnits.j0 k a1 a2 true a0_0 l0_1) else (snowlinelaw04_DiffsUnits.j0 k a1 a2 (a1 == a2) a0_0 l0_1))))) = some r := by rw [if_pos rfl] at H; exact H
          clear H; have H := H1; clear H1; by_cases c14 : a1 < 1
          · rw [if_pos c14] at H
            have c14b0 : decide (a1 < 1) = true := eT_ c14; clear c14; have H' := Z_ H; clear H; have hcz15_0 : w7.cell? ⟨gb450, 0, none⟩ = some (.int .i64 a0_0) := (bC_ BK450.out 0).trans rfl; have hcz15_1 : w7.cell? ⟨gb450, 1, none⟩ = some (.slice A0_1 l0_1.length c0_1) := (bC_ BK450.out 1).trans rfl; have hfz15_0 := bF_ BK450.out 0; have hfz15_1 := bF_ BK450.out 1; go_wp2_with (first | ((with_reducible refine gate_callee (f := 29) rfl ?_); refine goesL_ (some 17) rfl rfl Try.func29 (by kernel_rfl) rfl #[.agg #[.int .i64 a0_0, .slice A0_1 l0_1.length c0_1]] rfl (by (try simp only [mT_, mC_, mN_]); first | done | rfl | (simp only [lD_, lT_]; rfl)) ?_; (with_reducible refine (diffs_Check.calls k a0_0 _ _ l0_1 t452 _ ?side1 ?side2 A10.out).mono ?_); (case side1 => repeat (first | exact (cB_ HR0_1.out HB.out) | (with_reducible refine Kd.C_alloc ?_ _) | (with_reducible refine Kd.C_drewN ?_ _) | (with_reducible refine Kd.C_drew ?_))); (case side2 => exact HC0_1.out); rintro e w16 ⟨rfl, hb⟩; refine ⟨_, rfl, ?_⟩; have n0_ := Z_ (bB_ (g := gb450) (o := .cells #[.int .i64 a0_0, .slice A0_1 l0_1.length c0_1] 24 (0, 0)) (by (with_reducible repeat (first | refine bN_ ?_ _ | refine bD_ ?_)); exact BK450.out) hb); have n1_ := Z_ (fS_ (by repeat (first | (with_reducible first | exact HB.out | apply fA_ | apply pB_ | apply fD_ | refine fE_ ?_ GE450.out) | exact HB.out)) hb); clear BK450; clear HB; have BK450 := n0_; have HB := n1_; clear n0_ n1_; (try clear hb); (try clear hb2); (try clear hk); (try clear hi); have hcz17_0 : w16.cell? ⟨gb450, 0, none⟩ = some (.int .i64 a0_0) := (bC_ BK450.out 0).trans rfl; have hcz17_1 : w16.cell? ⟨gb450, 1, none⟩ = some (.slice A0_1 l0_1.length c0_1) := (bC_ BK450.out 1).trans rfl; have hfz17_0 := bF_ BK450.out 0; have hfz17_1 := bF_ BK450.out 1) | (go_at_call 23; (with_reducible refine (snowlinelaw04_small.calls a0_0 _ _ l0_1 true _ ?side1 ?side2 A12.out).mono ?_); (case side1 => repeat (first | exact (cB_ HR0_1.out HB.out) | (with_reducible refine Kd.C_alloc ?_ _) | (with_reducible refine Kd.C_drewN ?_ _) | (with_reducible refine Kd.C_drew ?_))); (case side2 => exact HC0_1.out); rintro e w18 ⟨rfl, hb⟩; have n0_ := Z_ (bB_ (g := gb450) (o := .cells #[.int .i64 a0_0, .slice A0_1 l0_1.length c0_1] 24 (0, 0)) (by (with_reducible repeat (first | refine bN_ ?_ _ | refine bD_ ?_)); exact BK450.out) hb); have n1_ := Z_ (fS_ (by repeat (first | (with_reducible first | exact HB.out | apply fA_ | apply pB_ | apply fD_ | refine fE_ ?_ GE450.out) | exact HB.out)) hb); clear BK450; clear HB; have BK450 := n0_; have HB := n1_; clear n0_ n1_; (try clear hb); (try clear hb2); (try clear hk); (try clear hi))); go_meet
            case rel => exact ⟨_, (true), (by first | rfl | (simp; done) | (simp [*]; done)), H', ⟨by first | omega | exact nR_ _⟩, ⟨by (with_reducible repeat (first | refine bN_ ?_ _ | refine bD_ ?_)); exact BK450.out⟩, ⟨by repeat (first | (with_reducible first | exact HB.out | apply fA_ | apply pB_ | apply fD_ | refine fE_ ?_ GE450.out) | exact HB.out)⟩⟩
          rw [if_neg c14] at H; have c14b0 : decide (a1 < 1) = false := eF_ c14; clear c14; by_cases c19 : a1 ≥ a0_0
          · rw [if_pos c19] at H
            have c19b0 : decide (a0_0 ≤ a1) = true := eT_ c19; clear c19; have H' := Z_ H; clear H; have hcz20_0 : w7.cell? ⟨gb450, 0, none⟩ = some (.int .i64 a0_0) := (bC_ BK450.out 0).trans rfl; have hcz20_1 : w7.cell? ⟨gb450, 1, none⟩ = some (.slice A0_1 l0_1.length c0_1) := (bC_ BK450.out 1).trans rfl; have hfz20_0 := bF_ BK450.out 0; have hfz20_1 := bF_ BK450.out 1; go_wp2_with (first | ((with_reducible refine gate_callee (f := 29) rfl ?_); refine goesL_ (some 17) rfl rfl Try.func29 (by kernel_rfl) rfl #[.agg #[.int .i64 a0_0, .slice A0_1 l0_1.length c0_1]] rfl (by (try simp only [mT_, mC_, mN_]); first | done | rfl | (simp only [lD_, lT_]; rfl)) ?_; (with_reducible refine (diffs_Check.calls k a0_0 _ _ l0_1 t452 _ ?side1 ?side2 A10.out).mono ?_); (case side1 => repeat (first | exact (cB_ HR0_1.out HB.out) | (with_reducible refine Kd.C_alloc ?_ _) | (with_reducible refine Kd.C_drewN ?_ _) | (with_reducible refine Kd.C_drew ?_))); (case side2 => exact HC0_1.out); rintro e w21 ⟨rfl, hb⟩; refine ⟨_, rfl, ?_⟩; have n0_ := Z_ (bB_ (g := gb450) (o := .cells #[.int .i64 a0_0, .slice A0_1 l0_1.length c0_1] 24 (0, 0)) (by (with_reducible repeat (first | refine bN_ ?_ _ | refine bD_ ?_)); exact BK450.out) hb); have n1_ := Z_ (fS_ (by repeat (first | (with_reducible first | exact HB.out | apply fA_ | apply pB_ | apply fD_ | refine fE_ ?_ GE450.out) | exact HB.out)) hb); clear BK450; clear HB; have BK450 := n0_; have HB := n1_; clear n0_ n1_; (try clear hb); (try clear hb2); (try clear hk); (try clear hi); have hcz22_0 : w21.cell? ⟨gb450, 0, none⟩ = some (.int .i64 a0_0) := (bC_ BK450.out 0).trans rfl; have hcz22_1 : w21.cell? ⟨gb450, 1, none⟩ = some (.slice A0_1 l0_1.length c0_1) := (bC_ BK450.out 1).trans rfl; have hfz22_0 := bF_ BK450.out 0; have hfz22_1 := bF_ BK450.out 1) | (go_at_call 23; (with_reducible refine (snowlinelaw04_small.calls a0_0 _ _ l0_1 true _ ?side1 ?side2 A12.out).mono ?_); (case side1 => repeat (first | exact (cB_ HR0_1.out HB.out) | (with_reducible refine Kd.C_alloc ?_ _) | (with_reducible refine Kd.C_drewN ?_ _) | (with_reducible refine Kd.C_drew ?_))); (case side2 => exact HC0_1.out); rintro e w23 ⟨rfl, hb⟩; have n0_ := Z_ (bB_ (g := gb450) (o := .cells #[.int .i64 a0_0, .slice A0_1 l0_1.length c0_1] 24 (0, 0)) (by (with_reducible repeat (first | refine bN_ ?_ _ | refine bD_ ?_)); exact BK450.out) hb); have n1_ := Z_ (fS_ (by repeat (first | (with_reducible first | exact HB.out | apply fA_ | apply pB_ | apply fD_ | refine fE_ ?_ GE450.out) | exact HB.out)) hb); clear BK450; clear HB; have BK450 := n0_; have HB := n1_; clear n0_ n1_; (try clear hb); (try clear hb2); (try clear hk); (try clear hi); have hcz24_0 : w23.cell? ⟨gb450, 0, none⟩ = some (.int .i64 a0_0) := (bC_ BK450.out 0).trans rfl; have hcz24_1 : w23.cell? ⟨gb450, 1, none⟩ = some (.slice A0_1 l0_1.length c0_1) := (bC_ BK450.out 1).trans rfl; have hfz24_0 := bF_ BK450.out 0; have hfz24_1 := bF_ BK450.out 1)); go_meet
            case rel => exact ⟨_, (true), (by first | rfl | (simp; done) | (simp [*]; done)), H', ⟨by first | omega | exact nR_ _⟩, ⟨by (with_reducible repeat (first | refine bN_ ?_ _ | refine bD_ ?_)); exact BK450.out⟩, ⟨by repeat (first | (with_reducible first | exact HB.out | apply fA_ | apply pB_ | apply fD_ | refine fE_ ?_ GE450.out) | exact HB.out)⟩⟩
          rw [if_neg c19] at H; have c19b0 : decide (a0_0 ≤ a1) = false := eF_ c19; clear c19; by_cases c25 : a2 < 0
          · rw [if_pos c25] at H
            have c25b0 : decide (a2 < 0) = true := eT_ c25; clear c25; have H' := Z_ H; clear H; have hcz26_0 : w7.cell? ⟨gb450, 0, none⟩ = some (.int .i64 a0_0) := (bC_ BK450.out 0).trans rfl; have hcz26_1 : w7.cell? ⟨gb450, 1, none⟩ = some (.slice A0_1 l0_1.length c0_1) := (bC_ BK450.out 1).trans rfl; have hfz26_0 := bF_ BK450.out 0; have hfz26_1 := bF_ BK450.out 1; go_wp2_with (first | ((with_reducible refine gate_callee (f := 29) rfl ?_); refine goesL_ (some 17) rfl rfl Try.func29 (by kernel_rfl) rfl #[.agg #[.int .i64 a0_0, .slice A0_1 l0_1.length c0_1]] rfl (by (try simp only [mT_, mC_, mN_]); first | done | rfl | (simp only [lD_, lT_]; rfl)) ?_; (with_reducible refine (diffs_Check.calls k a0_0 _ _ l0_1 t452 _ ?side1 ?side2 A10.out).mono ?_); (case side1 => repeat (first | exact (cB_ HR0_1.out HB.out) | (with_reducible refine Kd.C_alloc ?_ _) | (with_reducible refine Kd.C_drewN ?_ _) | (with_reducible refine Kd.C_drew ?_))); (case side2 => exact HC0_1.out); rintro e w27 ⟨rfl, hb⟩; refine ⟨_, rfl, ?_⟩; have n0_ := Z_ (bB_ (g := gb450) (o := .cells #[.int .i64 a0_0, .slice A0_1 l0_1.length c0_1] 24 (0, 0)) (by (with_reducible repeat (first | refine bN_ ?_ _ | refine bD_ ?_)); exact BK450.out) hb); have n1_ := Z_ (fS_ (by repeat (first | (with_reducible first | exact HB.out | apply fA_ | apply pB_ | apply fD_ | refine fE_ ?_ GE450.out) | exact HB.out)) hb); clear BK450; clear HB; have BK450 := n0_; have HB := n1_; clear n0_ n1_; (try clear hb); (try clear hb2); (try clear hk); (try clear hi); have hcz28_0 : w27.cell? ⟨gb450, 0, none⟩ = some (.int .i64 a0_0) := (bC_ BK450.out 0).trans rfl; have hcz28_1 : w27.cell? ⟨gb450, 1, none⟩ = some (.slice A0_1 l0_1.length c0_1) := (bC_ BK450.out 1).trans rfl; have hfz28_0 := bF_ BK450.out 0; have hfz28_1 := bF_ BK450.out 1) | (go_at_call 23; (with_reducible refine (snowlinelaw04_small.calls a0_0 _ _ l0_1 true _ ?side1 ?side2 A12.out).mono ?_); (case side1 => repeat (first | exact (cB_ HR0_1.out HB.out) | (with_reducible refine Kd.C_alloc ?_ _) | (with_reducible refine Kd.C_drewN ?_ _) | (with_reducible refine Kd.C_drew ?_))); (case side2 => exact HC0_1.out); rintro e w29 ⟨rfl, hb⟩; have n0_ := Z_ (bB_ (g := gb450) (o := .cells #[.int .i64 a0_0, .slice A0_1 l0_1.length c0_1] 24 (0, 0)) (by (with_reducible repeat (first | refine bN_ ?_ _ | refine bD_ ?_)); exact BK450.out) hb); have n1_ := Z_ (fS_ (by repeat (first | (with_reducible first | exact HB.out | apply fA_ | apply pB_ | apply fD_ | refine fE_ ?_ GE450.out) | exact HB.out)) hb); clear BK450; clear HB; have BK450 := n0_; have HB := n1_; clear n0_ n1_; (try clear hb); (try clear hb2); (try clear hk); (try clear hi); have hcz30_0 : w29.cell? ⟨gb450, 0, none⟩ = some (.int .i64 a0_0) := (bC_ BK450.out 0).trans rfl; have hcz30_1 : w29.cell? ⟨gb450, 1, none⟩ = some (.slice A0_1 l0_1.length c0_1) := (bC_ BK450.out 1).trans rfl; have hfz30_0 := bF_ BK450.out 0; have hfz30_1 := bF_ BK450.out 1)); go_meet
            case rel => exact ⟨_, (true), (by first | rfl | (simp; done) | (simp [*]; done)), H', ⟨by first | omega | exact nR_ _⟩, ⟨by (with_reducible repeat (first | refine bN_ ?_ _ | refine bD_ ?_)); exact BK450.out⟩, ⟨by repeat (first | (with_reducible first | exact HB.out | apply fA_ | apply pB_ | apply fD_ | refine fE_ ?_ GE450.out) | exact HB.out)⟩⟩
          rw [if_neg c25] at H; have c25b0 : decide (a2 < 0) = false := eF_ c25; clear c25; by_cases c31 : a2 ≥ a0_0
          · rw [if_pos c31] at H
            have c31b0 : decide (a0_0 ≤ a2) = true := eT_ c31; clear c31; have H' := Z_ H; clear H; have hcz32_0 : w7.cell? ⟨gb450, 0, none⟩ = some (.int .i64 a0_0) := (bC_ BK450.out 0).trans rfl; have hcz32_1 : w7.cell? ⟨gb450, 1, none⟩ = some (.slice A0_1 l0_1.length c0_1) := (bC_ BK450.out 1).trans rfl; have hfz32_0 := bF_ BK450.out 0; have hfz32_1 := bF_ BK450.out 1; go_wp2_with (first | ((with_reducible refine gate_callee (f := 29) rfl ?_); refine goesL_ (some 17) rfl rfl Try.func29 (by kernel_rfl) rfl #[.agg #[.int .i64 a0_0, .slice A0_1 l0_1.length c0_1]] rfl (by (try simp only [mT_, mC_, mN_]); first | done | rfl | (simp only [lD_, lT_]; rfl)) ?_; (with_reducible refine (diffs_Check.calls k a0_0 _ _ l0_1 t452 _ ?side1 ?side2 A10.out).mono ?_); (case side1 => repeat (first | exact (cB_ HR0_1.out HB.out) | (with_reducible refine Kd.C_alloc ?_ _) | (with_reducible refine Kd.C_drewN ?_ _) | (with_reducible refine Kd.C_drew ?_))); (case side2 => exact HC0_1.out); rintro e w33 ⟨rfl, hb⟩; refine ⟨_, rfl, ?_⟩; have n0_ := Z_ (bB_ (g := gb450) (o := .cells #[.int .i64 a0_0, .slice A0_1 l0_1.length c0_1] 24 (0, 0)) (by (with_reducible repeat (first | refine bN_ ?_ _ | refine bD_ ?_)); exact BK450.out) hb); have n1_ := Z_ (fS_ (by repeat (first | (with_reducible first | exact HB.out | apply fA_ | apply pB_ | apply fD_ | refine fE_ ?_ GE450.out) | exact HB.out)) hb); clear BK450; clear HB; have BK450 := n0_; have HB := n1_; clear n0_ n1_; (try clear hb); (try clear hb2); (try clear hk); (try clear hi); have hcz34_0 : w33.cell? ⟨gb450, 0, none⟩ = some (.int .i64 a0_0) := (bC_ BK450.out 0).trans rfl; have hcz34_1 : w33.cell? ⟨gb450, 1, none⟩ = some (.slice A0_1 l0_1.length c0_1) := (bC_ BK450.out 1).trans rfl; have hfz34_0 := bF_ BK450.out 0; have hfz34_1 := bF_ BK450.out 1) | (go_at_call 23; (with_reducible refine (snowlinelaw04_small.calls a0_0 _ _ l0_1 true _ ?side1 ?side2 A12.out).mono ?_); (case side1 => repeat (first | exact (cB_ HR0_1.out HB.out) | (with_reducible refine Kd.C_alloc ?_ _) | (with_reducible refine Kd.C_drewN ?_ _) | (with_reducible refine Kd.C_drew ?_))); (case side2 => exact HC0_1.out); rintro e w35 ⟨rfl, hb⟩; have n0_ := Z_ (bB_ (g := gb450) (o := .cells #[.int .i64 a0_0, .slice A0_1 l0_1.length c0_1] 24 (0, 0)) (by (with_reducible repeat (first | refine bN_ ?_ _ | refine bD_ ?_)); exact BK450.out) hb); have n1_ := Z_ (fS_ (by repeat (first | (with_reducible first | exact HB.out | apply fA_ | apply pB_ | apply fD_ | refine fE_ ?_ GE450.out) | exact HB.out)) hb); clear BK450; clear HB; have BK450 := n0_; have HB := n1_; clear n0_ n1_; (try clear hb); (try clear hb2); (try clear hk); (try clear hi); have hcz36_0 : w35.cell? ⟨gb450, 0, none⟩ = some (.int .i64 a0_0) := (bC_ BK450.out 0).trans rfl; have hcz36_1 : w35.cell? ⟨gb450, 1, none⟩ = some (.slice A0_1 l0_1.length c0_1) := (bC_ BK450.out 1).trans rfl; have hfz36_0 := bF_ BK450.out 0; have hfz36_1 := bF_ BK450.out 1)); go_meet
            case rel => exact ⟨_, (true), (by first | rfl | (simp; done) | (simp [*]; done)), H', ⟨by first | omega | exact nR_ _⟩, ⟨by (with_reducible repeat (first | refine bN_ ?_ _ | refine bD_ ?_)); exact BK450.out⟩, ⟨by repeat (first | (with_reducible first | exact HB.out | apply fA_ | apply pB_ | apply fD_ | refine fE_ ?_ GE450.out) | exact HB.out)⟩⟩
          rw [if_neg c31] at H; have c31b0 : decide (a0_0 ≤ a2) = false := eF_ c31; clear c31; have H' := Z_ H; clear H; have hcz37_0 : w7.cell? ⟨gb450, 0, none⟩ = some (.int .i64 a0_0) := (bC_ BK450.out 0).trans rfl; have hcz37_1 : w7.cell? ⟨gb450, 1, none⟩ = some (.slice A0_1 l0_1.length c0_1) := (bC_ BK450.out 1).trans rfl; have hfz37_0 := bF_ BK450.out 0; have hfz37_1 := bF_ BK450.out 1; go_wp2_with (first | ((with_reducible refine gate_callee (f := 29) rfl ?_); refine goesL_ (some 17) rfl rfl Try.func29 (by kernel_rfl) rfl #[.agg #[.int .i64 a0_0, .slice A0_1 l0_1.length c0_1]] rfl (by (try simp only [mT_, mC_, mN_]); first | done | rfl | (simp only [lD_, lT_]; rfl)) ?_; (with_reducible refine (diffs_Check.calls k a0_0 _ _ l0_1 t452 _ ?side1 ?side2 A10.out).mono ?_); (case side1 => repeat (first | exact (cB_ HR0_1.out HB.out) | (with_reducible refine Kd.C_alloc ?_ _) | (with_reducible refine Kd.C_drewN ?_ _) | (with_reducible refine Kd.C_drew ?_))); (case side2 => exact HC0_1.out); rintro e w38 ⟨rfl, hb⟩; refine ⟨_, rfl, ?_⟩; have n0_ := Z_ (bB_ (g := gb450) (o := .cells #[.int .i64 a0_0, .slice A0_1 l0_1.length c0_1] 24 (0, 0)) (by (with_reducible repeat (first | refine bN_ ?_ _ | refine bD_ ?_)); exact BK450.out) hb); have n1_ := Z_ (fS_ (by repeat (first | (with_reducible first | exact HB.out | apply fA_ | apply pB_ | apply fD_ | refine fE_ ?_ GE450.out) | exact HB.out)) hb); clear BK450; clear HB; have BK450 := n0_; have HB := n1_; clear n0_ n1_; (try clear hb); (try clear hb2); (try clear hk); (try clear hi); have hcz39_0 : w38.cell? ⟨gb450, 0, none⟩ = some (.int .i64 a0_0) := (bC_ BK450.out 0).trans rfl; have hcz39_1 : w38.cell? ⟨gb450, 1, none⟩ = some (.slice A0_1 l0_1.length c0_1) := (bC_ BK450.out 1).trans rfl; have hfz39_0 := bF_ BK450.out 0; have hfz39_1 := bF_ BK450.out 1) | (go_at_call 23; (with_reducible refine (snowlinelaw04_small.calls a0_0 _ _ l0_1 true _ ?side1 ?side2 A12.out).mono ?_); (case side1 => repeat (first | exact (cB_ HR0_1.out HB.out) | (with_reducible refine Kd.C_alloc ?_ _) | (with_reducible refine Kd.C_drewN ?_ _) | (with_reducible refine Kd.C_drew ?_))); (case side2 => exact HC0_1.out); rintro e w40 ⟨rfl, hb⟩; have n0_ := Z_ (bB_ (g := gb450) (o := .cells #[.int .i64 a0_0, .slice A0_1 l0_1.length c0_1] 24 (0, 0)) (by (with_reducible repeat (first | refine bN_ ?_ _ | refine bD_ ?_)); exact BK450.out) hb); have n1_ := Z_ (fS_ (by repeat (first | (with_reducible first | exact HB.out | apply fA_ | apply pB_ | apply fD_ | refine fE_ ?_ GE450.out) | exact HB.out)) hb); clear BK450; clear HB; have BK450 := n0_; have HB := n1_; clear n0_ n1_; (try clear hb); (try clear hb2); (try clear hk); (try clear hi); have hcz41_0 : w40.cell? ⟨gb450, 0, none⟩ = some (.int .i64 a0_0) := (bC_ BK450.out 0).trans rfl; have hcz41_1 : w40.cell? ⟨gb450, 1, none⟩ = some (.slice A0_1 l0_1.length c0_1) := (bC_ BK450.out 1).trans rfl; have hfz41_0 := bF_ BK450.out 0; have hfz41_1 := bF_ BK450.out 1)); go_meet
          case rel => exact ⟨_, ((a1 == a2)), (by first | rfl | (simp; done) | (simp [*]; done)), H', ⟨by first | omega | exact nR_ _⟩, ⟨by (with_reducible repeat (first | refine bN_ ?_ _ | refine bD_ ?_)); exact BK450.out⟩, ⟨by repeat (first | (with_reducible first | exact HB.out | apply fA_ | apply pB_ | apply fD_ | refine fE_ ?_ GE450.out) | exact HB.out)⟩⟩
        replace c13 := bE_.mpr c13; subst c13; have H1 : (snowlinelaw04_DiffsUnits.j0 k a1 a2 true a0_0 l0_1) = some r := by rw [if_neg (show ¬ (false = true) by decide)] at H; exact H
        clear H; have H := H1; clear H1; have H' := Z_ H; clear H; have hcz42_0 : w7.cell? ⟨gb450, 0, none⟩ = some (.int .i64 a0_0) := (bC_ BK450.out 0).trans rfl; have hcz42_1 : w7.cell? ⟨gb450, 1, none⟩ = some (.slice A0_1 l0_1.length c0_1) := (bC_ BK450.out 1).trans rfl; have hfz42_0 := bF_ BK450.out 0; have hfz42_1 := bF_ BK450.out 1; go_wp2_with (first | ((with_reducible refine gate_callee (f := 29) rfl ?_); refine goesL_ (some 17) rfl rfl Try.func29 (by kernel_rfl) rfl #[.agg #[.int .i64 a0_0, .slice A0_1 l0_1.length c0_1]] rfl (by (try simp only [mT_, mC_, mN_]); first | done | rfl | (simp only [lD_, lT_]; rfl)) ?_; (with_reducible refine (diffs_Check.calls k a0_0 _ _ l0_1 t452 _ ?side1 ?side2 A10.out).mono ?_); (case side1 => repeat (first | exact (cB_ HR0_1.out HB.out) | (with_reducible refine Kd.C_alloc ?_ _) | (with_reducible refine Kd.C_drewN ?_ _) | (with_reducible refine Kd.C_drew ?_))); (case side2 => exact HC0_1.out); rintro e w43 ⟨rfl, hb⟩; refine ⟨_, rfl, ?_⟩; have n0_ := Z_ (bB_ (g := gb450) (o := .cells #[.int .i64 a0_0, .slice A0_1 l0_1.length c0_1] 24 (0, 0)) (by (with_reducible repeat (first | refine bN_ ?_ _ | refine bD_ ?_)); exact BK450.out) hb); have n1_ := Z_ (fS_ (by repeat (first | (with_reducible first | exact HB.out | apply fA_ | apply pB_ | apply fD_ | refine fE_ ?_ GE450.out) | exact HB.out)) hb); clear BK450; clear HB; have BK450 := n0_; have HB := n1_; clear n0_ n1_; (try clear hb); (try clear hb2); (try clear hk); (try clear hi); have hcz44_0 : w43.cell? ⟨gb450, 0, none⟩ = some (.int .i64 a0_0) := (bC_ BK450.out 0).trans rfl; have hcz44_1 : w43.cell? ⟨gb450, 1, none⟩ = some (.slice A0_1 l0_1.length c0_1) := (bC_ BK450.out 1).trans rfl; have hfz44_0 := bF_ BK450.out 0; have hfz44_1 := bF_ BK450.out 1) | (go_at_call 23; (with_reducible refine (snowlinelaw04_small.calls a0_0 _ _ l0_1 false _ ?side1 ?side2 A12.out).mono ?_); (case side1 => repeat (first | exact (cB_ HR0_1.out HB.out) | (with_reducible refine Kd.C_alloc ?_ _) | (with_reducible refine Kd.C_drewN ?_ _) | (with_reducible refine Kd.C_drew ?_))); (case side2 => exact HC0_1.out); rintro e w45 ⟨rfl, hb⟩; have n0_ := Z_ (bB_ (g := gb450) (o := .cells #[.int .i64 a0_0, .slice A0_1 l0_1.length c0_1] 24 (0, 0)) (by (with_reducible repeat (first | refine bN_ ?_ _ | refine bD_ ?_)); exact BK450.out) hb); have n1_ := Z_ (fS_ (by repeat (first | (with_reducible first | exact HB.out | apply fA_ | apply pB_ | apply fD_ | refine fE_ ?_ GE450.out) | exact HB.out)) hb); clear BK450; clear HB; have BK450 := n0_; have HB := n1_; clear n0_ n1_; (try clear hb); (try clear hb2); (try clear hk); (try clear hi))); go_meet
        case rel => exact ⟨_, (true), (by first | rfl | (simp; done) | (simp [*]; done)), H', ⟨by first | omega | exact nR_ _⟩, ⟨by (with_reducible repeat (first | refine bN_ ?_ _ | refine bD_ ?_)); exact BK450.out⟩, ⟨by repeat (first | (with_reducible first | exact HB.out | apply fA_ | apply pB_ | apply fD_ | refine fE_ ?_ GE450.out) | exact HB.out)⟩⟩
      rw [if_neg c11] at H; have c11b0 : (t452 == 0) = false := beq_eq_false_iff_ne.mpr c11; have c11b1 : (t452 != 0) = true := bne_iff_ne.mpr c11; (first | rw [c11b0] | (simp only [i64_w, i32_w]; rw [c11b0]) | skip)
      have H' := Z_ H; clear H; have hcz46_0 : w7.cell? ⟨gb450, 0, none⟩ = some (.int .i64 a0_0) := (bC_ BK450.out 0).trans rfl; have hcz46_1 : w7.cell? ⟨gb450, 1, none⟩ = some (.slice A0_1 l0_1.length c0_1) := (bC_ BK450.out 1).trans rfl; have hfz46_0 := bF_ BK450.out 0; have hfz46_1 := bF_ BK450.out 1; go_wp2_with (first | ((with_reducible refine gate_callee (f := 29) rfl ?_); refine goesL_ (some 17) rfl rfl Try.func29 (by kernel_rfl) rfl #[.agg #[.int .i64 a0_0, .slice A0_1 l0_1.length c0_1]] rfl (by (try simp only [mT_, mC_, mN_]); first | done | rfl | (simp only [lD_, lT_]; rfl)) ?_; (with_reducible refine (diffs_Check.calls k a0_0 _ _ l0_1 t452 _ ?side1 ?side2 A10.out).mono ?_); (case side1 => repeat (first | exact (cB_ HR0_1.out HB.out) | (with_reducible refine Kd.C_alloc ?_ _) | (with_reducible refine Kd.C_drewN ?_ _) | (with_reducible refine Kd.C_drew ?_))); (case side2 => exact HC0_1.out); rintro e w47 ⟨rfl, hb⟩; refine ⟨_, rfl, ?_⟩; have n0_ := Z_ (bB_ (g := gb450) (o := .cells #[.int .i64 a0_0, .slice A0_1 l0_1.length c0_1] 24 (0, 0)) (by (with_reducible repeat (first | refine bN_ ?_ _ | refine bD_ ?_)); exact BK450.out) hb); have n1_ := Z_ (fS_ (by repeat (first | (with_reducible first | exact HB.out | apply fA_ | apply pB_ | apply fD_ | refine fE_ ?_ GE450.out) | exact HB.out)) hb); clear BK450; clear HB; have BK450 := n0_; have HB := n1_; clear n0_ n1_; (try clear hb); (try clear hb2); (try clear hk); (try clear hi))); go_meet
      case rel => exact ⟨_, (true), (by first | rfl | (simp; done) | (simp [*]; done)), H', ⟨by first | omega | exact nR_ _⟩, ⟨by (with_reducible repeat (first | refine bN_ ?_ _ | refine bD_ ?_)); exact BK450.out⟩, ⟨by repeat (first | (with_reducible first | exact HB.out | apply fA_ | apply pB_ | apply fD_ | refine fE_ ?_ GE450.out) | exact HB.out)⟩⟩
    case rest =>
      clear HC9; try clear c1
      try clear c2
      try clear p2
      try clear c3
      try clear c5
      try clear c8
      try clear c11
      try clear c11b0
      try clear c11b1
      try clear c13
      try clear c14
      try clear c14b0
      try clear c19
      try clear c19b0
      try clear c21
      try clear c25
      try clear c25b0
      try clear c29
      try clear c31
      try clear c31b0
      try clear hcz15_0
      try clear hcz15_1
      try clear hcz17_0
      try clear hcz17_1
      try clear hcz20_0
      try clear hcz20_1
      try clear hcz22_0
      try clear hcz22_1
      try clear hcz24_0
      try clear hcz24_1
      try clear hcz26_0
      try clear hcz26_1
      try clear hcz28_0
      try clear hcz28_1
      try clear hcz30_0
      try clear hcz30_1
      try clear hcz32_0
      try clear hcz32_1
      try clear hcz34_0
      try clear hcz34_1
      try clear hcz36_0
      try clear hcz36_1
      try clear hcz37_0
      try clear hcz37_1
      try clear hcz39_0
      try clear hcz39_1
      try clear hcz41_0
      try clear hcz41_1
      try clear hcz42_0
      try clear hcz42_1
      try clear hcz44_0
      try clear hcz44_1
      try clear hcz46_0
      try clear hcz46_1
      try clear hfz15_0
      try clear hfz15_1
      try clear hfz17_0
      try clear hfz17_1
      try clear hfz20_0
      try clear hfz20_1
      try clear hfz22_0
      try clear hfz22_1
      try clear hfz24_0
      try clear hfz24_1
      try clear hfz26_0
      try clear hfz26_1
      try clear hfz28_0
      try clear hfz28_1
      try clear hfz30_0
      try clear hfz30_1
      try clear hfz32_0
      try clear hfz32_1
      try clear hfz34_0
      try clear hfz34_1
      try clear hfz36_0
      try clear hfz36_1
      try clear hfz37_0
      try clear hfz37_1
      try clear hfz39_0
      try clear hfz39_1
      try clear hfz41_0
      try clear hfz41_1
      try clear hfz42_0
      try clear hfz42_1
      try clear hfz44_0
      try clear hfz44_1
      try clear hfz46_0
      try clear hfz46_1
      obtain ⟨kq, x48_8, rfl, HA, HJ8, BK450, HB⟩ := hcut
      cases kq with
      | zero => exact absurd HA.out (by simp [snowlinelaw04_DiffsUnits.j0])
      | succ kj8 =>
        have H := HA.out; clear HA; simp only [snowlinelaw04_DiffsUnits.j0] at H; by_cases c48 : x48_8 = true
        · subst c48
          have H1 : (some true) = some r := by rw [if_pos rfl] at H; exact H
          clear H; have H := H1; clear H1; obtain rfl := oI_ H; go_wp2; go_ret; exact ⟨by first | rfl | (simp [errW_none, errW_some] <;> rfl) | (simp [*, errW_none, errW_some] <;> rfl), by repeat (first | (with_reducible first | exact HB.out | apply fA_ | apply pB_ | apply fD_ | refine fE_ ?_ GE450.out) | exact HB.out)⟩
        replace c48 := bE_.mpr c48; subst c48; have H1 : (if 0 ≤ a0_0 then (if (a0_0 : Int).toNat ≤ 35184372088832 then ((some (List.replicate (a0_0 : Int).toNat 0 : List Int)).bind fun y454 => (if 0 ≤ a1 then (if a1 < (y454.length : Int) then ((some (y454.set (a1 : Int).toNat 1 : List Int)).bind fun y457 => ((diffs_Most.f kj8 a0_0 l0_1 y457).bind fun bt458 => ((diffs_Apart.f kj8 a0_0 l0_1 0 a1).bind fun bt461 => (if bt458.1 = bt461.1 then (if (bt458.2.1 != bt461.2.1) = true then (snowlinelaw04_DiffsUnits.j1 kj8 a1 a2 y457 true a0_0 l0_1) else (snowlinelaw04_DiffsUnits.j1 kj8 a1 a2 y457 (bt458.2.2 != bt461.2.2) a0_0 l0_1)) else (snowlinelaw04_DiffsUnits.j1 kj8 a1 a2 y457 true a0_0 l0_1))))) else (none)) else (none))) else (none)) else (none)) = some r := by rw [if_neg (show ¬ (false = true) by decide)] at H; exact H
        clear H; have H := H1; clear H1; by_cases c49 : 0 ≤ a0_0
        · rw [if_pos c49] at H
          have c49b0 := eq_true c49; have c49b1 : decide (0 ≤ a0_0) = true := eT_ c49; clear c49; by_cases c50 : (a0_0 : Int).toNat ≤ 35184372088832
          · rw [if_pos c50] at H
            have c50b0 := eq_true c50; have c50b1 : decide ((a0_0 : Int).toNat ≤ 35184372088832) = true := eT_ c50; clear c50; obtain ⟨y454, hy454⟩ : ∃ y_ : List Int, y_ = (List.replicate (a0_0 : Int).toNat 0) := ⟨_, rfl⟩; replace H : (if 0 ≤ a1 then (if a1 < (y454.length : Int) then ((some (y454.set (a1 : Int).toNat 1 : List Int)).bind fun y457 => ((diffs_Most.f kj8 a0_0 l0_1 y457).bind fun bt458 => ((diffs_Apart.f kj8 a0_0 l0_1 0 a1).bind fun bt461 => (if bt458.1 = bt461.1 then (if (bt458.2.1 != bt461.2.1) = true then (snowlinelaw04_DiffsUnits.j1 kj8 a1 a2 y457 true a0_0 l0_1) else (snowlinelaw04_DiffsUnits.j1 kj8 a1 a2 y457 (bt458.2.2 != bt461.2.2) a0_0 l0_1)) else (snowlinelaw04_DiffsUnits.j1 kj8 a1 a2 y457 true a0_0 l0_1))))) else (none)) else (none)) = some r := by first | (rw [hy454]; with_reducible exact H) | (have H2_ := (oB_ _ _).symm.trans H; rw [hy454]; with_reducible exact H2_) | (have H2_ := (oB_ _ _).symm.trans H; with_reducible exact H2_) | with_reducible exact H | (rw [hy454]; exact H) | exact H
            have Ny454 := Z_ hy454; clear hy454; by_cases c51 : 0 ≤ a1
            · rw [if_pos c51] at H
              have c51b0 : decide (0 ≤ a1) = true := eT_ c51; clear c51; by_cases c52 : a1 < (y454.length : Int)
              · rw [if_pos c52] at H
                have c52b0 : decide (a1 < (y454.length : Int)) = true := eT_ c52; clear c52; obtain ⟨y457, hy457⟩ : ∃ y_ : List Int, y_ = (y454.set (a1 : Int).toNat 1) := ⟨_, rfl⟩; replace H : ((diffs_Most.f kj8 a0_0 l0_1 y457).bind fun bt458 => ((diffs_Apart.f kj8 a0_0 l0_1 0 a1).bind fun bt461 => (if bt458.1 = bt461.1 then (if (bt458.2.1 != bt461.2.1) = true then (snowlinelaw04_DiffsUnits.j1 kj8 a1 a2 y457 true a0_0 l0_1) else (snowlinelaw04_DiffsUnits.j1 kj8 a1 a2 y457 (bt458.2.2 != bt461.2.2) a0_0 l0_1)) else (snowlinelaw04_DiffsUnits.j1 kj8 a1 a2 y457 true a0_0 l0_1)))) = some r := by first | (rw [hy457]; with_reducible exact H) | (have H2_ := (oB_ _ _).symm.trans H; rw [hy457]; with_reducible exact H2_) | (have H2_ := (oB_ _ _).symm.trans H; with_reducible exact H2_) | with_reducible exact H | (rw [hy457]; exact H) | exact H
                have Ny457 := Z_ hy457; clear hy457; replace H := oS_.mp H; obtain ⟨⟨t458, t459, t460⟩, A540, H⟩ := H; replace H : ((diffs_Apart.f kj8 a0_0 l0_1 0 a1).bind fun bt461 => (if t458 = bt461.1 then (if (t459 != bt461.2.1) = true then (snowlinelaw04_DiffsUnits.j1 kj8 a1 a2 y457 true a0_0 l0_1) else (snowlinelaw04_DiffsUnits.j1 kj8 a1 a2 y457 (t460 != bt461.2.2) a0_0 l0_1)) else (snowlinelaw04_DiffsUnits.j1 kj8 a1 a2 y457 true a0_0 l0_1))) = some r := H; have A54 := Z_ A540; clear A540; replace H := oS_.mp H; obtain ⟨⟨t461, t462, t463⟩, A550, H⟩ := H; replace H : (if t458 = t461 then (if (t459 != t462) = true then (snowlinelaw04_DiffsUnits.j1 kj8 a1 a2 y457 true a0_0 l0_1) else (snowlinelaw04_DiffsUnits.j1 kj8 a1 a2 y457 (t460 != t463) a0_0 l0_1)) else (snowlinelaw04_DiffsUnits.j1 kj8 a1 a2 y457 true a0_0 l0_1)) = some r := H; have A55 := Z_ A550; clear A550; have HC56 := Z_ H; clear H; have hcz57_0 : wc.cell? ⟨gb450, 0, none⟩ = some (.int .i64 a0_0) := (bC_ BK450.out 0).trans rfl; have hcz57_1 : wc.cell? ⟨gb450, 1, none⟩ = some (.slice A0_1 l0_1.length c0_1) := (bC_ BK450.out 1).trans rfl; have hfz57_0 := bF_ BK450.out 0; have hfz57_1 := bF_ BK450.out 1; go_upto_region 9 with (first | ((with_reducible refine gate_dst (N := 51) rfl ?_); refine Kd.R_make (Kd.int .i64) _ 3 rfl (N := 51) rfl 29 _ _ rfl a0_0 rfl rfl Try.underlying29 (.int .i64 0) 8 info3 rfl (by decide) (by omega) 0 (ok := fun _ => True) (okp := fun _ => True) rfl (fun _ hk => hk) trivial (dT_ (by first | (with_reducible assumption) | assumption)) (Nat.le_trans (Nat.mul_le_mul_right _ (dT_ (by first | (with_reducible assumption) | assumption) : a0_0.toNat ≤ 35184372088832)) (by omega)) (Below.refl _ _) (nR_ _) ?_; intro v455 w58 ho59 hb hg_ hnew_; clear hg_ hnew_; (first | rw [← Ny454.out] at ho59 | (simp only [Int.reduceToNat] at ho59; rw [← Ny454.out] at ho59)); have n0_ := Z_ (rL_ ho59 (fZ_ (by repeat (first | (with_reducible first | exact HB.out | apply fA_ | apply pB_ | apply fD_ | refine fE_ ?_ GE450.out) | exact HB.out)))); have n1_ := Z_ (bB_ (g := gb450) (o := .cells #[.int .i64 a0_0, .slice A0_1 l0_1.length c0_1] 24 (0, 0)) (by (with_reducible repeat (first | refine bN_ ?_ _ | refine bD_ ?_)); exact BK450.out) hb); have n2_ := Z_ (fS_ (by repeat (first | (with_reducible first | exact HB.out | apply fA_ | apply pB_ | apply fD_ | refine fE_ ?_ GE450.out) | exact HB.out)) hb); clear BK450; clear HB; have HO456 := n0_; have BK450 := n1_; have HB := n2_; clear n0_ n1_ n2_; clear hb ho59; have p53 : 0 ≤ (a1 : Int) := dT_ (by first | (with_reducible assumption) | assumption); have q53 : (a1 : Int) < ((y454.length : Int) : Int) := dT_ (by first | (with_reducible assumption) | assumption); obtain ⟨go53, co53, eo53, gb53, gl53, cl53, HG53⟩ := Kd.R_form HO456.out (by omega); (first | cases eo53 | (injection eo53 with ea_ en_ ec_; (first | subst ea_ | (injection ea_ with ea_; subst ea_)); subst ec_; clear en_)); have GB53 := Z_ gb53; have GG53 := Z_ HG53; clear gb53 gl53 HG53; obtain ⟨hx53_0, hf53_0⟩ := Kd.R_celln 0 HO456.out (a1 : Int) p53 q53; replace p53 := eq_true p53; replace q53 := eq_true q53; obtain ⟨hy60_, hz60_⟩ := Kd.R_celln 0 HO456.out (a1 : Int) (dT_ (by first | (with_reducible assumption) | assumption)) (dT_ (by first | (with_reducible assumption) | assumption)); have HP60 := Kd.R_putg HO456.out (a1 : Int) 1) | ((with_reducible refine gate_store (t := 3) (p := 54) rfl ?_); refine store_event (t := 3) (p := 54) (v := ?vo_w61) (w1 := (w58.setCell ⟨go53, (a1 : Int).toNat, none⟩ (.int .i64 1))) ?hg ?ho ?hn ?hr ?_; (case ho => rfl); (case hg => rfl); (case hn => rfl); (case hr => first | (go_simp; done) | (go_simp; rfl)); intro w61 hw; have hg : w58.grownBy w61 (some go53) := (by rw [hw]; exact HP60.2); have hp_ : Kd.R (Kd.int .i64) 3 w61 w.heap.size (fun _ => True) (.slice (some ⟨go53, 0, none⟩) y454.length co53) y457 := (by rw [hw, Ny457.out]; exact HP60.1); clear HP60; have n0_ := Z_ (blk_grown (g := gb450) (o := .cells #[.int .i64 a0_0, .slice A0_1 l0_1.length c0_1] 24 (0, 0)) (by (with_reducible repeat (first | refine bN_ ?_ _ | refine bD_ ?_)); exact BK450.out) hg (Kd.R_ne HO456.out BK450.out (by decide))); have n1_ := Z_ (hp_); have n2_ := Z_ ((by rw [hw]; exact fE_ (HB.out) GB53.out : Below w.heap.size w w61)); clear BK450; clear HO456; clear HB; have BK450 := n0_; have HO456 := n1_; have HB := n2_; clear n0_ n1_ n2_; clear hg hw hp_; have hcz62_0 : w61.cell? ⟨gb450, 0, none⟩ = some (.int .i64 a0_0) := (bC_ BK450.out 0).trans rfl; have hcz62_1 : w61.cell? ⟨gb450, 1, none⟩ = some (.slice A0_1 l0_1.length c0_1) := (bC_ BK450.out 1).trans rfl; have hfz62_0 := bF_ BK450.out 0; have hfz62_1 := bF_ BK450.out 1) | ((with_reducible refine gate_callee (f := 31) rfl ?_); refine goesL_ (some 58) rfl rfl Try.func31 (by kernel_rfl) rfl #[.agg #[.int .i64 a0_0, .slice A0_1 l0_1.length c0_1], .slice (some ⟨go53, 0, none⟩) y457.length co53] rfl (by (try simp only [mT_, mC_, mN_]); first | done | (rw [show y457.length = y454.length from (rR_ HO456.out).1.symm] <;> rfl) | rfl | (simp only [lD_, lT_]; rfl)) ?_; (with_reducible refine (diffs_Most.calls kj8 a0_0 _ _ l0_1 _ _ y457 t458 t459 t460 _ ?side1 ?side2 ?side3 ?side4 A54.out).mono ?_); (case side1 => repeat (first | exact (cB_ HR0_1.out HB.out) | (with_reducible refine Kd.C_alloc ?_ _) | (with_reducible refine Kd.C_drewN ?_ _) | (with_reducible refine Kd.C_drew ?_))); (case side2 => exact HC0_1.out); (case side3 => repeat (first | exact (rR_ HO456.out).2.2 | (with_reducible refine Kd.C_alloc ?_ _) | (with_reducible refine Kd.C_drewN ?_ _) | (with_reducible refine Kd.C_drew ?_))); (case side4 => rw [show y457.length = y454.length from (rR_ HO456.out).1.symm]; exact (rR_ HO456.out).2.1); rintro e w63 ⟨rfl, hb⟩; refine ⟨_, rfl, ?_⟩; have n0_ := Z_ (rB_ (by (with_reducible repeat (first | apply rN_ | apply rD_)); exact HO456.out) hb); have n1_ := Z_ (bB_ (g := gb450) (o := .cells #[.int .i64 a0_0, .slice A0_1 l0_1.length c0_1] 24 (0, 0)) (by (with_reducible repeat (first | refine bN_ ?_ _ | refine bD_ ?_)); exact BK450.out) hb); have n2_ := Z_ (fS_ (by repeat (first | (with_reducible first | exact HB.out | apply fA_ | apply pB_ | apply fD_ | refine fE_ ?_ GE450.out) | exact HB.out)) hb); clear HO456; clear BK450; clear HB; have HO456 := n0_; have BK450 := n1_; have HB := n2_; clear n0_ n1_ n2_; (try clear hb); (try clear hb2); (try clear hk); (try clear hi); have hcz64_0 : w63.cell? ⟨gb450, 0, none⟩ = some (.int .i64 a0_0) := (bC_ BK450.out 0).trans rfl; have hcz64_1 : w63.cell? ⟨gb450, 1, none⟩ = some (.slice A0_1 l0_1.length c0_1) := (bC_ BK450.out 1).trans rfl; have hfz64_0 := bF_ BK450.out 0; have hfz64_1 := bF_ BK450.out 1) | ((with_reducible refine gate_callee (f := 30) rfl ?_); refine goesL_ (some 65) rfl rfl Try.func30 (by kernel_rfl) rfl #[.agg #[.int .i64 a0_0, .slice A0_1 l0_1.length c0_1], .int .i64 0, .int .i64 a1] rfl (by (try simp only [mT_, mC_, mN_]); first | done | rfl | (simp only [lD_, lT_]; rfl)) ?_; (with_reducible refine (diffs_Apart.calls kj8 a0_0 _ _ l0_1 0 a1 t461 t462 t463 _ ?side1 ?side2 A55.out).mono ?_); (case side1 => repeat (first | exact (cB_ HR0_1.out HB.out) | (with_reducible refine Kd.C_alloc ?_ _) | (with_reducible refine Kd.C_drewN ?_ _) | (with_reducible refine Kd.C_drew ?_))); (case side2 => exact HC0_1.out); rintro e w65 ⟨rfl, hb⟩; refine ⟨_, rfl, ?_⟩; have n0_ := Z_ (rB_ (by (with_reducible repeat (first | apply rN_ | apply rD_)); exact HO456.out) hb); have n1_ := Z_ (bB_ (g := gb450) (o := .cells #[.int .i64 a0_0, .slice A0_1 l0_1.length c0_1] 24 (0, 0)) (by (with_reducible repeat (first | refine bN_ ?_ _ | refine bD_ ?_)); exact BK450.out) hb); have n2_ := Z_ (fS_ (by repeat (first | (with_reducible first | exact HB.out | apply fA_ | apply pB_ | apply fD_ | refine fE_ ?_ GE450.out) | exact HB.out)) hb); clear HO456; clear BK450; clear HB; have HO456 := n0_; have BK450 := n1_; have HB := n2_; clear n0_ n1_ n2_; (try clear hb); (try clear hb2); (try clear hk); (try clear hi))); (try simp only [Act.put, sT_, sZ_, sS_])
                go_cut [81] (fun v81 wc => ∃ (kq : Nat) (x81_55 : Bool), v81 = .bool x81_55 ∧ Aside0 (snowlinelaw04_DiffsUnits.j1 kq a1 a2 y457 x81_55 a0_0 l0_1 = some r) ∧ Aside0 (kq ≤ kj8) ∧ Aside0 (Kd.R (Kd.int .i64) 3 wc w.heap.size (fun _ => True) (.slice (some ⟨go53, 0, none⟩) y454.length co53) y457) ∧ Aside0 (wc.heap[gb450]? = some (.cells #[.int .i64 a0_0, (.slice A0_1 l0_1.length c0_1)] 24 (0, 0))) ∧ Aside0 (Below w.heap.size w wc))
                case first =>
                  have H := HC56.out; clear HC56; by_cases c66 : t458 = t461
                  · rw [if_pos c66] at H
                    have c66b0 : (t458 == t461) = true := beq_iff_eq.mpr c66; have c66b1 : (t458 != t461) = false := bne_eq_false_iff_eq.mpr c66; clear c66; (first | rw [c66b0] | (simp only [i64_w, i32_w]; rw [c66b0]) | skip)
                    by_cases c67 : (t459 != t462) = true
                    · rw [if_pos c67] at H
                      have c67b0 : (t459 != t462) = true := c67; (try (have c67b1 : decide (t459 = t462) = false := by simpa using c67))
                      (try (have c67b2 : (t459 == t462) = false := by simpa using c67))
                      (try (have c67b3 : ¬ (t459 = t462) := by simpa using c67))
                      clear c67; have H' := Z_ H; clear H; go_wp2; go_meet
                      case rel => exact ⟨_, (true), (by first | rfl | (simp; done) | (simp [*]; done)), H', ⟨by have := HJ8.out; first | omega | exact nR_ _⟩, ⟨by (with_reducible repeat (first | apply rN_ | apply rD_)); exact HO456.out⟩, ⟨by (with_reducible repeat (first | refine bN_ ?_ _ | refine bD_ ?_)); exact BK450.out⟩, ⟨by repeat (first | (with_reducible first | exact HB.out | apply fA_ | apply pB_ | apply fD_ | refine fE_ ?_ GE450.out) | exact HB.out)⟩⟩
                    rw [if_neg c67] at H; have c67b0 : (t459 != t462) = false := by simpa using c67
                    (try (have c67b1 : decide (t459 = t462) = true := by simpa using c67))
                    (try (have c67b2 : (t459 == t462) = true := by simpa using c67))
                    clear c67; have H' := Z_ H; clear H; go_wp2; go_meet
                    case rel => exact ⟨_, ((t460 != t463)), (by first | rfl | (simp; done) | (simp [*]; done)), H', ⟨by have := HJ8.out; first | omega | exact nR_ _⟩, ⟨by (with_reducible repeat (first | apply rN_ | apply rD_)); exact HO456.out⟩, ⟨by (with_reducible repeat (first | refine bN_ ?_ _ | refine bD_ ?_)); exact BK450.out⟩, ⟨by repeat (first | (with_reducible first | exact HB.out | apply fA_ | apply pB_ | apply fD_ | refine fE_ ?_ GE450.out) | exact HB.out)⟩⟩
                  rw [if_neg c66] at H; have c66b0 : (t458 == t461) = false := beq_eq_false_iff_ne.mpr c66; have c66b1 : (t458 != t461) = true := bne_iff_ne.mpr c66; (first | rw [c66b0] | (simp only [i64_w, i32_w]; rw [c66b0]) | skip)
                  have H' := Z_ H; clear H; go_wp2; go_meet
                  case rel => exact ⟨_, (true), (by first | rfl | (simp; done) | (simp [*]; done)), H', ⟨by have := HJ8.out; first | omega | exact nR_ _⟩, ⟨by (with_reducible repeat (first | apply rN_ | apply rD_)); exact HO456.out⟩, ⟨by (with_reducible repeat (first | refine bN_ ?_ _ | refine bD_ ?_)); exact BK450.out⟩, ⟨by repeat (first | (with_reducible first | exact HB.out | apply fA_ | apply pB_ | apply fD_ | refine fE_ ?_ GE450.out) | exact HB.out)⟩⟩
                case rest =>
                  clear HC56; try clear c1
                  try clear c2
                  try clear p2
                  try clear c3
                  try clear c4
                  try clear c5
                  try clear p5
                  try clear q5
                  try clear hx5
                  try clear hf5
                  try clear c6
                  try clear c8
                  try clear c11
                  try clear c11b0
                  try clear c11b1
                  try clear c13
                  try clear c14
                  try clear c14b0
                  try clear c19
                  try clear c19b0
                  try clear c21
                  try clear c25
                  try clear c25b0
                  try clear c29
                  try clear c30
                  try clear c31
                  try clear c31b0
                  try clear c48
                  try clear c49
                  try clear c49b0
                  try clear c49b1
                  try clear c50
                  try clear c50b0
                  try clear c50b1
                  try clear c51
                  try clear c51b0
                  try clear c52
                  try clear c52b0
                  try clear p53
                  try clear q53
                  try clear hx53
                  try clear hf53
                  try clear c66
                  try clear c66b0
                  try clear c66b1
                  try clear c67
                  try clear c67b0
                  try clear c67b1
                  try clear c67b2
                  try clear hcz15_0
                  try clear hcz15_1
                  try clear hcz17_0
                  try clear hcz17_1
                  try clear hcz20_0
                  try clear hcz20_1
                  try clear hcz22_0
                  try clear hcz22_1
                  try clear hcz24_0
                  try clear hcz24_1
                  try clear hcz26_0
                  try clear hcz26_1
                  try clear hcz28_0
                  try clear hcz28_1
                  try clear hcz30_0
                  try clear hcz30_1
                  try clear hcz32_0
                  try clear hcz32_1
                  try clear hcz34_0
                  try clear hcz34_1
                  try clear hcz36_0
                  try clear hcz36_1
                  try clear hcz37_0
                  try clear hcz37_1
                  try clear hcz39_0
                  try clear hcz39_1
                  try clear hcz41_0
                  try clear hcz41_1
                  try clear hcz42_0
                  try clear hcz42_1
                  try clear hcz44_0
                  try clear hcz44_1
                  try clear hcz46_0
                  try clear hcz46_1
                  try clear hcz57_0
                  try clear hcz57_1
                  try clear hcz62_0
                  try clear hcz62_1
                  try clear hcz64_0
                  try clear hcz64_1
                  try clear hfz15_0
                  try clear hfz15_1
                  try clear hfz17_0
                  try clear hfz17_1
                  try clear hfz20_0
                  try clear hfz20_1
                  try clear hfz22_0
                  try clear hfz22_1
                  try clear hfz24_0
                  try clear hfz24_1
                  try clear hfz26_0
                  try clear hfz26_1
                  try clear hfz28_0
                  try clear hfz28_1
                  try clear hfz30_0
                  try clear hfz30_1
                  try clear hfz32_0
                  try clear hfz32_1
                  try clear hfz34_0
                  try clear hfz34_1
                  try clear hfz36_0
                  try clear hfz36_1
                  try clear hfz37_0
                  try clear hfz37_1
                  try clear hfz39_0
                  try clear hfz39_1
                  try clear hfz41_0
                  try clear hfz41_1
                  try clear hfz42_0
                  try clear hfz42_1
                  try clear hfz44_0
                  try clear hfz44_1
                  try clear hfz46_0
                  try clear hfz46_1
                  try clear hfz57_0
                  try clear hfz57_1
                  try clear hfz62_0
                  try clear hfz62_1
                  try clear hfz64_0
                  try clear hfz64_1
                  try clear hx53_0
                  try clear p2
                  try clear p53
                  try clear q53
                  obtain ⟨kq, x81_55, rfl, HA, HJ55, HO_7, BK450, HB⟩ := hcut; have hl7_55 := (rR_ HO_7.out).1; rw [hl7_55] at HO_7; (try simp only [hl7_55])
                  (try simp only [hl7_55] at BK450)
                  cases kq with
                  | zero => exact absurd HA.out (by simp [snowlinelaw04_DiffsUnits.j1])
                  | succ kj55 =>
                    have H := HA.out; clear HA; simp only [snowlinelaw04_DiffsUnits.j1] at H; by_cases c68 : x81_55 = true
                    · subst c68
                      have H1 : (some false) = some r := by rw [if_pos rfl] at H; exact H
                      clear H; have H := H1; clear H1; obtain rfl := oI_ H; go_wp2; go_ret; exact ⟨by first | rfl | (simp [errW_none, errW_some] <;> rfl) | (simp [*, errW_none, errW_some] <;> rfl), by repeat (first | (with_reducible first | exact HB.out | apply fA_ | apply pB_ | apply fD_ | refine fE_ ?_ GE450.out) | exact HB.out)⟩
                    replace c68 := bE_.mpr c68; subst c68; have H1 : (if 0 ≤ a2 then (if a2 < (y457.length : Int) then ((diffs_Most.f kj55 a0_0 l0_1 (y457.set (a2 : Int).toNat (-1))).bind fun bt465 => ((diffs_Apart.f kj55 a0_0 l0_1 a2 a1).bind fun bt468 => (if bt465.1 = bt468.1 then (if (bt465.2.1 == bt468.2.1) = true then (some (bt465.2.2 == bt468.2.2)) else (some false)) else (some false)))) else (none)) else (none)) = some r := by rw [if_neg (show ¬ (false = true) by decide)] at H; exact H
                    clear H; have H := H1; clear H1; by_cases c69 : 0 ≤ a2
                    · rw [if_pos c69] at H
                      have c69b0 : decide (0 ≤ a2) = true := eT_ c69; clear c69; by_cases c70 : a2 < (y457.length : Int)
                      · rw [if_pos c70] at H
                        have c70b0 : decide (a2 < (y457.length : Int)) = true := eT_ c70; clear c70; obtain ⟨y464, hy464⟩ : ∃ y_ : List Int, y_ = (y457.set (a2 : Int).toNat (-1)) := ⟨_, rfl⟩; replace H : ((diffs_Most.f kj55 a0_0 l0_1 y464).bind fun bt465 => ((diffs_Apart.f kj55 a0_0 l0_1 a2 a1).bind fun bt468 => (if bt465.1 = bt468.1 then (if (bt465.2.1 == bt468.2.1) = true then (some (bt465.2.2 == bt468.2.2)) else (some false)) else (some false)))) = some r := by first | (rw [hy464]; with_reducible exact H) | (have H2_ := (oB_ _ _).symm.trans H; rw [hy464]; with_reducible exact H2_) | (have H2_ := (oB_ _ _).symm.trans H; with_reducible exact H2_) | with_reducible exact H | (rw [hy464]; exact H) | exact H
                        have Ny464 := Z_ hy464; clear hy464; replace H := oS_.mp H; obtain ⟨⟨t465, t466, t467⟩, A720, H⟩ := H; replace H : ((diffs_Apart.f kj55 a0_0 l0_1 a2 a1).bind fun bt468 => (if t465 = bt468.1 then (if (t466 == bt468.2.1) = true then (some (t467 == bt468.2.2)) else (some false)) else (some false))) = some r := H; have A72 := Z_ A720; clear A720; replace H := oS_.mp H; obtain ⟨⟨t468, t469, t470⟩, A730, H⟩ := H; replace H : (if t465 = t468 then (if (t466 == t469) = true then (some (t467 == t470)) else (some false)) else (some false)) = some r := H; have A73 := Z_ A730; clear A730; by_cases c74 : t465 = t468
                        · rw [if_pos c74] at H
                          have c74b0 : (t465 == t468) = true := beq_iff_eq.mpr c74; have c74b1 : (t465 != t468) = false := bne_eq_false_iff_eq.mpr c74; clear c74; by_cases c75 : (t466 == t469) = true
                          · rw [if_pos c75] at H
                            have c75b0 : (t466 == t469) = true := c75; (try (have c75b1 : decide (t466 = t469) = true := by simpa using c75))
                            (try (have c75b2 : (t466 == t469) = true := by simpa using c75))
                            clear c75; obtain rfl := oI_ H; have p71 : 0 ≤ (a2 : Int) := dT_ (by first | (with_reducible assumption) | assumption); have q71 : (a2 : Int) < ((y457.length : Int) : Int) := dT_ (by first | (with_reducible assumption) | assumption); obtain ⟨hx71_0, hf71_0⟩ := Kd.R_celln 0 HO_7.out (a2 : Int) p71 q71; replace p71 := eq_true p71; replace q71 := eq_true q71; have HP76 := Kd.R_putg HO_7.out (a2 : Int) (-1); go_wp2_with (first | ((with_reducible refine gate_store (t := 3) (p := 84) rfl ?_); refine store_event (t := 3) (p := 84) (v := ?vo_w77) (w1 := (wc.setCell ⟨go53, (a2 : Int).toNat, none⟩ (.int .i64 (-1)))) ?hg ?ho ?hn ?hr ?_; (case ho => rfl); (case hg => rfl); (case hn => rfl); (case hr => first | (go_simp; done) | (go_simp; rfl)); intro w77 hw; have hg : wc.grownBy w77 (some go53) := (by rw [hw]; exact HP76.2); have hp_ : Kd.R (Kd.int .i64) 3 w77 w.heap.size (fun _ => True) (.slice (some ⟨go53, 0, none⟩) y457.length co53) y464 := (by rw [hw, Ny464.out]; exact HP76.1); clear HP76; have n0_ := Z_ (hp_); have n1_ := Z_ (blk_grown (g := gb450) (o := .cells #[.int .i64 a0_0, .slice A0_1 l0_1.length c0_1] 24 (0, 0)) (by (with_reducible repeat (first | refine bN_ ?_ _ | refine bD_ ?_)); exact BK450.out) hg (Kd.R_ne HO_7.out BK450.out (by decide))); have n2_ := Z_ ((by rw [hw]; exact fE_ (HB.out) GB53.out : Below w.heap.size w w77)); clear HO_7; clear BK450; clear HB; have HO_7 := n0_; have BK450 := n1_; have HB := n2_; clear n0_ n1_ n2_; clear hg hw hp_; have hcz78_0 : w77.cell? ⟨gb450, 0, none⟩ = some (.int .i64 a0_0) := (bC_ BK450.out 0).trans rfl; have hcz78_1 : w77.cell? ⟨gb450, 1, none⟩ = some (.slice A0_1 l0_1.length c0_1) := (bC_ BK450.out 1).trans rfl; have hfz78_0 := bF_ BK450.out 0; have hfz78_1 := bF_ BK450.out 1) | ((with_reducible refine gate_callee (f := 31) rfl ?_); refine goesL_ (some 88) rfl rfl Try.func31 (by kernel_rfl) rfl #[.agg #[.int .i64 a0_0, .slice A0_1 l0_1.length c0_1], .slice (some ⟨go53, 0, none⟩) y464.length co53] rfl (by (try simp only [mT_, mC_, mN_]); first | done | (rw [show y464.length = y457.length from (rR_ HO_7.out).1.symm] <;> rfl) | rfl | (simp only [lD_, lT_]; rfl)) ?_; (with_reducible refine (diffs_Most.calls kj55 a0_0 _ _ l0_1 _ _ y464 t465 t466 t467 _ ?side1 ?side2 ?side3 ?side4 A72.out).mono ?_); (case side1 => repeat (first | exact (cB_ HR0_1.out HB.out) | (with_reducible refine Kd.C_alloc ?_ _) | (with_reducible refine Kd.C_drewN ?_ _) | (with_reducible refine Kd.C_drew ?_))); (case side2 => exact HC0_1.out); (case side3 => repeat (first | exact (rR_ HO_7.out).2.2 | (with_reducible refine Kd.C_alloc ?_ _) | (with_reducible refine Kd.C_drewN ?_ _) | (with_reducible refine Kd.C_drew ?_))); (case side4 => rw [show y464.length = y457.length from (rR_ HO_7.out).1.symm]; exact (rR_ HO_7.out).2.1); rintro e w79 ⟨rfl, hb⟩; refine ⟨_, rfl, ?_⟩; have n0_ := Z_ (rB_ (by (with_reducible repeat (first | apply rN_ | apply rD_)); exact HO_7.out) hb); have n1_ := Z_ (bB_ (g := gb450) (o := .cells #[.int .i64 a0_0, .slice A0_1 l0_1.length c0_1] 24 (0, 0)) (by (with_reducible repeat (first | refine bN_ ?_ _ | refine bD_ ?_)); exact BK450.out) hb); have n2_ := Z_ (fS_ (by repeat (first | (with_reducible first | exact HB.out | apply fA_ | apply pB_ | apply fD_ | refine fE_ ?_ GE450.out) | exact HB.out)) hb); clear HO_7; clear BK450; clear HB; have HO_7 := n0_; have BK450 := n1_; have HB := n2_; clear n0_ n1_ n2_; (try clear hb); (try clear hb2); (try clear hk); (try clear hi); have hcz80_0 : w79.cell? ⟨gb450, 0, none⟩ = some (.int .i64 a0_0) := (bC_ BK450.out 0).trans rfl; have hcz80_1 : w79.cell? ⟨gb450, 1, none⟩ = some (.slice A0_1 l0_1.length c0_1) := (bC_ BK450.out 1).trans rfl; have hfz80_0 := bF_ BK450.out 0; have hfz80_1 := bF_ BK450.out 1) | ((with_reducible refine gate_callee (f := 30) rfl ?_); refine goesL_ (some 96) rfl rfl Try.func30 (by kernel_rfl) rfl #[.agg #[.int .i64 a0_0, .slice A0_1 l0_1.length c0_1], .int .i64 a2, .int .i64 a1] rfl (by (try simp only [mT_, mC_, mN_]); first | done | rfl | (simp only [lD_, lT_]; rfl)) ?_; (with_reducible refine (diffs_Apart.calls kj55 a0_0 _ _ l0_1 a2 a1 t468 t469 t470 _ ?side1 ?side2 A73.out).mono ?_); (case side1 => repeat (first | exact (cB_ HR0_1.out HB.out) | (with_reducible refine Kd.C_alloc ?_ _) | (with_reducible refine Kd.C_drewN ?_ _) | (with_reducible refine Kd.C_drew ?_))); (case side2 => exact HC0_1.out); rintro e w81 ⟨rfl, hb⟩; refine ⟨_, rfl, ?_⟩; have n0_ := Z_ (rB_ (by (with_reducible repeat (first | apply rN_ | apply rD_)); exact HO_7.out) hb); have n1_ := Z_ (bB_ (g := gb450) (o := .cells #[.int .i64 a0_0, .slice A0_1 l0_1.length c0_1] 24 (0, 0)) (by (with_reducible repeat (first | refine bN_ ?_ _ | refine bD_ ?_)); exact BK450.out) hb); have n2_ := Z_ (fS_ (by repeat (first | (with_reducible first | exact HB.out | apply fA_ | apply pB_ | apply fD_ | refine fE_ ?_ GE450.out) | exact HB.out)) hb); clear HO_7; clear BK450; clear HB; have HO_7 := n0_; have BK450 := n1_; have HB := n2_; clear n0_ n1_ n2_; (try clear hb); (try clear hb2); (try clear hk); (try clear hi))); go_ret; exact ⟨by first | rfl | (simp [errW_none, errW_some] <;> rfl) | (simp [*, errW_none, errW_some] <;> rfl), by repeat (first | (with_reducible first | exact HB.out | apply fA_ | apply pB_ | apply fD_ | refine fE_ ?_ GE450.out) | exact HB.out)⟩
                          rw [if_neg c75] at H; have c75b0 : (t466 == t469) = false := by simpa using c75
                          (try (have c75b1 : decide (t466 = t469) = false := by simpa using c75))
                          (try (have c75b2 : (t466 == t469) = false := by simpa using c75))
                          (try (have c75b3 : ¬ (t466 = t469) := by simpa using c75))
                          clear c75; obtain rfl := oI_ H; have p71 : 0 ≤ (a2 : Int) := dT_ (by first | (with_reducible assumption) | assumption); have q71 : (a2 : Int) < ((y457.length : Int) : Int) := dT_ (by first | (with_reducible assumption) | assumption); obtain ⟨hx71_0, hf71_0⟩ := Kd.R_celln 0 HO_7.out (a2 : Int) p71 q71; replace p71 := eq_true p71; replace q71 := eq_true q71; have HP82 := Kd.R_putg HO_7.out (a2 : Int) (-1); go_wp2_with (first | ((with_reducible refine gate_store (t := 3) (p := 84) rfl ?_); refine store_event (t := 3) (p := 84) (v := ?vo_w83) (w1 := (wc.setCell ⟨go53, (a2 : Int).toNat, none⟩ (.int .i64 (-1)))) ?hg ?ho ?hn ?hr ?_; (case ho => rfl); (case hg => rfl); (case hn => rfl); (case hr => first | (go_simp; done) | (go_simp; rfl)); intro w83 hw; have hg : wc.grownBy w83 (some go53) := (by rw [hw]; exact HP82.2); have hp_ : Kd.R (Kd.int .i64) 3 w83 w.heap.size (fun _ => True) (.slice (some ⟨go53, 0, none⟩) y457.length co53) y464 := (by rw [hw, Ny464.out]; exact HP82.1); clear HP82; have n0_ := Z_ (hp_); have n1_ := Z_ (blk_grown (g := gb450) (o := .cells #[.int .i64 a0_0, .slice A0_1 l0_1.length c0_1] 24 (0, 0)) (by (with_reducible repeat (first | refine bN_ ?_ _ | refine bD_ ?_)); exact BK450.out) hg (Kd.R_ne HO_7.out BK450.out (by decide))); have n2_ := Z_ ((by rw [hw]; exact fE_ (HB.out) GB53.out : Below w.heap.size w w83)); clear HO_7; clear BK450; clear HB; have HO_7 := n0_; have BK450 := n1_; have HB := n2_; clear n0_ n1_ n2_; clear hg hw hp_; have hcz84_0 : w83.cell? ⟨gb450, 0, none⟩ = some (.int .i64 a0_0) := (bC_ BK450.out 0).trans rfl; have hcz84_1 : w83.cell? ⟨gb450, 1, none⟩ = some (.slice A0_1 l0_1.length c0_1) := (bC_ BK450.out 1).trans rfl; have hfz84_0 := bF_ BK450.out 0; have hfz84_1 := bF_ BK450.out 1) | ((with_reducible refine gate_callee (f := 31) rfl ?_); refine goesL_ (some 88) rfl rfl Try.func31 (by kernel_rfl) rfl #[.agg #[.int .i64 a0_0, .slice A0_1 l0_1.length c0_1], .slice (some ⟨go53, 0, none⟩) y464.length co53] rfl (by (try simp only [mT_, mC_, mN_]); first | done | (rw [show y464.length = y457.length from (rR_ HO_7.out).1.symm] <;> rfl) | rfl | (simp only [lD_, lT_]; rfl)) ?_; (with_reducible refine (diffs_Most.calls kj55 a0_0 _ _ l0_1 _ _ y464 t465 t466 t467 _ ?side1 ?side2 ?side3 ?side4 A72.out).mono ?_); (case side1 => repeat (first | exact (cB_ HR0_1.out HB.out) | (with_reducible refine Kd.C_alloc ?_ _) | (with_reducible refine Kd.C_drewN ?_ _) | (with_reducible refine Kd.C_drew ?_))); (case side2 => exact HC0_1.out); (case side3 => repeat (first | exact (rR_ HO_7.out).2.2 | (with_reducible refine Kd.C_alloc ?_ _) | (with_reducible refine Kd.C_drewN ?_ _) | (with_reducible refine Kd.C_drew ?_))); (case side4 => rw [show y464.length = y457.length from (rR_ HO_7.out).1.symm]; exact (rR_ HO_7.out).2.1); rintro e w85 ⟨rfl, hb⟩; refine ⟨_, rfl, ?_⟩; have n0_ := Z_ (rB_ (by (with_reducible repeat (first | apply rN_ | apply rD_)); exact HO_7.out) hb); have n1_ := Z_ (bB_ (g := gb450) (o := .cells #[.int .i64 a0_0, .slice A0_1 l0_1.length c0_1] 24 (0, 0)) (by (with_reducible repeat (first | refine bN_ ?_ _ | refine bD_ ?_)); exact BK450.out) hb); have n2_ := Z_ (fS_ (by repeat (first | (with_reducible first | exact HB.out | apply fA_ | apply pB_ | apply fD_ | refine fE_ ?_ GE450.out) | exact HB.out)) hb); clear HO_7; clear BK450; clear HB; have HO_7 := n0_; have BK450 := n1_; have HB := n2_; clear n0_ n1_ n2_; (try clear hb); (try clear hb2); (try clear hk); (try clear hi); have hcz86_0 : w85.cell? ⟨gb450, 0, none⟩ = some (.int .i64 a0_0) := (bC_ BK450.out 0).trans rfl; have hcz86_1 : w85.cell? ⟨gb450, 1, none⟩ = some (.slice A0_1 l0_1.length c0_1) := (bC_ BK450.out 1).trans rfl; have hfz86_0 := bF_ BK450.out 0; have hfz86_1 := bF_ BK450.out 1) | ((with_reducible refine gate_callee (f := 30) rfl ?_); refine goesL_ (some 96) rfl rfl Try.func30 (by kernel_rfl) rfl #[.agg #[.int .i64 a0_0, .slice A0_1 l0_1.length c0_1], .int .i64 a2, .int .i64 a1] rfl (by (try simp only [mT_, mC_, mN_]); first | done | rfl | (simp only [lD_, lT_]; rfl)) ?_; (with_reducible refine (diffs_Apart.calls kj55 a0_0 _ _ l0_1 a2 a1 t468 t469 t470 _ ?side1 ?side2 A73.out).mono ?_); (case side1 => repeat (first | exact (cB_ HR0_1.out HB.out) | (with_reducible refine Kd.C_alloc ?_ _) | (with_reducible refine Kd.C_drewN ?_ _) | (with_reducible refine Kd.C_drew ?_))); (case side2 => exact HC0_1.out); rintro e w87 ⟨rfl, hb⟩; refine ⟨_, rfl, ?_⟩; have n0_ := Z_ (rB_ (by (with_reducible repeat (first | apply rN_ | apply rD_)); exact HO_7.out) hb); have n1_ := Z_ (bB_ (g := gb450) (o := .cells #[.int .i64 a0_0, .slice A0_1 l0_1.length c0_1] 24 (0, 0)) (by (with_reducible repeat (first | refine bN_ ?_ _ | refine bD_ ?_)); exact BK450.out) hb); have n2_ := Z_ (fS_ (by repeat (first | (with_reducible first | exact HB.out | apply fA_ | apply pB_ | apply fD_ | refine fE_ ?_ GE450.out) | exact HB.out)) hb); clear HO_7; clear BK450; clear HB; have HO_7 := n0_; have BK450 := n1_; have HB := n2_; clear n0_ n1_ n2_; (try clear hb); (try clear hb2); (try clear hk); (try clear hi))); go_ret; exact ⟨by first | rfl | (simp [errW_none, errW_some] <;> rfl) | (simp [*, errW_none, errW_some] <;> rfl), by repeat (first | (with_reducible first | exact HB.out | apply fA_ | apply pB_ | apply fD_ | refine fE_ ?_ GE450.out) | exact HB.out)⟩
                        rw [if_neg c74] at H; have c74b0 : (t465 == t468) = false := beq_eq_false_iff_ne.mpr c74; have c74b1 : (t465 != t468) = true := bne_iff_ne.mpr c74; obtain rfl := oI_ H; have p71 : 0 ≤ (a2 : Int) := dT_ (by first | (with_reducible assumption) | assumption); have q71 : (a2 : Int) < ((y457.length : Int) : Int) := dT_ (by first | (with_reducible assumption) | assumption); obtain ⟨hx71_0, hf71_0⟩ := Kd.R_celln 0 HO_7.out (a2 : Int) p71 q71; replace p71 := eq_true p71; replace q71 := eq_true q71; have HP88 := Kd.R_putg HO_7.out (a2 : Int) (-1); go_wp2_with (first | ((with_reducible refine gate_store (t := 3) (p := 84) rfl ?_); refine store_event (t := 3) (p := 84) (v := ?vo_w89) (w1 := (wc.setCell ⟨go53, (a2 : Int).toNat, none⟩ (.int .i64 (-1)))) ?hg ?ho ?hn ?hr ?_; (case ho => rfl); (case hg => rfl); (case hn => rfl); (case hr => first | (go_simp; done) | (go_simp; rfl)); intro w89 hw; have hg : wc.grownBy w89 (some go53) := (by rw [hw]; exact HP88.2); have hp_ : Kd.R (Kd.int .i64) 3 w89 w.heap.size (fun _ => True) (.slice (some ⟨go53, 0, none⟩) y457.length co53) y464 := (by rw [hw, Ny464.out]; exact HP88.1); clear HP88; have n0_ := Z_ (hp_); have n1_ := Z_ (blk_grown (g := gb450) (o := .cells #[.int .i64 a0_0, .slice A0_1 l0_1.length c0_1] 24 (0, 0)) (by (with_reducible repeat (first | refine bN_ ?_ _ | refine bD_ ?_)); exact BK450.out) hg (Kd.R_ne HO_7.out BK450.out (by decide))); have n2_ := Z_ ((by rw [hw]; exact fE_ (HB.out) GB53.out : Below w.heap.size w w89)); clear HO_7; clear BK450; clear HB; have HO_7 := n0_; have BK450 := n1_; have HB := n2_; clear n0_ n1_ n2_; clear hg hw hp_; have hcz90_0 : w89.cell? ⟨gb450, 0, none⟩ = some (.int .i64 a0_0) := (bC_ BK450.out 0).trans rfl; have hcz90_1 : w89.cell? ⟨gb450, 1, none⟩ = some (.slice A0_1 l0_1.length c0_1) := (bC_ BK450.out 1).trans rfl; have hfz90_0 := bF_ BK450.out 0; have hfz90_1 := bF_ BK450.out 1) | ((with_reducible refine gate_callee (f := 31) rfl ?_); refine goesL_ (some 88) rfl rfl Try.func31 (by kernel_rfl) rfl #[.agg #[.int .i64 a0_0, .slice A0_1 l0_1.length c0_1], .slice (some ⟨go53, 0, none⟩) y464.length co53] rfl (by (try simp only [mT_, mC_, mN_]); first | done | (rw [show y464.length = y457.length from (rR_ HO_7.out).1.symm] <;> rfl) | rfl | (simp only [lD_, lT_]; rfl)) ?_; (with_reducible refine (diffs_Most.calls kj55 a0_0 _ _ l0_1 _ _ y464 t465 t466 t467 _ ?side1 ?side2 ?side3 ?side4 A72.out).mono ?_); (case side1 => repeat (first | exact (cB_ HR0_1.out HB.out) | (with_reducible refine Kd.C_alloc ?_ _) | (with_reducible refine Kd.C_drewN ?_ _) | (with_reducible refine Kd.C_drew ?_))); (case side2 => exact HC0_1.out); (case side3 => repeat (first | exact (rR_ HO_7.out).2.2 | (with_reducible refine Kd.C_alloc ?_ _) | (with_reducible refine Kd.C_drewN ?_ _) | (with_reducible refine Kd.C_drew ?_))); (case side4 => rw [show y464.length = y457.length from (rR_ HO_7.out).1.symm]; exact (rR_ HO_7.out).2.1); rintro e w91 ⟨rfl, hb⟩; refine ⟨_, rfl, ?_⟩; have n0_ := Z_ (rB_ (by (with_reducible repeat (first | apply rN_ | apply rD_)); exact HO_7.out) hb); have n1_ := Z_ (bB_ (g := gb450) (o := .cells #[.int .i64 a0_0, .slice A0_1 l0_1.length c0_1] 24 (0, 0)) (by (with_reducible repeat (first | refine bN_ ?_ _ | refine bD_ ?_)); exact BK450.out) hb); have n2_ := Z_ (fS_ (by repeat (first | (with_reducible first | exact HB.out | apply fA_ | apply pB_ | apply fD_ | refine fE_ ?_ GE450.out) | exact HB.out)) hb); clear HO_7; clear BK450; clear HB; have HO_7 := n0_; have BK450 := n1_; have HB := n2_; clear n0_ n1_ n2_; (try clear hb); (try clear hb2); (try clear hk); (try clear hi); have hcz92_0 : w91.cell? ⟨gb450, 0, none⟩ = some (.int .i64 a0_0) := (bC_ BK450.out 0).trans rfl; have hcz92_1 : w91.cell? ⟨gb450, 1, none⟩ = some (.slice A0_1 l0_1.length c0_1) := (bC_ BK450.out 1).trans rfl; have hfz92_0 := bF_ BK450.out 0; have hfz92_1 := bF_ BK450.out 1) | ((with_reducible refine gate_callee (f := 30) rfl ?_); refine goesL_ (some 96) rfl rfl Try.func30 (by kernel_rfl) rfl #[.agg #[.int .i64 a0_0, .slice A0_1 l0_1.length c0_1], .int .i64 a2, .int .i64 a1] rfl (by (try simp only [mT_, mC_, mN_]); first | done | rfl | (simp only [lD_, lT_]; rfl)) ?_; (with_reducible refine (diffs_Apart.calls kj55 a0_0 _ _ l0_1 a2 a1 t468 t469 t470 _ ?side1 ?side2 A73.out).mono ?_); (case side1 => repeat (first | exact (cB_ HR0_1.out HB.out) | (with_reducible refine Kd.C_alloc ?_ _) | (with_reducible refine Kd.C_drewN ?_ _) | (with_reducible refine Kd.C_drew ?_))); (case side2 => exact HC0_1.out); rintro e w93 ⟨rfl, hb⟩; refine ⟨_, rfl, ?_⟩; have n0_ := Z_ (rB_ (by (with_reducible repeat (first | apply rN_ | apply rD_)); exact HO_7.out) hb); have n1_ := Z_ (bB_ (g := gb450) (o := .cells #[.int .i64 a0_0, .slice A0_1 l0_1.length c0_1] 24 (0, 0)) (by (with_reducible repeat (first | refine bN_ ?_ _ | refine bD_ ?_)); exact BK450.out) hb); have n2_ := Z_ (fS_ (by repeat (first | (with_reducible first | exact HB.out | apply fA_ | apply pB_ | apply fD_ | refine fE_ ?_ GE450.out) | exact HB.out)) hb); clear HO_7; clear BK450; clear HB; have HO_7 := n0_; have BK450 := n1_; have HB := n2_; clear n0_ n1_ n2_; (try clear hb); (try clear hb2); (try clear hk); (try clear hi))); go_ret; exact ⟨by first | rfl | (simp [errW_none, errW_some] <;> rfl) | (simp [*, errW_none, errW_some] <;> rfl), by repeat (first | (with_reducible first | exact HB.out | apply fA_ | apply pB_ | apply fD_ | refine fE_ ?_ GE450.out) | exact HB.out)⟩
                      rw [if_neg c70] at H; exact absurd H (by simp)
                    rw [if_neg c69] at H; exact absurd H (by simp)
              rw [if_neg c52] at H; exact absurd H (by simp)
            rw [if_neg c51] at H; exact absurd H (by simp)
          rw [if_neg c50] at H; exact absurd H (by simp)
        rw [if_neg c49] at H; exact absurd H (by simp)
  replace c8 := bE_.mpr c8; subst c8; have H1 : (some false) = some r := by rw [if_neg (show ¬ (false = true) by decide)] at H; exact H
  clear H; have H := H1; clear H1; obtain rfl := oI_ H; go_wp2; go_ret; exact ⟨by first | rfl | (simp [errW_none, errW_some] <;> rfl) | (simp [*, errW_none, errW_some] <;> rfl), by repeat (first | (with_reducible first | exact HB.out | apply fA_ | apply pB_ | apply fD_ | refine fE_ ?_ GE450.out) | exact HB.out)⟩
end Go.Proofs.Ytpolojoeabmhdaa.A
/- DiffsUnits, over numbers and lists alone. -/
namespace Go.Proofs.Ytpolojoeabmhdaa.A
open Go.RowKit Go.Proofs.YtpolojoeabmhdaaW.PrintWords Go.Proofs.YtpolojoeabmhdaaW.PrintLast Go.Proofs.YtpolojoeabmhdaaW.PrintMore
theorem small_some (n : Int) (L : List S39) : snowlinelaw04_small.f n L = some (decide (n ≤ 16 ∧ L.length ≤ 60)) := by
  unfold snowlinelaw04_small.f
  by_cases h : n ≤ 16
  · rw [if_pos h]
    congr 1
    exact decide_eq_decide.2 (by omega)
  · rw [if_neg h]
    congr 1
    rw [decide_eq_false]
    omega
theorem Short.self {L : List S39} {i a : Int} {p : Bool} (h : Short L i i a p) (hs : Solv L) : p = true ∧ a = 0 := by
  have w : Wk L i [] i 0 := ⟨rfl, rfl⟩
  cases p with
  | true =>
    obtain ⟨⟨l, w1⟩, h2⟩ := h.yes rfl
    have := h2 _ _ w
    obtain ⟨x, hx⟩ := hs
    have := hx.walk w1
    exact ⟨rfl, by omega⟩
  | false => exact absurd w ((h.no rfl).2 _ _)
theorem walk_flow {n : Nat} {D : List S39} : ∀ {u : Int} {l : List Int} {v W : Int}, Wk D u l v W → ∃ F : List Int, F.length = D.length ∧ (∀ k, 0 ≤ k → k < (D.length : Int) → 0 ≤ rd F k) ∧ ∀ x, netF D F x = ind u v x
  | u, [], v, W, h => by
    obtain ⟨rfl, rfl⟩ := h
    refine ⟨List.replicate D.length 0, List.length_replicate .., fun k _ _ => by rw [rd_zeros]; omega, fun x => ?_⟩
    rw [netF_zeros, ind]
    split <;> omega
  | u, i :: is, v, W, h => by
    obtain ⟨⟨i0, i1⟩, hu, h2⟩ := h
    obtain ⟨F, f1, f2, f3⟩ := walk_flow (n := n) h2
    refine ⟨F.set i.toNat (rd F i + 1), by rw [List.length_set]; exact f1, fun k k0 k1 => ?_, fun x => ?_⟩
    · rw [rd_set _ _ _ _ i0 (by omega) k0]
      have := f2 k k0 k1
      have := f2 i i0 i1
      split <;> omega
    · have h3 : rd_T39 D ((i.toNat : Nat) : Int) = rd_T39 D i := by rw [show ((i.toNat : Nat) : Int) = i from by omega]
      have h4 : rd F ((i.toNat : Nat) : Int) = rd F i := by rw [show ((i.toNat : Nat) : Int) = i from by omega]
      rw [netF_set D F i.toNat _ x (by omega) f1, f3, h4, h3, hu]
      rw [show rd F i + 1 - rd F i = 1 from by omega, Int.one_mul]
      unfold ind
      omega
/-- Numbers that meet the distances from a node; where no walk leads they may be as great as one likes. -/
theorem unit_pot {n : Nat} {L : List S39} (hn0 : 0 < n) (hn : n ≤ 65536) (hE : EdgesOk n L) (hm : (n : Int) * L.length ≤ 1048576) (hs : Solv L) {i : Int} (i0 : 0 ≤ i) (i1 : i < n) {j a : Int} {b : Bool} (j0 : 0 ≤ j) (j1 : j < n) (h : Short L i j a b) :
    (b = true → ∃ y, Pot L y ∧ y j - y i = a) ∧ (b = false → ∀ B, ∃ y, Pot L y ∧ B ≤ y j - y i) := by
  obtain ⟨s, k1, k2, hf, k3⟩ := reach_yes hn0 hn hE hm hs i0 i1
  have hsh := tree_short hE i0 i1 k2 hf j0 j1
  have hii := (tree_short hE i0 i1 k2 hf i0 i1).self hs
  obtain ⟨e1, e2⟩ := h.unique hsh
  obtain ⟨x, hx⟩ := hs
  obtain ⟨M, hM⟩ := bound_all (fun v => rd s.lo v - x v) n
  obtain ⟨M2, hM2⟩ := bound_all (fun k => rd s.lo (rd_T39 L k).f1 - x (rd_T39 L k).f0 - (rd_T39 L k).f2) L.length
  have hp : ∀ B, max M2 B ≤ B → Pot L (fun v => if hasN s v then rd s.lo v else x v + B) := fun B hB k k0 k1 => by
    have hd := hE k k0 k1
    simp only
    by_cases hu : hasN s (rd_T39 L k).f0
    · have := hf.edge k0 k1 hu
      rw [if_pos hu, if_pos this.1]
      omega
    · rw [if_neg hu]
      by_cases hv : hasN s (rd_T39 L k).f1
      · rw [if_pos hv]
        have := hM2 k k0 k1
        omega
      · rw [if_neg hv]
        have := hx k k0 k1
        omega
  have hi : hasN s i := hii.1
  refine ⟨fun hb => ?_, fun hb B => ?_⟩
  · refine ⟨_, hp (max M2 0) (by omega), ?_⟩
    have : hasN s j := by unfold hasN; rw [← e2, hb]
    simp only [if_pos this, if_pos hi]
    rw [hii.2]; omega
  · refine ⟨_, hp (max M2 (B - x j)) (by omega), ?_⟩
    have : ¬ hasN s j := by unfold hasN; rw [← e2, hb]; simp
    simp only [if_neg this, if_pos hi]
    rw [hii.2]; omega
theorem sum_unit {n : Nat} {w : List Int} {i j : Int} (i0 : 0 ≤ i) (i1 : i < n) (j0 : 0 ≤ j) (j1 : j < n) (hw : ∀ v, 1 ≤ v → v < (n : Int) → rd w v = ind i j v) {x : Int → Int} (hz : x 0 = 0) : sumW n w x = x j - x i := by
  have e : sumW n w x = sumN (fun v => (if j = v then 1 else 0) * x v + (if i = v then -1 else 0) * x v) n := by
    refine sumN_congr n (fun v v0 v1 => ?_)
    by_cases e : v = 0
    · subst e
      rw [if_pos rfl, hz]; omega
    · rw [if_neg e, hw v (by omega) v1, ← Int.add_mul]
      congr 1
      unfold ind
      split <;> split <;> omega
  rw [e, sumN_add, sumN_one j 1 x n j0, sumN_one i (-1) x n i0, if_pos j1, if_pos i1]
  omega
/-- The greatest difference of two numbers is the length of the shortest walk. -/
theorem most_apart {n : Nat} {D : List S39} {w : List Int} (hV : Valid n D) (hw : Weighty n w) {i j : Int} (i0 : 0 ≤ i) (i1 : i < n) (j0 : 0 ≤ j) (j1 : j < n) (hwu : ∀ v, 1 ≤ v → v < (n : Int) → rd w v = ind i j v) {a e a' e' : Int} {b b' : Bool} (h : MostIs n D w a b e) (h' : ApartIs n D i j a' b' e') : a = a' ∧ b = b' ∧ e = e' := by
  have hn0 : 0 < n := by have := hV.n1; omega
  have hn : n ≤ 65536 := by have := hV.n2; omega
  have hnd : 0 ≤ i ∧ i < (n : Int) ∧ 0 ≤ j ∧ j < (n : Int) := ⟨i0, i1, j0, j1⟩
  by_cases hs : Solv D
  case neg =>
    obtain ⟨rfl, rfl, rfl⟩ := h.clash hw hs
    obtain ⟨rfl, rfl, rfl⟩ := h'.clash hnd hs
    exact ⟨rfl, rfl, rfl⟩
  obtain ⟨rfl, hm⟩ := h.ok hw hs
  obtain ⟨rfl, ha⟩ := h'.ok hnd hs
  obtain ⟨u1, u2⟩ := unit_pot hn0 hn hV.e (hmul hV) hs i0 i1 j0 j1 ha
  cases b with
  | true =>
    obtain ⟨F, x, f1, f2, f3, f4⟩ := hm.yes rfl
    rw [sum_unit i0 i1 j0 j1 hwu f2.z] at f4
    have key : ∀ y, Pot D y → y j - y i ≤ a := fun y hy => by
      have := weak f1 hV.e (x := fun v => y v - y 0) ⟨by omega, hy.shift _⟩
      rw [sum_unit i0 i1 j0 j1 hwu (by omega)] at this
      omega
    cases b' with
    | true =>
      obtain ⟨y, y1, y2⟩ := u1 rfl
      have := key y y1
      obtain ⟨⟨l, hl⟩, _⟩ := ha.yes rfl
      have := f2.p.walk hl
      exact ⟨by omega, rfl, rfl⟩
    | false =>
      obtain ⟨y, y1, y2⟩ := u2 rfl (a + 1)
      have := key y y1
      omega
  | false =>
    obtain ⟨z, hno⟩ := hm.no rfl
    cases b' with
    | true =>
      obtain ⟨⟨l, hl⟩, _⟩ := ha.yes rfl
      obtain ⟨F, g1, g2, g3⟩ := walk_flow (n := n) hl
      exact absurd ⟨g1, g2, fun v v0 v1 => by rw [g3, hwu v v0 v1]⟩ (hno F)
    | false => exact ⟨by rw [z, (ha.no rfl).1], rfl, rfl⟩
theorem units_ev (n : Int) (L : List S39) (i j : Int) : Ev (fun q => snowlinelaw04_DiffsUnits.f q n L i j) true := by
  unfold snowlinelaw04_DiffsUnits.f snowlinelaw04_sane.f
  simp only [Option.bind_some, if_true]
  refine (check_ev n L).bind ?_
  have hquit : Ev (fun q => snowlinelaw04_DiffsUnits.j0 q i j true n L) true :=
    Ev.step (f := fun _ => some true) (fun q => by rw [snowlinelaw04_DiffsUnits.j0]; rfl) (Ev.now _)
  by_cases hv : validB n L = true
  case neg =>
    rw [if_neg hv]
    exact Ev.neg (by decide) hquit
  rw [if_pos hv]
  refine Ev.pos rfl ?_
  rw [small_some]
  simp only [Option.bind_some]
  by_cases hsm : n ≤ 16 ∧ L.length ≤ 60
  case neg =>
    rw [decide_eq_false hsm]
    exact hquit
  rw [decide_eq_true hsm]
  refine Ev.pos rfl ?_
  have hV := validB_iff.1 hv
  obtain ⟨N, rfl⟩ : ∃ N : Nat, n = N := ⟨n.toNat, by have := hV.n1; omega⟩
  by_cases c1 : i < 1
  · exact Ev.pos c1 hquit
  refine Ev.neg c1 ?_
  by_cases c2 : i ≥ (N : Int)
  · exact Ev.pos c2 hquit
  refine Ev.neg c2 ?_
  by_cases c3 : j < 0
  · exact Ev.pos c3 hquit
  refine Ev.neg c3 ?_
  by_cases c4 : j ≥ (N : Int)
  · exact Ev.pos c4 hquit
  refine Ev.neg c4 ?_
  by_cases c5 : i = j
  · rw [show (i == j) = true from beq_iff_eq.mpr c5]; exact hquit
  rw [show (i == j) = false from beq_eq_false_iff_ne.mpr c5]
  have hm : (N : Int) * L.length ≤ 1048576 := hmul hV
  have l1 : (List.replicate (N : Int).toNat (0 : Int)).length = N := by rw [List.length_replicate]; omega
  have l2 : ((List.replicate (N : Int).toNat (0 : Int)).set i.toNat 1).length = N := by rw [List.length_set]; exact l1
  refine Ev.step (f := fun q => _) (fun q => by rw [snowlinelaw04_DiffsUnits.j0, if_neg (by decide)]) ?_
  refine Ev.pos (by omega) (Ev.pos (by omega) ?_)
  simp only [Option.bind_some]
  refine Ev.pos (by omega) (Ev.pos (by rw [l1]; omega) ?_)
  have r1 : ∀ v, 0 ≤ v → v < (N : Int) → rd ((List.replicate (N : Int).toNat (0 : Int)).set i.toNat 1) v = if v = i then 1 else 0 := fun v v0 v1 => by
    rw [rd_set _ _ _ _ (by omega) (by rw [l1]; omega) v0, rd_zeros]
  have w1 : Weighty N ((List.replicate (N : Int).toNat (0 : Int)).set i.toNat 1) := ⟨by omega, fun v v0 v1 => by rw [r1 v v0 v1]; split <;> omega⟩
  have r2 : ∀ v, 0 ≤ v → v < (N : Int) → rd (((List.replicate (N : Int).toNat (0 : Int)).set i.toNat 1).set j.toNat (-1)) v = if v = j then -1 else if v = i then 1 else 0 := fun v v0 v1 => by
    rw [rd_set _ _ _ _ (by omega) (by rw [l2]; omega) v0, r1 v v0 v1]
  have w2 : Weighty N (((List.replicate (N : Int).toNat (0 : Int)).set i.toNat 1).set j.toNat (-1)) := ⟨by rw [List.length_set]; omega, fun v v0 v1 => by rw [r2 v v0 v1]; split <;> (try split) <;> omega⟩
  obtain ⟨a, b, e, v1, h1⟩ := most_ev hV ((List.replicate (N : Int).toNat (0 : Int)).set i.toNat 1)
  obtain ⟨a', b', e', v1', h1'⟩ := apart_ev hV hm 0 i
  obtain ⟨c, d, f, v2, h2⟩ := most_ev hV (((List.replicate (N : Int).toNat (0 : Int)).set i.toNat 1).set j.toNat (-1))
  obtain ⟨c', d', f', v2', h2'⟩ := apart_ev hV hm j i
  obtain ⟨rfl, rfl, rfl⟩ := most_apart hV w1 (by omega) (by omega) (by omega) (by omega) (fun v v0 v1 => by rw [r1 v (by omega) v1]; unfold ind; (repeat' split) <;> omega) h1 h1'
  obtain ⟨rfl, rfl, rfl⟩ := most_apart hV w2 (by omega) (by omega) (by omega) (by omega) (fun v v0 v1 => by rw [r2 v (by omega) v1]; unfold ind; (repeat' split) <;> omega) h2 h2'
  refine v1.bind (v1'.bind (Ev.pos rfl (Ev.neg (by simp) ?_)))
  simp only [bne_self_eq_false]
  refine Ev.step (f := fun q => _) (fun q => by rw [snowlinelaw04_DiffsUnits.j1, if_neg (by decide)]) ?_
  refine Ev.pos (by omega) (Ev.pos (by rw [l2]; omega) (v2.bind (v2'.bind (Ev.pos rfl (Ev.pos (by simp) ?_)))))
  simp only [beq_self_eq_true]
  exact Ev.now _
end Go.Proofs.Ytpolojoeabmhdaa.A
/- DiffsUnits: for every input the law answers true, and what came in reads as it did. No conditions. -/
namespace Go.Proofs.Ytpolojoeabmhdaa.diffsUnits
open Go.ChangeShapes Go.WideShapes Go.ChangeAt Go.RowKit
open Go.Proofs.Ytpolojoeabmhdaa.A
open Go.Proofs.YtpolojoeabmhdaaW.PrintWords
set_option maxRecDepth 100000 in
theorem lifted (os : Os) (started : os.Started) (H : Type) (enc : TypeId × Value → H) :
    ReturnsInHanded {} Try.checked os 5 .any (Rows.diffsUnitsSpec.pre6 enc Try.prog Try.f5 Rows.diffsUnitsRow.domain false) (Rows.diffsUnitsSpec.post enc Try.prog Try.f5 false true false false) := by
  refine returnsInHanded_of_change_sized (C := Try.checked) own started (by kernel_rfl) Try.func5
    (ChangeSpec.witness6 (enc := enc) (C := Try.checked) false ⟨#[], #[.agg #[.int .i64 0, .slice none 0 0], .int .i64 0, .int .i64 0], []⟩ 8 (by kernel_rfl) (by kernel_rfl) (by kernel_rfl) (by kernel_rfl)) ?_
  intro W base args ds gs before hval0 hW hcnd hsz0 _
  have hsz : (DataW.weightsEach Try.prog (Try.f5.params.toList ++ Rows.diffsUnitsSpec.plain.varTypes Try.prog) (ds ++ gs)).all (· ≤ reachBytes) = true := hsz0
  have hval : ∀ (j : Nat) t v, Try.f5.params[j]? = some t → args[j]? = some v → Value.okWide Try.prog W .any base t v := hval0
  have hW' := hW
  obtain ⟨p, q, hA0, hV, rfl, hfz, hnd⟩ := hW
  have hA : DataW.TrodAll enc Try.prog W 0 (fun _ => true) true Try.f5.params.toList args.toList ds p := hA0
  rw [Try.params5] at hA hval hsz
  obtain ⟨v0, vs0, d0, ds0, p0, q0, hargs, rfl, rfl, h0, r0⟩ := trodAll_cons hA
  obtain ⟨v1, vs1, d1, ds1, p1, q1, rfl, rfl, rfl, h1, r1⟩ := trodAll_cons r0
  obtain ⟨v2, vs2, d2, ds2, p2, q2, rfl, rfl, rfl, h2, r2⟩ := trodAll_cons r1
  obtain ⟨rfl, rfl, rfl⟩ := trodAll_nil r2
  obtain rfl : args = #[v0, v1, v2] := by cases args; simp_all
  obtain ⟨rfl, rfl⟩ := trodVars_none hV
  have k0 := h0
  have lt0 : ∀ x ∈ p0, x.block < W.heap.size := by obtain ⟨m, hm⟩ := k0; exact DataW.trod_lt m _ _ _ hm
  obtain ⟨n0, A0, l0, c0, rfl, hC0, hc0, wz0, sz0⟩ := open_net (hval 0 24 v0 rfl rfl) h0
  obtain ⟨a1, rfl, rfl, rfl, wz1⟩ := open_int Try.underlying3 (hval 1 3 v1 rfl rfl) h1
  obtain ⟨a2, rfl, rfl, rfl, wz2⟩ := open_int Try.underlying3 (hval 2 3 v2 rfl rfl) h2
  obtain ⟨rk, hk⟩ := Ev.rounds (units_ev n0 l0 a1 a2)
  clear hA0 hval0 hsz0 hsz
  refine (snowlinelaw04_DiffsUnits.calls rk n0 A0 c0 l0 a1 a2 true W hC0 hc0 hk).mono fun e W' ⟨he, bel⟩ => ?_
  subst he
  exact ⟨_, rfl, _, _, _, [], _, [], hW', trodAll_mk1 (shut_bool Try.underlying4 _), (trodAll_cons_mk (Below.trod laidOut (by kernel_rfl) (of_decide_eq_true (by kernel_rfl)) k0 bel lt0) (trodAll_cons_mk (shut_int Try.underlying3 wz1) (trodAll_cons_mk (shut_int Try.underlying3 wz2) trodAll_mk0))), rfl, bel.frame _, fun h => by cases h⟩
theorem joined : joinedFacts Try.prog 5 Try.f5 Rows.diffsUnitsSpec Rows.diffsUnitsRow = true := (andB (andB (andB (andB (andB (andB (andB (andB (andB (andB (andB (andB (andB (andB (andB (andB (andB (andB (andB (andB (andB (andB (andB (andB (andB (andB (andB (andB (andB (andB (andB (by kernel_rfl) laidOut) pMapsRowed) (by kernel_rfl)) (by kernel_rfl)) (by kernel_rfl)) pStops) (by kernel_rfl)) pKnobs) (by kernel_rfl)) (by kernel_rfl)) (by kernel_rfl)) (by kernel_rfl)) (by kernel_rfl)) (by kernel_rfl)) (by kernel_rfl)) (by kernel_rfl)) (by kernel_rfl)) (by kernel_rfl)) (by kernel_rfl)) (by kernel_rfl)) (by kernel_rfl)) pPlain) (by kernel_rfl)) pHeard) pEnter) pLifted) pMake) (by kernel_rfl)) (by kernel_rfl)) (by kernel_rfl)) (by kernel_rfl))
theorem over : Rows.diffsUnitsRow.holds Try.pinned (OpenSpec.ofChange Rows.diffsUnitsSpec) :=
  OpenClaim.holds_of_wide 5 Try.f5 rfl rfl rfl rfl rfl rfl rfl ⟨rfl, rfl, rfl, rfl, rfl⟩ rfl rfl rfl rfl rfl (by kernel_rfl) Try.func5 joined
    (of_decide_eq_true (by kernel_rfl)) (by unfold Func.isWrapper; first | (rw [if_pos (by decide +kernel)]; kernel_rfl) | (rw [if_neg (by decide +kernel)]; exact ⟨rfl, rfl⟩))
    (fun os started H enc _ => lifted os started H enc)
theorem proved : Rows.DiffsUnitsSaid := over
#print axioms proved
end Go.Proofs.Ytpolojoeabmhdaa.diffsUnits
namespace Go.Proofs.Ytpolojoeabmhdaa
/-- The row, under a short name, for the claim. -/
theorem diffsUnits_holds : Rows.DiffsUnitsSaid := diffsUnits.proved
end Go.Proofs.Ytpolojoeabmhdaa
