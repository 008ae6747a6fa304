import Derived.Test.YtpolojoeabmhdaaMZcoreHFacts
import Derived.Test.YtpolojoeabmhdaaMDualitya
import Derived.Test.YtpolojoeabmhdaaMZcoreb
import Derived.Test.YtpolojoeabmhdaaMZcoree
import Derived.Test.YtpolojoeabmhdaaMZcoreh
import Derived.Test.YtpolojoeabmhdaaMZcorei
import Derived.Test.YtpolojoeabmhdaaRows
set_option linter.unusedVariables false
set_option linter.unusedSimpArgs false
namespace Go.Proofs.Ytpolojoeabmhdaa.A
open Go.RowKit Go.Proofs.YtpolojoeabmhdaaW.PrintWords Go.Proofs.YtpolojoeabmhdaaW.PrintLast Go.Proofs.YtpolojoeabmhdaaW.PrintMore
attribute [local go_sem] max2_int min2_int max_two min_two max_three min_three max_four min_four
mutual
def snowlinelaw04_DiffsDuality.j0 : Nat → List Int → List Int → Int → List Int → Bool → Int → List (S39) → Option (Bool)
  | 0, _, _, _, _, _, _, _ => none
  | k + 1, x1, x2, x3, x4, x37, x1100000, x1100001 => if x37 = true then (some true) else ((diffs_CheckFlow.f k x1100000 x1100001 x1 x3 x4).bind fun t1103 => (if t1103 = 0 then ((snowlinelaw04_fulfils.f k x1100000 x1100001 x2).bind fun t1104 => (if t1104 = true then ((snowlineref04_Sum.f k x1 x2).bind fun t1105 => (snowlinelaw04_DiffsDuality.j1 k x1 x2 x3 (t1103 == 0) (decide (t1105 > x3)) x1100000 x1100001)) else (snowlinelaw04_DiffsDuality.j1 k x1 x2 x3 (t1103 == 0) false x1100000 x1100001))) else (snowlinelaw04_DiffsDuality.j1 k x1 x2 x3 (t1103 == 0) false x1100000 x1100001)))
def snowlinelaw04_DiffsDuality.j1 : Nat → List Int → List Int → Int → Bool → Bool → Int → List (S39) → Option (Bool)
  | 0, _, _, _, _, _, _, _ => none
  | k + 1, x1, x2, x3, x11, x56, x1100000, x1100001 => if x56 = true then (some false) else ((diffs_Most.f k x1100000 x1100001 x1).bind fun bt1106 => (if bt1106.2.2 = 0 then ((diffs_Best.f k x1100000 x1100001 x1).bind fun bt1109 => ((diffs_Flow.f k x1100000 x1100001 x1).bind fun bt1114 => (if bt1109.2.2 = 0 then (if bt1114.2.2 = 0 then (if (bt1109.2.1 != bt1106.2.1) = true then (snowlinelaw04_DiffsDuality.j2 k x1 x2 x3 x11 bt1106.1 bt1106.2.1 bt1109.1 bt1114.1 true x1100000 x1100001) else (snowlinelaw04_DiffsDuality.j2 k x1 x2 x3 x11 bt1106.1 bt1106.2.1 bt1109.1 bt1114.1 (bt1114.2.1 != bt1106.2.1) x1100000 x1100001)) else (snowlinelaw04_DiffsDuality.j2 k x1 x2 x3 x11 bt1106.1 bt1106.2.1 bt1109.1 bt1114.1 true x1100000 x1100001)) else (snowlinelaw04_DiffsDuality.j2 k x1 x2 x3 x11 bt1106.1 bt1106.2.1 bt1109.1 bt1114.1 true x1100000 x1100001)))) else (if bt1106.1 = 0 then (some (!bt1106.2.1)) else (some false))))
def snowlinelaw04_DiffsDuality.j2 : Nat → List Int → List Int → Int → Bool → Int → Bool → List Int → List Int → Bool → Int → List (S39) → Option (Bool)
  | 0, _, _, _, _, _, _, _, _, _, _, _ => none
  | k + 1, x1, x2, x3, x11, x12, x13, x15, x18, x101, x1100000, x1100001 => if x101 = true then (some false) else (if x13 = true then ((snowlinelaw04_fulfils.f k x1100000 x1100001 x15).bind fun t1119 => (if t1119 = true then ((snowlineref04_Sum.f k x1 x15).bind fun t1120 => (if t1120 = x12 then ((diffs_CheckFlow.f k x1100000 x1100001 x1 x12 x18).bind fun t1121 => (snowlinelaw04_DiffsDuality.j3 k x1 x2 x3 x11 x12 (t1121 != 0) x1100000 x1100001)) else (snowlinelaw04_DiffsDuality.j3 k x1 x2 x3 x11 x12 true x1100000 x1100001))) else (snowlinelaw04_DiffsDuality.j3 k x1 x2 x3 x11 x12 true x1100000 x1100001))) else (if x11 = true then (some false) else (if (x15.length : Int) = 0 then (some ((x18.length : Int) == 0)) else (some false))))
def snowlinelaw04_DiffsDuality.j3 : Nat → List Int → List Int → Int → Bool → Int → Bool → Int → List (S39) → Option (Bool)
  | 0, _, _, _, _, _, _, _, _ => none
  | k + 1, x1, x2, x3, x11, x12, x134, x1100000, x1100001 => if x134 = true then (some false) else (if x11 = true then (if x3 ≥ x12 then ((snowlinelaw04_fulfils.f k x1100000 x1100001 x2).bind fun t1122 => (if t1122 = true then ((snowlineref04_Sum.f k x1 x2).bind fun t1123 => (some (decide (t1123 ≤ x12)))) else (some true))) else (some false)) else ((snowlinelaw04_fulfils.f k x1100000 x1100001 x2).bind fun t1124 => (if t1124 = true then ((snowlineref04_Sum.f k x1 x2).bind fun t1125 => (some (decide (t1125 ≤ x12)))) else (some true))))
end
def snowlinelaw04_DiffsDuality.f (k : Nat) (a0_0 : Int) (l0_1 : List (S39)) (l1 : List Int) (l2 : List Int) (a3 : Int) (l4 : List Int) : Option (Bool) := (snowlinelaw04_sane.f).bind fun t1100 => (if t1100 = true then ((diffs_Check.f k a0_0 l0_1).bind fun t1101 => (if t1101 = 0 then ((snowlinelaw04_small.f a0_0 l0_1).bind fun t1102 => (if t1102 = true then (snowlinelaw04_DiffsDuality.j0 k l1 l2 a3 l4 ((l1.length : Int) != a0_0) a0_0 l0_1) else (snowlinelaw04_DiffsDuality.j0 k l1 l2 a3 l4 true a0_0 l0_1))) else (snowlinelaw04_DiffsDuality.j0 k l1 l2 a3 l4 true a0_0 l0_1))) else (some false))
theorem snowlinelaw04_DiffsDuality.mono_l : ∀ k, (∀ y0 y1 y2 y3 y4 y5 y6, LeO (snowlinelaw04_DiffsDuality.j0 k y0 y1 y2 y3 y4 y5 y6) (snowlinelaw04_DiffsDuality.j0 (k + 1) y0 y1 y2 y3 y4 y5 y6)) ∧ (∀ y0 y1 y2 y3 y4 y5 y6, LeO (snowlinelaw04_DiffsDuality.j1 k y0 y1 y2 y3 y4 y5 y6) (snowlinelaw04_DiffsDuality.j1 (k + 1) y0 y1 y2 y3 y4 y5 y6)) ∧ (∀ y0 y1 y2 y3 y4 y5 y6 y7 y8 y9 y10, LeO (snowlinelaw04_DiffsDuality.j2 k y0 y1 y2 y3 y4 y5 y6 y7 y8 y9 y10) (snowlinelaw04_DiffsDuality.j2 (k + 1) y0 y1 y2 y3 y4 y5 y6 y7 y8 y9 y10)) ∧ (∀ y0 y1 y2 y3 y4 y5 y6 y7, LeO (snowlinelaw04_DiffsDuality.j3 k y0 y1 y2 y3 y4 y5 y6 y7) (snowlinelaw04_DiffsDuality.j3 (k + 1) y0 y1 y2 y3 y4 y5 y6 y7))
  | 0 => ⟨fun _ _ _ _ _ _ _ r h => by simp [snowlinelaw04_DiffsDuality.j0] at h, fun _ _ _ _ _ _ _ r h => by simp [snowlinelaw04_DiffsDuality.j1] at h, fun _ _ _ _ _ _ _ _ _ _ _ r h => by simp [snowlinelaw04_DiffsDuality.j2] at h, fun _ _ _ _ _ _ _ _ r h => by simp [snowlinelaw04_DiffsDuality.j3] at h⟩
  | k + 1 => by
    obtain ⟨ih0, ih1, ih2, ih3⟩ := snowlinelaw04_DiffsDuality.mono_l k; refine ⟨?_, ?_, ?_, ?_⟩ <;> intros <;> (first | unfold snowlinelaw04_DiffsDuality.j0 | unfold snowlinelaw04_DiffsDuality.j1 | unfold snowlinelaw04_DiffsDuality.j2 | unfold snowlinelaw04_DiffsDuality.j3) <;> repeat' first | (with_reducible first | exact ih0 _ _ _ _ _ _ _ | exact ih1 _ _ _ _ _ _ _ | exact ih2 _ _ _ _ _ _ _ _ _ _ _ | exact ih3 _ _ _ _ _ _ _ _ | exact diffs_Best.mono _ _ _ _ | exact diffs_Check.mono _ _ _ | exact diffs_CheckFlow.mono _ _ _ _ _ _ | exact diffs_Flow.mono _ _ _ _ | exact diffs_Most.mono _ _ _ _ | exact snowlinelaw04_fulfils.mono _ _ _ _ | exact snowlineref04_Sum.mono _ _ _ | exact LeO.refl _ | exact LeO.none _ | refine LeO.ite ?_ ?_ | refine LeO.bind ?_ (fun _ => ?_)) | exact ih0 _ _ _ _ _ _ _ | exact ih1 _ _ _ _ _ _ _ | exact ih2 _ _ _ _ _ _ _ _ _ _ _ | exact ih3 _ _ _ _ _ _ _ _ | exact diffs_Best.mono _ _ _ _ | exact diffs_Check.mono _ _ _ | exact diffs_CheckFlow.mono _ _ _ _ _ _ | exact diffs_Flow.mono _ _ _ _ | exact diffs_Most.mono _ _ _ _ | exact snowlinelaw04_fulfils.mono _ _ _ _ | exact snowlineref04_Sum.mono _ _ _ | exact LeO.none _ | refine LeO.ite ?_ ?_ | refine LeO.bind ?_ (fun _ => ?_)
theorem snowlinelaw04_DiffsDuality.mono : ∀ a0 a1 a2 a3 a4 a5 k, LeO (snowlinelaw04_DiffsDuality.f k a0 a1 a2 a3 a4 a5) (snowlinelaw04_DiffsDuality.f (k + 1) a0 a1 a2 a3 a4 a5) := by
  intro a0 a1 a2 a3 a4 a5 k; obtain ⟨ih0, ih1, ih2, ih3⟩ := snowlinelaw04_DiffsDuality.mono_l k; unfold snowlinelaw04_DiffsDuality.f; repeat' first | (with_reducible first | exact ih0 _ _ _ _ _ _ _ | exact ih1 _ _ _ _ _ _ _ | exact ih2 _ _ _ _ _ _ _ _ _ _ _ | exact ih3 _ _ _ _ _ _ _ _ | exact diffs_Best.mono _ _ _ _ | exact diffs_Check.mono _ _ _ | exact diffs_CheckFlow.mono _ _ _ _ _ _ | exact diffs_Flow.mono _ _ _ _ | exact diffs_Most.mono _ _ _ _ | exact snowlinelaw04_fulfils.mono _ _ _ _ | exact snowlineref04_Sum.mono _ _ _ | exact LeO.refl _ | exact LeO.none _ | refine LeO.ite ?_ ?_ | refine LeO.bind ?_ (fun _ => ?_)) | exact ih0 _ _ _ _ _ _ _ | exact ih1 _ _ _ _ _ _ _ | exact ih2 _ _ _ _ _ _ _ _ _ _ _ | exact ih3 _ _ _ _ _ _ _ _ | exact diffs_Best.mono _ _ _ _ | exact diffs_Check.mono _ _ _ | exact diffs_CheckFlow.mono _ _ _ _ _ _ | exact diffs_Flow.mono _ _ _ _ | exact diffs_Most.mono _ _ _ _ | exact snowlinelaw04_fulfils.mono _ _ _ _ | exact snowlineref04_Sum.mono _ _ _ | exact LeO.none _ | refine LeO.ite ?_ ?_ | refine LeO.bind ?_ (fun _ => ?_)
set_option maxHeartbeats 8000000 in
set_option maxRecDepth 100000 in
theorem snowlinelaw04_DiffsDuality.calls (k : Nat) (a0_0 : Int) (A0_1 : Option Addr) (c0_1 : Nat) (l0_1 : List (S39)) (A1 : Option Addr) (c1 : Nat) (l1 : List Int) (A2 : Option Addr) (c2 : Nat) (l2 : List Int) (a3 : Int) (A4 : Option Addr) (c4 : Nat) (l4 : List Int) (r : Bool) (w : World) (hr0_1 : Kd.C k39 w A0_1 l0_1.length l0_1) (hc0_1 : l0_1.length ≤ c0_1) (hr1 : Kd.C (Kd.int .i64) w A1 l1.length l1) (hc1 : l1.length ≤ c1) (hr2 : Kd.C (Kd.int .i64) w A2 l2.length l2) (hc2 : l2.length ≤ c2) (hr4 : Kd.C (Kd.int .i64) w A4 l4.length l4) (hc4 : l4.length ≤ c4) (h : snowlinelaw04_DiffsDuality.f k a0_0 l0_1 l1 l2 a3 l4 = some r) :
    Calls Try.prog 14 #[.agg #[.int .i64 a0_0, .slice A0_1 l0_1.length c0_1], .slice A1 l1.length c1, .slice A2 l2.length c2, .int .i64 a3, .slice A4 l4.length c4] w fun e w' => e = .returned (.bool r) ∧ Below w.heap.size w w' := by
  have hu24 := Try.underlying24; have HR0_1 := Z_ hr0_1; have HC0_1 := Z_ hc0_1; clear hr0_1 hc0_1; have HR1 := Z_ hr1; have HC1 := Z_ hc1; clear hr1 hc1; have HR2 := Z_ hr2; have HC2 := Z_ hc2; clear hr2 hc2; have HR4 := Z_ hr4; have HC4 := Z_ hc4; clear hr4 hc4; have HB := Z_ (Below.refl w.heap.size w); have H : ((snowlinelaw04_sane.f).bind fun t1100 => (if t1100 = true then ((diffs_Check.f k a0_0 l0_1).bind fun t1101 => (if t1101 = 0 then ((snowlinelaw04_small.f a0_0 l0_1).bind fun t1102 => (if t1102 = true then (snowlinelaw04_DiffsDuality.j0 k l1 l2 a3 l4 ((l1.length : Int) != a0_0) a0_0 l0_1) else (snowlinelaw04_DiffsDuality.j0 k l1 l2 a3 l4 true a0_0 l0_1))) else (snowlinelaw04_DiffsDuality.j0 k l1 l2 a3 l4 true a0_0 l0_1))) else (some false))) = some r := h; clear h; replace H := oS_.mp H; obtain ⟨t1100, A60, H⟩ := H; replace H : (if t1100 = true then ((diffs_Check.f k a0_0 l0_1).bind fun t1101 => (if t1101 = 0 then ((snowlinelaw04_small.f a0_0 l0_1).bind fun t1102 => (if t1102 = true then (snowlinelaw04_DiffsDuality.j0 k l1 l2 a3 l4 ((l1.length : Int) != a0_0) a0_0 l0_1) else (snowlinelaw04_DiffsDuality.j0 k l1 l2 a3 l4 true a0_0 l0_1))) else (snowlinelaw04_DiffsDuality.j0 k l1 l2 a3 l4 true a0_0 l0_1))) else (some false)) = some r := H; have A6 := Z_ A60; clear A60; by_cases c7 : t1100 = true
  · subst c7
    have H1 : ((diffs_Check.f k a0_0 l0_1).bind fun t1101 => (if t1101 = 0 then ((snowlinelaw04_small.f a0_0 l0_1).bind fun t1102 => (if t1102 = true then (snowlinelaw04_DiffsDuality.j0 k l1 l2 a3 l4 ((l1.length : Int) != a0_0) a0_0 l0_1) else (snowlinelaw04_DiffsDuality.j0 k l1 l2 a3 l4 true a0_0 l0_1))) else (snowlinelaw04_DiffsDuality.j0 k l1 l2 a3 l4 true a0_0 l0_1))) = some r := by rw [if_pos rfl] at H; exact H
    clear H; have H := H1; clear H1; have HC8 := Z_ H; clear H; go_enter Try.func14, Try.ntmps14; go_upto_region 3 with (first | ((with_reducible refine gate_dst (N := 5) rfl ?_); (try (refine gate_guard (by rfl) ?_; dsimp only)); refine box_event ?hg (N := 5) ?hd (cs := #[.int .i64 a0_0, .slice A0_1 l0_1.length c0_1]) (t := 24) ?hr ?_; (case hd => rfl); (case hg => rfl); (case hr => first | (go_simp; done) | (go_simp; rfl)); intro gb1099 hg w9 hbox hb; have n0_ := Z_ (fS_ (by repeat (first | (with_reducible first | exact HB.out | apply fA_ | apply pB_ | apply fD_) | exact HB.out)) hb); have n1_ := Z_ (hbox); have n2_ := Z_ ((by rw [hg]; exact (fZ_ (by repeat (first | (with_reducible first | exact HB.out | apply fA_ | apply pB_ | apply fD_) | exact HB.out))) : w.heap.size ≤ gb1099)); have n3_ := Z_ ((by rw [hg]; exact (fZ_ (by repeat (first | (with_reducible first | exact HB.out | apply fA_ | apply pB_ | apply fD_) | exact HB.out))) : w.heap.size ≤ gb1099)); clear HB; have HB := n0_; have BK1099 := n1_; have GW1099 := n2_; have GE1099 := n3_; clear n0_ n1_ n2_ n3_; clear hb hbox hg) | ((with_reducible refine gate_callee (f := 21) rfl ?_); refine goesL_ (some 21) rfl rfl Try.func21 (by kernel_rfl) rfl #[] rfl (by (try simp only [mT_, mC_, mN_]); first | done | rfl | (simp only [lD_, lT_]; rfl)) ?_; (with_reducible refine (snowlinelaw04_sane.calls  true _ A6.out).mono ?_); rintro e w10 ⟨rfl, hb⟩; refine ⟨_, rfl, ?_⟩; have n0_ := Z_ (bB_ (g := gb1099) (o := .cells #[.int .i64 a0_0, .slice A0_1 l0_1.length c0_1] 24 (0, 0)) (by (with_reducible repeat (first | refine bN_ ?_ _ | refine bD_ ?_ | refine bA_ ?_ _)); exact BK1099.out) hb); have n1_ := Z_ (fS_ (by repeat (first | (with_reducible first | exact HB.out | apply fA_ | apply pB_ | apply fD_ | refine fE_ ?_ GE1099.out) | exact HB.out)) hb); clear BK1099; clear HB; have BK1099 := n0_; have HB := n1_; clear n0_ n1_; (try clear hb); (try clear hb2); (try clear hk); (try clear hi))); (try simp only [Act.put, sT_, sZ_, sS_])
    go_cut [37] (fun v37 wc => ∃ (kq : Nat) (x37_7 : Bool), v37 = .bool x37_7 ∧ Aside0 (snowlinelaw04_DiffsDuality.j0 kq l1 l2 a3 l4 x37_7 a0_0 l0_1 = some r) ∧ Aside0 (kq ≤ k) ∧ Aside0 (wc.heap[gb1099]? = some (.cells #[.int .i64 a0_0, (.slice A0_1 l0_1.length c0_1)] 24 (0, 0))) ∧ Aside0 (Below w.heap.size w wc))
    case first =>
      have H := HC8.out; clear HC8; replace H := oS_.mp H; obtain ⟨t1101, A110, H⟩ := H; replace H : (if t1101 = 0 then ((snowlinelaw04_small.f a0_0 l0_1).bind fun t1102 => (if t1102 = true then (snowlinelaw04_DiffsDuality.j0 k l1 l2 a3 l4 ((l1.length : Int) != a0_0) a0_0 l0_1) else (snowlinelaw04_DiffsDuality.j0 k l1 l2 a3 l4 true a0_0 l0_1))) else (snowlinelaw04_DiffsDuality.j0 k l1 l2 a3 l4 true a0_0 l0_1)) = some r := H; have A11 := Z_ A110; clear A110; by_cases c12 : t1101 = 0
      · rw [if_pos c12] at H
        have c12b0 : (t1101 == 0) = true := beq_iff_eq.mpr c12; have c12b1 : (t1101 != 0) = false := bne_eq_false_iff_eq.mpr c12; clear c12; (first | rw [c12b0] | (simp only [i64_w, i32_w]; rw [c12b0]) | skip)
        replace H := oS_.mp H; obtain ⟨t1102, A130, H⟩ := H; replace H : (if t1102 = true then (snowlinelaw04_DiffsDuality.j0 k l1 l2 a3 l4 ((l1.length : Int) != a0_0) a0_0 l0_1) else (snowlinelaw04_DiffsDuality.j0 k l1 l2 a3 l4 true a0_0 l0_1)) = some r := H; have A13 := Z_ A130; clear A130; by_cases c14 : t1102 = true
        · subst c14
          have H1 : (snowlinelaw04_DiffsDuality.j0 k l1 l2 a3 l4 ((l1.length : Int) != a0_0) a0_0 l0_1) = some r := by rw [if_pos rfl] at H; exact H
          clear H; have H := H1; clear H1; have H' := Z_ H; clear H; have hcz15_0 : w10.cell? ⟨gb1099, 0, none⟩ = some (.int .i64 a0_0) := (bC_ BK1099.out 0).trans rfl; have hcz15_1 : w10.cell? ⟨gb1099, 1, none⟩ = some (.slice A0_1 l0_1.length c0_1) := (bC_ BK1099.out 1).trans rfl; have hfz15_0 := bF_ BK1099.out 0; have hfz15_1 := bF_ BK1099.out 1; go_wp2_with (first | ((with_reducible refine gate_callee (f := 29) rfl ?_); refine goesL_ (some 24) rfl rfl Try.func29 (by kernel_rfl) rfl #[.agg #[.int .i64 a0_0, .slice A0_1 l0_1.length c0_1]] rfl (by (try simp only [mT_, mC_, mN_]); first | done | rfl | (simp only [lD_, lT_]; rfl)) ?_; (with_reducible refine (diffs_Check.calls k a0_0 _ _ l0_1 t1101 _ ?side1 ?side2 A11.out).mono ?_); (case side1 => repeat (first | exact (cB_ HR0_1.out HB.out) | (with_reducible refine Kd.C_alloc ?_ _) | (with_reducible refine Kd.C_drewN ?_ _) | (with_reducible refine Kd.C_drew ?_))); (case side2 => exact HC0_1.out); rintro e w16 ⟨rfl, hb⟩; refine ⟨_, rfl, ?_⟩; have n0_ := Z_ (bB_ (g := gb1099) (o := .cells #[.int .i64 a0_0, .slice A0_1 l0_1.length c0_1] 24 (0, 0)) (by (with_reducible repeat (first | refine bN_ ?_ _ | refine bD_ ?_ | refine bA_ ?_ _)); exact BK1099.out) hb); have n1_ := Z_ (fS_ (by repeat (first | (with_reducible first | exact HB.out | apply fA_ | apply pB_ | apply fD_ | refine fE_ ?_ GE1099.out) | exact HB.out)) hb); clear BK1099; clear HB; have BK1099 := n0_; have HB := n1_; clear n0_ n1_; (try clear hb); (try clear hb2); (try clear hk); (try clear hi); have hcz17_0 : w16.cell? ⟨gb1099, 0, none⟩ = some (.int .i64 a0_0) := (bC_ BK1099.out 0).trans rfl; have hcz17_1 : w16.cell? ⟨gb1099, 1, none⟩ = some (.slice A0_1 l0_1.length c0_1) := (bC_ BK1099.out 1).trans rfl; have hfz17_0 := bF_ BK1099.out 0; have hfz17_1 := bF_ BK1099.out 1) | (go_at_call 23; (with_reducible refine (snowlinelaw04_small.calls a0_0 _ _ l0_1 true _ ?side1 ?side2 A13.out).mono ?_); (case side1 => repeat (first | exact (cB_ HR0_1.out HB.out) | (with_reducible refine Kd.C_alloc ?_ _) | (with_reducible refine Kd.C_drewN ?_ _) | (with_reducible refine Kd.C_drew ?_))); (case side2 => exact HC0_1.out); rintro e w18 ⟨rfl, hb⟩; have n0_ := Z_ (bB_ (g := gb1099) (o := .cells #[.int .i64 a0_0, .slice A0_1 l0_1.length c0_1] 24 (0, 0)) (by (with_reducible repeat (first | refine bN_ ?_ _ | refine bD_ ?_ | refine bA_ ?_ _)); exact BK1099.out) hb); have n1_ := Z_ (fS_ (by repeat (first | (with_reducible first | exact HB.out | apply fA_ | apply pB_ | apply fD_ | refine fE_ ?_ GE1099.out) | exact HB.out)) hb); clear BK1099; clear HB; have BK1099 := n0_; have HB := n1_; clear n0_ n1_; (try clear hb); (try clear hb2); (try clear hk); (try clear hi); have hcz19_0 : w18.cell? ⟨gb1099, 0, none⟩ = some (.int .i64 a0_0) := (bC_ BK1099.out 0).trans rfl; have hcz19_1 : w18.cell? ⟨gb1099, 1, none⟩ = some (.slice A0_1 l0_1.length c0_1) := (bC_ BK1099.out 1).trans rfl; have hfz19_0 := bF_ BK1099.out 0; have hfz19_1 := bF_ BK1099.out 1)); go_meet
          case rel => exact ⟨_, (((l1.length : Int) != a0_0)), (by first | rfl | (simp; done) | (simp [*]; done)), H', ⟨by first | omega | exact nR_ _⟩, ⟨by (with_reducible repeat (first | refine bN_ ?_ _ | refine bD_ ?_ | refine bA_ ?_ _)); exact BK1099.out⟩, ⟨by repeat (first | (with_reducible first | exact HB.out | apply fA_ | apply pB_ | apply fD_ | refine fE_ ?_ GE1099.out) | exact HB.out)⟩⟩
        replace c14 := bE_.mpr c14; subst c14; have H1 : (snowlinelaw04_DiffsDuality.j0 k l1 l2 a3 l4 true a0_0 l0_1) = some r := by rw [if_neg (show ¬ (false = true) by decide)] at H; exact H
        clear H; have H := H1; clear H1; have H' := Z_ H; clear H; have hcz20_0 : w10.cell? ⟨gb1099, 0, none⟩ = some (.int .i64 a0_0) := (bC_ BK1099.out 0).trans rfl; have hcz20_1 : w10.cell? ⟨gb1099, 1, none⟩ = some (.slice A0_1 l0_1.length c0_1) := (bC_ BK1099.out 1).trans rfl; have hfz20_0 := bF_ BK1099.out 0; have hfz20_1 := bF_ BK1099.out 1; go_wp2_with (first | ((with_reducible refine gate_callee (f := 29) rfl ?_); refine goesL_ (some 24) rfl rfl Try.func29 (by kernel_rfl) rfl #[.agg #[.int .i64 a0_0, .slice A0_1 l0_1.length c0_1]] rfl (by (try simp only [mT_, mC_, mN_]); first | done | rfl | (simp only [lD_, lT_]; rfl)) ?_; (with_reducible refine (diffs_Check.calls k a0_0 _ _ l0_1 t1101 _ ?side1 ?side2 A11.out).mono ?_); (case side1 => repeat (first | exact (cB_ HR0_1.out HB.out) | (with_reducible refine Kd.C_alloc ?_ _) | (with_reducible refine Kd.C_drewN ?_ _) | (with_reducible refine Kd.C_drew ?_))); (case side2 => exact HC0_1.out); rintro e w21 ⟨rfl, hb⟩; refine ⟨_, rfl, ?_⟩; have n0_ := Z_ (bB_ (g := gb1099) (o := .cells #[.int .i64 a0_0, .slice A0_1 l0_1.length c0_1] 24 (0, 0)) (by (with_reducible repeat (first | refine bN_ ?_ _ | refine bD_ ?_ | refine bA_ ?_ _)); exact BK1099.out) hb); have n1_ := Z_ (fS_ (by repeat (first | (with_reducible first | exact HB.out | apply fA_ | apply pB_ | apply fD_ | refine fE_ ?_ GE1099.out) | exact HB.out)) hb); clear BK1099; clear HB; have BK1099 := n0_; have HB := n1_; clear n0_ n1_; (try clear hb); (try clear hb2); (try clear hk); (try clear hi); have hcz22_0 : w21.cell? ⟨gb1099, 0, none⟩ = some (.int .i64 a0_0) := (bC_ BK1099.out 0).trans rfl; have hcz22_1 : w21.cell? ⟨gb1099, 1, none⟩ = some (.slice A0_1 l0_1.length c0_1) := (bC_ BK1099.out 1).trans rfl; have hfz22_0 := bF_ BK1099.out 0; have hfz22_1 := bF_ BK1099.out 1) | (go_at_call 23; (with_reducible refine (snowlinelaw04_small.calls a0_0 _ _ l0_1 false _ ?side1 ?side2 A13.out).mono ?_); (case side1 => repeat (first | exact (cB_ HR0_1.out HB.out) | (with_reducible refine Kd.C_alloc ?_ _) | (with_reducible refine Kd.C_drewN ?_ _) | (with_reducible refine Kd.C_drew ?_))); (case side2 => exact HC0_1.out); rintro e w23 ⟨rfl, hb⟩; have n0_ := Z_ (bB_ (g := gb1099) (o := .cells #[.int .i64 a0_0, .slice A0_1 l0_1.length c0_1] 24 (0, 0)) (by (with_reducible repeat (first | refine bN_ ?_ _ | refine bD_ ?_ | refine bA_ ?_ _)); exact BK1099.out) hb); have n1_ := Z_ (fS_ (by repeat (first | (with_reducible first | exact HB.out | apply fA_ | apply pB_ | apply fD_ | refine fE_ ?_ GE1099.out) | exact HB.out)) hb); clear BK1099; clear HB; have BK1099 := n0_; have HB := n1_; clear n0_ n1_; (try clear hb); (try clear hb2); (try clear hk); (try clear hi))); go_meet
        case rel => exact ⟨_, (true), (by first | rfl | (simp; done) | (simp [*]; done)), H', ⟨by first | omega | exact nR_ _⟩, ⟨by (with_reducible repeat (first | refine bN_ ?_ _ | refine bD_ ?_ | refine bA_ ?_ _)); exact BK1099.out⟩, ⟨by repeat (first | (with_reducible first | exact HB.out | apply fA_ | apply pB_ | apply fD_ | refine fE_ ?_ GE1099.out) | exact HB.out)⟩⟩
      rw [if_neg c12] at H; have c12b0 : (t1101 == 0) = false := beq_eq_false_iff_ne.mpr c12; have c12b1 : (t1101 != 0) = true := bne_iff_ne.mpr c12; (first | rw [c12b0] | (simp only [i64_w, i32_w]; rw [c12b0]) | skip)
      have H' := Z_ H; clear H; have hcz24_0 : w10.cell? ⟨gb1099, 0, none⟩ = some (.int .i64 a0_0) := (bC_ BK1099.out 0).trans rfl; have hcz24_1 : w10.cell? ⟨gb1099, 1, none⟩ = some (.slice A0_1 l0_1.length c0_1) := (bC_ BK1099.out 1).trans rfl; have hfz24_0 := bF_ BK1099.out 0; have hfz24_1 := bF_ BK1099.out 1; go_wp2_with (first | ((with_reducible refine gate_callee (f := 29) rfl ?_); refine goesL_ (some 24) rfl rfl Try.func29 (by kernel_rfl) rfl #[.agg #[.int .i64 a0_0, .slice A0_1 l0_1.length c0_1]] rfl (by (try simp only [mT_, mC_, mN_]); first | done | rfl | (simp only [lD_, lT_]; rfl)) ?_; (with_reducible refine (diffs_Check.calls k a0_0 _ _ l0_1 t1101 _ ?side1 ?side2 A11.out).mono ?_); (case side1 => repeat (first | exact (cB_ HR0_1.out HB.out) | (with_reducible refine Kd.C_alloc ?_ _) | (with_reducible refine Kd.C_drewN ?_ _) | (with_reducible refine Kd.C_drew ?_))); (case side2 => exact HC0_1.out); rintro e w25 ⟨rfl, hb⟩; refine ⟨_, rfl, ?_⟩; have n0_ := Z_ (bB_ (g := gb1099) (o := .cells #[.int .i64 a0_0, .slice A0_1 l0_1.length c0_1] 24 (0, 0)) (by (with_reducible repeat (first | refine bN_ ?_ _ | refine bD_ ?_ | refine bA_ ?_ _)); exact BK1099.out) hb); have n1_ := Z_ (fS_ (by repeat (first | (with_reducible first | exact HB.out | apply fA_ | apply pB_ | apply fD_ | refine fE_ ?_ GE1099.out) | exact HB.out)) hb); clear BK1099; clear HB; have BK1099 := n0_; have HB := n1_; clear n0_ n1_; (try clear hb); (try clear hb2); (try clear hk); (try clear hi))); go_meet
      case rel => exact ⟨_, (true), (by first | rfl | (simp; done) | (simp [*]; done)), H', ⟨by first | omega | exact nR_ _⟩, ⟨by (with_reducible repeat (first | refine bN_ ?_ _ | refine bD_ ?_ | refine bA_ ?_ _)); exact BK1099.out⟩, ⟨by repeat (first | (with_reducible first | exact HB.out | apply fA_ | apply pB_ | apply fD_ | refine fE_ ?_ GE1099.out) | exact HB.out)⟩⟩
    case rest =>
      clear HC8; try clear c1
      try clear c2
      try clear p2
      try clear c4
      try clear c7
      try clear c12
      try clear c12b0
      try clear c12b1
      try clear c14
      try clear c21
      try clear hcz15_0
      try clear hcz15_1
      try clear hcz17_0
      try clear hcz17_1
      try clear hcz19_0
      try clear hcz19_1
      try clear hcz20_0
      try clear hcz20_1
      try clear hcz22_0
      try clear hcz22_1
      try clear hcz24_0
      try clear hcz24_1
      try clear hfz15_0
      try clear hfz15_1
      try clear hfz17_0
      try clear hfz17_1
      try clear hfz19_0
      try clear hfz19_1
      try clear hfz20_0
      try clear hfz20_1
      try clear hfz22_0
      try clear hfz22_1
      try clear hfz24_0
      try clear hfz24_1
      obtain ⟨kq, x37_7, rfl, HA, HJ7, BK1099, HB⟩ := hcut
      cases kq with
      | zero => exact absurd HA.out (by simp [snowlinelaw04_DiffsDuality.j0])
      | succ kj7 =>
        have H := HA.out; clear HA; simp only [snowlinelaw04_DiffsDuality.j0] at H; by_cases c26 : x37_7 = true
        · subst c26
          have H1 : (some true) = some r := by rw [if_pos rfl] at H; exact H
          clear H; have H := H1; clear H1; obtain rfl := oI_ H; go_wp2; go_ret; exact ⟨by first | rfl | (simp [errW_none, errW_some] <;> rfl) | (simp [*, errW_none, errW_some] <;> rfl), by repeat (first | (with_reducible first | exact HB.out | apply fA_ | apply pB_ | apply fD_ | refine fE_ ?_ GE1099.out) | exact HB.out)⟩
        replace c26 := bE_.mpr c26; subst c26; have H1 : ((diffs_CheckFlow.f kj7 a0_0 l0_1 l1 a3 l4).bind fun t1103 => (if t1103 = 0 then ((snowlinelaw04_fulfils.f kj7 a0_0 l0_1 l2).bind fun t1104 => (if t1104 = true then ((snowlineref04_Sum.f kj7 l1 l2).bind fun t1105 => (snowlinelaw04_DiffsDuality.j1 kj7 l1 l2 a3 (t1103 == 0) (decide (t1105 > a3)) a0_0 l0_1)) else (snowlinelaw04_DiffsDuality.j1 kj7 l1 l2 a3 (t1103 == 0) false a0_0 l0_1))) else (snowlinelaw04_DiffsDuality.j1 kj7 l1 l2 a3 (t1103 == 0) false a0_0 l0_1))) = some r := by rw [if_neg (show ¬ (false = true) by decide)] at H; exact H
        clear H; have H := H1; clear H1; replace H := oS_.mp H; obtain ⟨t1103, A270, H⟩ := H; replace H : (if t1103 = 0 then ((snowlinelaw04_fulfils.f kj7 a0_0 l0_1 l2).bind fun t1104 => (if t1104 = true then ((snowlineref04_Sum.f kj7 l1 l2).bind fun t1105 => (snowlinelaw04_DiffsDuality.j1 kj7 l1 l2 a3 (t1103 == 0) (decide (t1105 > a3)) a0_0 l0_1)) else (snowlinelaw04_DiffsDuality.j1 kj7 l1 l2 a3 (t1103 == 0) false a0_0 l0_1))) else (snowlinelaw04_DiffsDuality.j1 kj7 l1 l2 a3 (t1103 == 0) false a0_0 l0_1)) = some r := H; have A27 := Z_ A270; clear A270; have HC28 := Z_ H; clear H; have hcz29_0 : wc.cell? ⟨gb1099, 0, none⟩ = some (.int .i64 a0_0) := (bC_ BK1099.out 0).trans rfl; have hcz29_1 : wc.cell? ⟨gb1099, 1, none⟩ = some (.slice A0_1 l0_1.length c0_1) := (bC_ BK1099.out 1).trans rfl; have hfz29_0 := bF_ BK1099.out 0; have hfz29_1 := bF_ BK1099.out 1; go_upto_region 6 with (first | ((with_reducible refine gate_callee (f := 49) rfl ?_); refine goesL_ (some 42) rfl rfl Try.func49 (by kernel_rfl) rfl #[.agg #[.int .i64 a0_0, .slice A0_1 l0_1.length c0_1], .slice A1 l1.length c1, .int .i64 a3, .slice A4 l4.length c4] rfl (by (try simp only [mT_, mC_, mN_]); first | done | rfl | (simp only [lD_, lT_]; rfl)) ?_; (with_reducible refine (diffs_CheckFlow.calls kj7 a0_0 _ _ l0_1 _ _ l1 a3 _ _ l4 t1103 _ ?side1 ?side2 ?side3 ?side4 ?side5 ?side6 A27.out).mono ?_); (case side1 => repeat (first | exact (cB_ HR0_1.out HB.out) | (with_reducible refine Kd.C_alloc ?_ _) | (with_reducible refine Kd.C_drewN ?_ _) | (with_reducible refine Kd.C_drew ?_))); (case side2 => exact HC0_1.out); (case side3 => repeat (first | exact (cB_ HR1.out HB.out) | (with_reducible refine Kd.C_alloc ?_ _) | (with_reducible refine Kd.C_drewN ?_ _) | (with_reducible refine Kd.C_drew ?_))); (case side4 => exact HC1.out); (case side5 => repeat (first | exact (cB_ HR4.out HB.out) | (with_reducible refine Kd.C_alloc ?_ _) | (with_reducible refine Kd.C_drewN ?_ _) | (with_reducible refine Kd.C_drew ?_))); (case side6 => exact HC4.out); rintro e w30 ⟨rfl, hb⟩; refine ⟨_, rfl, ?_⟩; have n0_ := Z_ (bB_ (g := gb1099) (o := .cells #[.int .i64 a0_0, .slice A0_1 l0_1.length c0_1] 24 (0, 0)) (by (with_reducible repeat (first | refine bN_ ?_ _ | refine bD_ ?_ | refine bA_ ?_ _)); exact BK1099.out) hb); have n1_ := Z_ (fS_ (by repeat (first | (with_reducible first | exact HB.out | apply fA_ | apply pB_ | apply fD_ | refine fE_ ?_ GE1099.out) | exact HB.out)) hb); clear BK1099; clear HB; have BK1099 := n0_; have HB := n1_; clear n0_ n1_; (try clear hb); (try clear hb2); (try clear hk); (try clear hi))); (try simp only [Act.put, sT_, sZ_, sS_])
        go_cut [11, 56] (fun v11 v56 wc => v11 = .bool (t1103 == 0) ∧ ∃ (kq : Nat) (x56_27 : Bool), v56 = .bool x56_27 ∧ Aside0 (snowlinelaw04_DiffsDuality.j1 kq l1 l2 a3 (t1103 == 0) x56_27 a0_0 l0_1 = some r) ∧ Aside0 (kq ≤ kj7) ∧ Aside0 (wc.heap[gb1099]? = some (.cells #[.int .i64 a0_0, (.slice A0_1 l0_1.length c0_1)] 24 (0, 0))) ∧ Aside0 (Below w.heap.size w wc))
        case first =>
          have H := HC28.out; clear HC28; by_cases c31 : t1103 = 0
          · rw [if_pos c31] at H
            have c31b0 : (t1103 == 0) = true := beq_iff_eq.mpr c31; have c31b1 : (t1103 != 0) = false := bne_eq_false_iff_eq.mpr c31; clear c31; (first | rw [c31b0] | (simp only [i64_w, i32_w]; rw [c31b0]) | skip)
            replace H := oS_.mp H; obtain ⟨t1104, A320, H⟩ := H; replace H : (if t1104 = true then ((snowlineref04_Sum.f kj7 l1 l2).bind fun t1105 => (snowlinelaw04_DiffsDuality.j1 kj7 l1 l2 a3 (t1103 == 0) (decide (t1105 > a3)) a0_0 l0_1)) else (snowlinelaw04_DiffsDuality.j1 kj7 l1 l2 a3 (t1103 == 0) false a0_0 l0_1)) = some r := H; have A32 := Z_ A320; clear A320; by_cases c33 : t1104 = true
            · subst c33
              have H1 : ((snowlineref04_Sum.f kj7 l1 l2).bind fun t1105 => (snowlinelaw04_DiffsDuality.j1 kj7 l1 l2 a3 (t1103 == 0) (decide (t1105 > a3)) a0_0 l0_1)) = some r := by rw [if_pos rfl] at H; exact H
              clear H; have H := H1; clear H1; replace H := oS_.mp H; obtain ⟨t1105, A340, H⟩ := H; replace H : (snowlinelaw04_DiffsDuality.j1 kj7 l1 l2 a3 (t1103 == 0) (decide (t1105 > a3)) a0_0 l0_1) = some r := H; have A34 := Z_ A340; clear A340; have H' := Z_ H; clear H; have hcz35_0 : w30.cell? ⟨gb1099, 0, none⟩ = some (.int .i64 a0_0) := (bC_ BK1099.out 0).trans rfl; have hcz35_1 : w30.cell? ⟨gb1099, 1, none⟩ = some (.slice A0_1 l0_1.length c0_1) := (bC_ BK1099.out 1).trans rfl; have hfz35_0 := bF_ BK1099.out 0; have hfz35_1 := bF_ BK1099.out 1; go_wp2_with (first | (go_at_call 48; (with_reducible refine (snowlinelaw04_fulfils.calls kj7 a0_0 _ _ l0_1 _ _ l2 true _ ?side1 ?side2 ?side3 ?side4 A32.out).mono ?_); (case side1 => repeat (first | exact (cB_ HR0_1.out HB.out) | (with_reducible refine Kd.C_alloc ?_ _) | (with_reducible refine Kd.C_drewN ?_ _) | (with_reducible refine Kd.C_drew ?_))); (case side2 => exact HC0_1.out); (case side3 => repeat (first | exact (cB_ HR2.out HB.out) | (with_reducible refine Kd.C_alloc ?_ _) | (with_reducible refine Kd.C_drewN ?_ _) | (with_reducible refine Kd.C_drew ?_))); (case side4 => exact HC2.out); rintro e w36 ⟨rfl, hb⟩; have n0_ := Z_ (bB_ (g := gb1099) (o := .cells #[.int .i64 a0_0, .slice A0_1 l0_1.length c0_1] 24 (0, 0)) (by (with_reducible repeat (first | refine bN_ ?_ _ | refine bD_ ?_ | refine bA_ ?_ _)); exact BK1099.out) hb); have n1_ := Z_ (fS_ (by repeat (first | (with_reducible first | exact HB.out | apply fA_ | apply pB_ | apply fD_ | refine fE_ ?_ GE1099.out) | exact HB.out)) hb); clear BK1099; clear HB; have BK1099 := n0_; have HB := n1_; clear n0_ n1_; (try clear hb); (try clear hb2); (try clear hk); (try clear hi)) | (go_at_call 54; (with_reducible refine (snowlineref04_Sum.calls kj7 _ _ l1 _ _ l2 t1105 _ ?side1 ?side2 ?side3 ?side4 A34.out).mono ?_); (case side1 => repeat (first | exact (cB_ HR1.out HB.out) | (with_reducible refine Kd.C_alloc ?_ _) | (with_reducible refine Kd.C_drewN ?_ _) | (with_reducible refine Kd.C_drew ?_))); (case side2 => exact HC1.out); (case side3 => repeat (first | exact (cB_ HR2.out HB.out) | (with_reducible refine Kd.C_alloc ?_ _) | (with_reducible refine Kd.C_drewN ?_ _) | (with_reducible refine Kd.C_drew ?_))); (case side4 => exact HC2.out); rintro e w' ⟨rfl, ⟨nd, rfl⟩⟩)); go_meet
              case rel => exact ⟨(by first | rfl | (simp; done) | (simp [*]; done)), _, (decide (t1105 > a3)), (by first | rfl | (simp; done) | (simp [*]; done)), H', ⟨by have := HJ7.out; first | omega | exact nR_ _⟩, ⟨by (with_reducible repeat (first | refine bN_ ?_ _ | refine bD_ ?_ | refine bA_ ?_ _)); exact BK1099.out⟩, ⟨by repeat (first | (with_reducible first | exact HB.out | apply fA_ | apply pB_ | apply fD_ | refine fE_ ?_ GE1099.out) | exact HB.out)⟩⟩
            replace c33 := bE_.mpr c33; subst c33; have H1 : (snowlinelaw04_DiffsDuality.j1 kj7 l1 l2 a3 (t1103 == 0) false a0_0 l0_1) = some r := by rw [if_neg (show ¬ (false = true) by decide)] at H; exact H
            clear H; have H := H1; clear H1; have H' := Z_ H; clear H; have hcz37_0 : w30.cell? ⟨gb1099, 0, none⟩ = some (.int .i64 a0_0) := (bC_ BK1099.out 0).trans rfl; have hcz37_1 : w30.cell? ⟨gb1099, 1, none⟩ = some (.slice A0_1 l0_1.length c0_1) := (bC_ BK1099.out 1).trans rfl; have hfz37_0 := bF_ BK1099.out 0; have hfz37_1 := bF_ BK1099.out 1; go_wp2_with (first | (go_at_call 48; (with_reducible refine (snowlinelaw04_fulfils.calls kj7 a0_0 _ _ l0_1 _ _ l2 false _ ?side1 ?side2 ?side3 ?side4 A32.out).mono ?_); (case side1 => repeat (first | exact (cB_ HR0_1.out HB.out) | (with_reducible refine Kd.C_alloc ?_ _) | (with_reducible refine Kd.C_drewN ?_ _) | (with_reducible refine Kd.C_drew ?_))); (case side2 => exact HC0_1.out); (case side3 => repeat (first | exact (cB_ HR2.out HB.out) | (with_reducible refine Kd.C_alloc ?_ _) | (with_reducible refine Kd.C_drewN ?_ _) | (with_reducible refine Kd.C_drew ?_))); (case side4 => exact HC2.out); rintro e w38 ⟨rfl, hb⟩; have n0_ := Z_ (bB_ (g := gb1099) (o := .cells #[.int .i64 a0_0, .slice A0_1 l0_1.length c0_1] 24 (0, 0)) (by (with_reducible repeat (first | refine bN_ ?_ _ | refine bD_ ?_ | refine bA_ ?_ _)); exact BK1099.out) hb); have n1_ := Z_ (fS_ (by repeat (first | (with_reducible first | exact HB.out | apply fA_ | apply pB_ | apply fD_ | refine fE_ ?_ GE1099.out) | exact HB.out)) hb); clear BK1099; clear HB; have BK1099 := n0_; have HB := n1_; clear n0_ n1_; (try clear hb); (try clear hb2); (try clear hk); (try clear hi))); go_meet
            case rel => exact ⟨(by first | rfl | (simp; done) | (simp [*]; done)), _, (false), (by first | rfl | (simp; done) | (simp [*]; done)), H', ⟨by have := HJ7.out; first | omega | exact nR_ _⟩, ⟨by (with_reducible repeat (first | refine bN_ ?_ _ | refine bD_ ?_ | refine bA_ ?_ _)); exact BK1099.out⟩, ⟨by repeat (first | (with_reducible first | exact HB.out | apply fA_ | apply pB_ | apply fD_ | refine fE_ ?_ GE1099.out) | exact HB.out)⟩⟩
          rw [if_neg c31] at H; have c31b0 : (t1103 == 0) = false := beq_eq_false_iff_ne.mpr c31; have c31b1 : (t1103 != 0) = true := bne_iff_ne.mpr c31; (first | rw [c31b0] | (simp only [i64_w, i32_w]; rw [c31b0]) | skip)
          have H' := Z_ H; clear H; go_wp2; go_meet
          case rel => exact ⟨(by first | rfl | (simp; done) | (simp [*]; done)), _, (false), (by first | rfl | (simp; done) | (simp [*]; done)), H', ⟨by have := HJ7.out; first | omega | exact nR_ _⟩, ⟨by (with_reducible repeat (first | refine bN_ ?_ _ | refine bD_ ?_ | refine bA_ ?_ _)); exact BK1099.out⟩, ⟨by repeat (first | (with_reducible first | exact HB.out | apply fA_ | apply pB_ | apply fD_ | refine fE_ ?_ GE1099.out) | exact HB.out)⟩⟩
        case rest =>
          clear HC28; try clear c1
          try clear c2
          try clear p2
          try clear c3
          try clear c4
          try clear c7
          try clear c12
          try clear c12b0
          try clear c12b1
          try clear c14
          try clear c21
          try clear c26
          try clear c29
          try clear c31
          try clear c31b0
          try clear c31b1
          try clear c33
          try clear hcz15_0
          try clear hcz15_1
          try clear hcz17_0
          try clear hcz17_1
          try clear hcz19_0
          try clear hcz19_1
          try clear hcz20_0
          try clear hcz20_1
          try clear hcz22_0
          try clear hcz22_1
          try clear hcz24_0
          try clear hcz24_1
          try clear hcz29_0
          try clear hcz29_1
          try clear hcz35_0
          try clear hcz35_1
          try clear hcz37_0
          try clear hcz37_1
          try clear hfz15_0
          try clear hfz15_1
          try clear hfz17_0
          try clear hfz17_1
          try clear hfz19_0
          try clear hfz19_1
          try clear hfz20_0
          try clear hfz20_1
          try clear hfz22_0
          try clear hfz22_1
          try clear hfz24_0
          try clear hfz24_1
          try clear hfz29_0
          try clear hfz29_1
          try clear hfz35_0
          try clear hfz35_1
          try clear hfz37_0
          try clear hfz37_1
          try clear p2
          obtain ⟨rfl, kq, x56_27, rfl, HA, HJ27, BK1099, HB⟩ := hcut
          cases kq with
          | zero => exact absurd HA.out (by simp [snowlinelaw04_DiffsDuality.j1])
          | succ kj27 =>
            have H := HA.out; clear HA; simp only [snowlinelaw04_DiffsDuality.j1] at H; by_cases c39 : x56_27 = true
            · subst c39
              have H1 : (some false) = some r := by rw [if_pos rfl] at H; exact H
              clear H; have H := H1; clear H1; obtain rfl := oI_ H; go_wp2; go_ret; exact ⟨by first | rfl | (simp [errW_none, errW_some] <;> rfl) | (simp [*, errW_none, errW_some] <;> rfl), by repeat (first | (with_reducible first | exact HB.out | apply fA_ | apply pB_ | apply fD_ | refine fE_ ?_ GE1099.out) | exact HB.out)⟩
            replace c39 := bE_.mpr c39; subst c39; have H1 : ((diffs_Most.f kj27 a0_0 l0_1 l1).bind fun bt1106 => (if bt1106.2.2 = 0 then ((diffs_Best.f kj27 a0_0 l0_1 l1).bind fun bt1109 => ((diffs_Flow.f kj27 a0_0 l0_1 l1).bind fun bt1114 => (if bt1109.2.2 = 0 then (if bt1114.2.2 = 0 then (if (bt1109.2.1 != bt1106.2.1) = true then (snowlinelaw04_DiffsDuality.j2 kj27 l1 l2 a3 (t1103 == 0) bt1106.1 bt1106.2.1 bt1109.1 bt1114.1 true a0_0 l0_1) else (snowlinelaw04_DiffsDuality.j2 kj27 l1 l2 a3 (t1103 == 0) bt1106.1 bt1106.2.1 bt1109.1 bt1114.1 (bt1114.2.1 != bt1106.2.1) a0_0 l0_1)) else (snowlinelaw04_DiffsDuality.j2 kj27 l1 l2 a3 (t1103 == 0) bt1106.1 bt1106.2.1 bt1109.1 bt1114.1 true a0_0 l0_1)) else (snowlinelaw04_DiffsDuality.j2 kj27 l1 l2 a3 (t1103 == 0) bt1106.1 bt1106.2.1 bt1109.1 bt1114.1 true a0_0 l0_1)))) else (if bt1106.1 = 0 then (some (!bt1106.2.1)) else (some false)))) = some r := by rw [if_neg (show ¬ (false = true) by decide)] at H; exact H
            clear H; have H := H1; clear H1; replace H := oS_.mp H; obtain ⟨⟨t1106, t1107, t1108⟩, A400, H⟩ := H; replace H : (if t1108 = 0 then ((diffs_Best.f kj27 a0_0 l0_1 l1).bind fun bt1109 => ((diffs_Flow.f kj27 a0_0 l0_1 l1).bind fun bt1114 => (if bt1109.2.2 = 0 then (if bt1114.2.2 = 0 then (if (bt1109.2.1 != t1107) = true then (snowlinelaw04_DiffsDuality.j2 kj27 l1 l2 a3 (t1103 == 0) t1106 t1107 bt1109.1 bt1114.1 true a0_0 l0_1) else (snowlinelaw04_DiffsDuality.j2 kj27 l1 l2 a3 (t1103 == 0) t1106 t1107 bt1109.1 bt1114.1 (bt1114.2.1 != t1107) a0_0 l0_1)) else (snowlinelaw04_DiffsDuality.j2 kj27 l1 l2 a3 (t1103 == 0) t1106 t1107 bt1109.1 bt1114.1 true a0_0 l0_1)) else (snowlinelaw04_DiffsDuality.j2 kj27 l1 l2 a3 (t1103 == 0) t1106 t1107 bt1109.1 bt1114.1 true a0_0 l0_1)))) else (if t1106 = 0 then (some (!t1107)) else (some false))) = some r := H; have A40 := Z_ A400; clear A400; by_cases c41 : t1108 = 0
            · rw [if_pos c41] at H
              have c41b0 : (t1108 == 0) = true := beq_iff_eq.mpr c41; have c41b1 : (t1108 != 0) = false := bne_eq_false_iff_eq.mpr c41; clear c41; replace H := oS_.mp H; obtain ⟨⟨t1109, t1112, t1113⟩, A420, H⟩ := H; replace H : ((diffs_Flow.f kj27 a0_0 l0_1 l1).bind fun bt1114 => (if t1113 = 0 then (if bt1114.2.2 = 0 then (if (t1112 != t1107) = true then (snowlinelaw04_DiffsDuality.j2 kj27 l1 l2 a3 (t1103 == 0) t1106 t1107 t1109 bt1114.1 true a0_0 l0_1) else (snowlinelaw04_DiffsDuality.j2 kj27 l1 l2 a3 (t1103 == 0) t1106 t1107 t1109 bt1114.1 (bt1114.2.1 != t1107) a0_0 l0_1)) else (snowlinelaw04_DiffsDuality.j2 kj27 l1 l2 a3 (t1103 == 0) t1106 t1107 t1109 bt1114.1 true a0_0 l0_1)) else (snowlinelaw04_DiffsDuality.j2 kj27 l1 l2 a3 (t1103 == 0) t1106 t1107 t1109 bt1114.1 true a0_0 l0_1))) = some r := H; have A42 := Z_ A420; clear A420; replace H := oS_.mp H; obtain ⟨⟨t1114, t1117, t1118⟩, A430, H⟩ := H; replace H : (if t1113 = 0 then (if t1118 = 0 then (if (t1112 != t1107) = true then (snowlinelaw04_DiffsDuality.j2 kj27 l1 l2 a3 (t1103 == 0) t1106 t1107 t1109 t1114 true a0_0 l0_1) else (snowlinelaw04_DiffsDuality.j2 kj27 l1 l2 a3 (t1103 == 0) t1106 t1107 t1109 t1114 (t1117 != t1107) a0_0 l0_1)) else (snowlinelaw04_DiffsDuality.j2 kj27 l1 l2 a3 (t1103 == 0) t1106 t1107 t1109 t1114 true a0_0 l0_1)) else (snowlinelaw04_DiffsDuality.j2 kj27 l1 l2 a3 (t1103 == 0) t1106 t1107 t1109 t1114 true a0_0 l0_1)) = some r := H; have A43 := Z_ A430; clear A430; have HC44 := Z_ H; clear H; have hcz45_0 : wc.cell? ⟨gb1099, 0, none⟩ = some (.int .i64 a0_0) := (bC_ BK1099.out 0).trans rfl; have hcz45_1 : wc.cell? ⟨gb1099, 1, none⟩ = some (.slice A0_1 l0_1.length c0_1) := (bC_ BK1099.out 1).trans rfl; have hfz45_0 := bF_ BK1099.out 0; have hfz45_1 := bF_ BK1099.out 1; go_upto_region 13 with (first | ((with_reducible refine gate_callee (f := 31) rfl ?_); refine goesL_ (some 60) rfl rfl Try.func31 (by kernel_rfl) rfl #[.agg #[.int .i64 a0_0, .slice A0_1 l0_1.length c0_1], .slice A1 l1.length c1] rfl (by (try simp only [mT_, mC_, mN_]); first | done | rfl | (simp only [lD_, lT_]; rfl)) ?_; (with_reducible refine (diffs_Most.calls kj27 a0_0 _ _ l0_1 _ _ l1 t1106 t1107 t1108 _ ?side1 ?side2 ?side3 ?side4 A40.out).mono ?_); (case side1 => repeat (first | exact (cB_ HR0_1.out HB.out) | (with_reducible refine Kd.C_alloc ?_ _) | (with_reducible refine Kd.C_drewN ?_ _) | (with_reducible refine Kd.C_drew ?_))); (case side2 => exact HC0_1.out); (case side3 => repeat (first | exact (cB_ HR1.out HB.out) | (with_reducible refine Kd.C_alloc ?_ _) | (with_reducible refine Kd.C_drewN ?_ _) | (with_reducible refine Kd.C_drew ?_))); (case side4 => exact HC1.out); rintro e w46 ⟨rfl, hb⟩; refine ⟨_, rfl, ?_⟩; have n0_ := Z_ (bB_ (g := gb1099) (o := .cells #[.int .i64 a0_0, .slice A0_1 l0_1.length c0_1] 24 (0, 0)) (by (with_reducible repeat (first | refine bN_ ?_ _ | refine bD_ ?_ | refine bA_ ?_ _)); exact BK1099.out) hb); have n1_ := Z_ (fS_ (by repeat (first | (with_reducible first | exact HB.out | apply fA_ | apply pB_ | apply fD_ | refine fE_ ?_ GE1099.out) | exact HB.out)) hb); clear BK1099; clear HB; have BK1099 := n0_; have HB := n1_; clear n0_ n1_; (try clear hb); (try clear hb2); (try clear hk); (try clear hi); have hcz47_0 : w46.cell? ⟨gb1099, 0, none⟩ = some (.int .i64 a0_0) := (bC_ BK1099.out 0).trans rfl; have hcz47_1 : w46.cell? ⟨gb1099, 1, none⟩ = some (.slice A0_1 l0_1.length c0_1) := (bC_ BK1099.out 1).trans rfl; have hfz47_0 := bF_ BK1099.out 0; have hfz47_1 := bF_ BK1099.out 1) | ((with_reducible refine gate_callee (f := 52) rfl ?_); refine goesL_ (some 75) rfl rfl Try.func52 (by kernel_rfl) rfl #[.agg #[.int .i64 a0_0, .slice A0_1 l0_1.length c0_1], .slice A1 l1.length c1] rfl (by (try simp only [mT_, mC_, mN_]); first | done | rfl | (simp only [lD_, lT_]; rfl)) ?_; (with_reducible refine (diffs_Best.calls kj27 a0_0 _ _ l0_1 _ _ l1 t1109 t1112 t1113 _ ?side1 ?side2 ?side3 ?side4 A42.out).mono ?_); (case side1 => repeat (first | exact (cB_ HR0_1.out HB.out) | (with_reducible refine Kd.C_alloc ?_ _) | (with_reducible refine Kd.C_drewN ?_ _) | (with_reducible refine Kd.C_drew ?_))); (case side2 => exact HC0_1.out); (case side3 => repeat (first | exact (cB_ HR1.out HB.out) | (with_reducible refine Kd.C_alloc ?_ _) | (with_reducible refine Kd.C_drewN ?_ _) | (with_reducible refine Kd.C_drew ?_))); (case side4 => exact HC1.out); rintro e w48 ⟨v1110, rfl, ho0, hb⟩; refine ⟨_, rfl, ?_⟩; have n0_ := Z_ (rL_ ho0 (fZ_ (by repeat (first | (with_reducible first | exact HB.out | apply fA_ | apply pB_ | apply fD_ | refine fE_ ?_ GE1099.out) | exact HB.out)))); have n1_ := Z_ (bB_ (g := gb1099) (o := .cells #[.int .i64 a0_0, .slice A0_1 l0_1.length c0_1] 24 (0, 0)) (by (with_reducible repeat (first | refine bN_ ?_ _ | refine bD_ ?_ | refine bA_ ?_ _)); exact BK1099.out) hb); have n2_ := Z_ (fS_ (by repeat (first | (with_reducible first | exact HB.out | apply fA_ | apply pB_ | apply fD_ | refine fE_ ?_ GE1099.out) | exact HB.out)) hb); clear BK1099; clear HB; have HO1111 := n0_; have BK1099 := n1_; have HB := n2_; clear n0_ n1_ n2_; (try clear hb); (try clear hb2); (try clear hk); (try clear hi); (try clear ho0); have hcz49_0 : w48.cell? ⟨gb1099, 0, none⟩ = some (.int .i64 a0_0) := (bC_ BK1099.out 0).trans rfl; have hcz49_1 : w48.cell? ⟨gb1099, 1, none⟩ = some (.slice A0_1 l0_1.length c0_1) := (bC_ BK1099.out 1).trans rfl; have hfz49_0 := bF_ BK1099.out 0; have hfz49_1 := bF_ BK1099.out 1) | ((with_reducible refine gate_callee (f := 53) rfl ?_); refine goesL_ (some 82) rfl rfl Try.func53 (by kernel_rfl) rfl #[.agg #[.int .i64 a0_0, .slice A0_1 l0_1.length c0_1], .slice A1 l1.length c1] rfl (by (try simp only [mT_, mC_, mN_]); first | done | rfl | (simp only [lD_, lT_]; rfl)) ?_; (with_reducible refine (diffs_Flow.calls kj27 a0_0 _ _ l0_1 _ _ l1 t1114 t1117 t1118 _ ?side1 ?side2 ?side3 ?side4 A43.out).mono ?_); (case side1 => repeat (first | exact (cB_ HR0_1.out HB.out) | (with_reducible refine Kd.C_alloc ?_ _) | (with_reducible refine Kd.C_drewN ?_ _) | (with_reducible refine Kd.C_drew ?_))); (case side2 => exact HC0_1.out); (case side3 => repeat (first | exact (cB_ HR1.out HB.out) | (with_reducible refine Kd.C_alloc ?_ _) | (with_reducible refine Kd.C_drewN ?_ _) | (with_reducible refine Kd.C_drew ?_))); (case side4 => exact HC1.out); rintro e w50 ⟨v1115, rfl, ho0, hb⟩; refine ⟨_, rfl, ?_⟩; have n0_ := Z_ (Kd.R_elder' (by (with_reducible repeat (first | apply rA_ | apply rN_ | apply rD_)); exact HO1111.out) (Kd.R_base ho0) hb); have n1_ := Z_ (rL_ (Kd.R_new' ho0 (Kd.R_lt (by (with_reducible repeat (first | apply rA_ | apply rN_ | apply rD_)); exact HO1111.out))) (fZ_ (by repeat (first | (with_reducible first | exact HB.out | apply fA_ | apply pB_ | apply fD_ | refine fE_ ?_ GE1099.out) | exact HB.out)))); have n2_ := Z_ (bB_ (g := gb1099) (o := .cells #[.int .i64 a0_0, .slice A0_1 l0_1.length c0_1] 24 (0, 0)) (by (with_reducible repeat (first | refine bN_ ?_ _ | refine bD_ ?_ | refine bA_ ?_ _)); exact BK1099.out) hb); have n3_ := Z_ (fS_ (by repeat (first | (with_reducible first | exact HB.out | apply fA_ | apply pB_ | apply fD_ | refine fE_ ?_ GE1099.out) | exact HB.out)) hb); clear HO1111; clear BK1099; clear HB; have HO1111 := n0_; have HO1116 := n1_; have BK1099 := n2_; have HB := n3_; clear n0_ n1_ n2_ n3_; (try clear hb); (try clear hb2); (try clear hk); (try clear hi); (try clear ho0))); (try simp only [Act.put, sT_, sZ_, sS_])
              go_cut [101] (fun v101 wc => ∃ (kq : Nat) (x101_43 : Bool), v101 = .bool x101_43 ∧ Aside0 (snowlinelaw04_DiffsDuality.j2 kq l1 l2 a3 (t1103 == 0) t1106 t1107 t1109 t1114 x101_43 a0_0 l0_1 = some r) ∧ Aside0 (kq ≤ kj27) ∧ Aside0 (Kd.R (Kd.int .i64) 3 wc w.heap.size (fun k_ => some k_ ≠ (v1115 : Value).ownBlock) v1110 t1109) ∧ Aside0 (Kd.R (Kd.int .i64) 3 wc w.heap.size (fun k_ => some k_ ≠ (v1110 : Value).ownBlock) v1115 t1114) ∧ Aside0 (wc.heap[gb1099]? = some (.cells #[.int .i64 a0_0, (.slice A0_1 l0_1.length c0_1)] 24 (0, 0))) ∧ Aside0 (Below w.heap.size w wc))
              case first =>
                have H := HC44.out; clear HC44; by_cases c51 : t1113 = 0
                · rw [if_pos c51] at H
                  have c51b0 : (t1113 == 0) = true := beq_iff_eq.mpr c51; have c51b1 : (t1113 != 0) = false := bne_eq_false_iff_eq.mpr c51; clear c51; (first | rw [c51b0] | (simp only [i64_w, i32_w]; rw [c51b0]) | skip)
                  by_cases c52 : t1118 = 0
                  · rw [if_pos c52] at H
                    have c52b0 : (t1118 == 0) = true := beq_iff_eq.mpr c52; have c52b1 : (t1118 != 0) = false := bne_eq_false_iff_eq.mpr c52; clear c52; by_cases c53 : (t1112 != t1107) = true
                    · rw [if_pos c53] at H
                      have c53b0 : (t1112 != t1107) = true := c53; (try (have c53b1 : decide (t1112 = t1107) = false := by simpa using c53))
                      (try (have c53b2 : (t1112 == t1107) = false := by simpa using c53))
                      (try (have c53b3 : ¬ (t1112 = t1107) := by simpa using c53))
                      clear c53; have H' := Z_ H; clear H; go_wp2; go_meet
                      case rel => exact ⟨_, (true), (by first | rfl | (simp; done) | (simp [*]; done)), H', ⟨by have := HJ7.out; have := HJ27.out; first | omega | exact nR_ _⟩, ⟨by (with_reducible repeat (first | apply rA_ | apply rN_ | apply rD_)); exact rM_ HO1111.out (fun _ hk => hk.2)⟩, ⟨by (with_reducible repeat (first | apply rA_ | apply rN_ | apply rD_)); exact rM_ HO1116.out (fun _ hk => hk.2)⟩, ⟨by (with_reducible repeat (first | refine bN_ ?_ _ | refine bD_ ?_ | refine bA_ ?_ _)); exact BK1099.out⟩, ⟨by repeat (first | (with_reducible first | exact HB.out | apply fA_ | apply pB_ | apply fD_ | refine fE_ ?_ GE1099.out) | exact HB.out)⟩⟩
                    rw [if_neg c53] at H; have c53b0 : (t1112 != t1107) = false := by simpa using c53
                    (try (have c53b1 : decide (t1112 = t1107) = true := by simpa using c53))
                    (try (have c53b2 : (t1112 == t1107) = true := by simpa using c53))
                    clear c53; have H' := Z_ H; clear H; go_wp2; go_meet
                    case rel => exact ⟨_, ((t1117 != t1107)), (by first | rfl | (simp; done) | (simp [*]; done)), H', ⟨by have := HJ7.out; have := HJ27.out; first | omega | exact nR_ _⟩, ⟨by (with_reducible repeat (first | apply rA_ | apply rN_ | apply rD_)); exact rM_ HO1111.out (fun _ hk => hk.2)⟩, ⟨by (with_reducible repeat (first | apply rA_ | apply rN_ | apply rD_)); exact rM_ HO1116.out (fun _ hk => hk.2)⟩, ⟨by (with_reducible repeat (first | refine bN_ ?_ _ | refine bD_ ?_ | refine bA_ ?_ _)); exact BK1099.out⟩, ⟨by repeat (first | (with_reducible first | exact HB.out | apply fA_ | apply pB_ | apply fD_ | refine fE_ ?_ GE1099.out) | exact HB.out)⟩⟩
                  rw [if_neg c52] at H; have c52b0 : (t1118 == 0) = false := beq_eq_false_iff_ne.mpr c52; have c52b1 : (t1118 != 0) = true := bne_iff_ne.mpr c52; have H' := Z_ H; clear H; go_wp2; go_meet
                  case rel => exact ⟨_, (true), (by first | rfl | (simp; done) | (simp [*]; done)), H', ⟨by have := HJ7.out; have := HJ27.out; first | omega | exact nR_ _⟩, ⟨by (with_reducible repeat (first | apply rA_ | apply rN_ | apply rD_)); exact rM_ HO1111.out (fun _ hk => hk.2)⟩, ⟨by (with_reducible repeat (first | apply rA_ | apply rN_ | apply rD_)); exact rM_ HO1116.out (fun _ hk => hk.2)⟩, ⟨by (with_reducible repeat (first | refine bN_ ?_ _ | refine bD_ ?_ | refine bA_ ?_ _)); exact BK1099.out⟩, ⟨by repeat (first | (with_reducible first | exact HB.out | apply fA_ | apply pB_ | apply fD_ | refine fE_ ?_ GE1099.out) | exact HB.out)⟩⟩
                rw [if_neg c51] at H; have c51b0 : (t1113 == 0) = false := beq_eq_false_iff_ne.mpr c51; have c51b1 : (t1113 != 0) = true := bne_iff_ne.mpr c51; (first | rw [c51b0] | (simp only [i64_w, i32_w]; rw [c51b0]) | skip)
                have H' := Z_ H; clear H; go_wp2; go_meet
                case rel => exact ⟨_, (true), (by first | rfl | (simp; done) | (simp [*]; done)), H', ⟨by have := HJ7.out; have := HJ27.out; first | omega | exact nR_ _⟩, ⟨by (with_reducible repeat (first | apply rA_ | apply rN_ | apply rD_)); exact rM_ HO1111.out (fun _ hk => hk.2)⟩, ⟨by (with_reducible repeat (first | apply rA_ | apply rN_ | apply rD_)); exact rM_ HO1116.out (fun _ hk => hk.2)⟩, ⟨by (with_reducible repeat (first | refine bN_ ?_ _ | refine bD_ ?_ | refine bA_ ?_ _)); exact BK1099.out⟩, ⟨by repeat (first | (with_reducible first | exact HB.out | apply fA_ | apply pB_ | apply fD_ | refine fE_ ?_ GE1099.out) | exact HB.out)⟩⟩
              case rest =>
                clear HC44; try clear c1
                try clear c2
                try clear p2
                try clear c3
                try clear c4
                try clear c5
                try clear c7
                try clear c12
                try clear c12b0
                try clear c12b1
                try clear c14
                try clear c21
                try clear c26
                try clear c29
                try clear c31
                try clear c31b0
                try clear c31b1
                try clear c33
                try clear c39
                try clear c41
                try clear c41b0
                try clear c41b1
                try clear c49
                try clear c51
                try clear c51b0
                try clear c51b1
                try clear c52
                try clear c52b0
                try clear c52b1
                try clear c53
                try clear c53b0
                try clear c53b1
                try clear c53b2
                try clear hcz15_0
                try clear hcz15_1
                try clear hcz17_0
                try clear hcz17_1
                try clear hcz19_0
                try clear hcz19_1
                try clear hcz20_0
                try clear hcz20_1
                try clear hcz22_0
                try clear hcz22_1
                try clear hcz24_0
                try clear hcz24_1
                try clear hcz29_0
                try clear hcz29_1
                try clear hcz35_0
                try clear hcz35_1
                try clear hcz37_0
                try clear hcz37_1
                try clear hcz45_0
                try clear hcz45_1
                try clear hcz47_0
                try clear hcz47_1
                try clear hcz49_0
                try clear hcz49_1
                try clear hfz15_0
                try clear hfz15_1
                try clear hfz17_0
                try clear hfz17_1
                try clear hfz19_0
                try clear hfz19_1
                try clear hfz20_0
                try clear hfz20_1
                try clear hfz22_0
                try clear hfz22_1
                try clear hfz24_0
                try clear hfz24_1
                try clear hfz29_0
                try clear hfz29_1
                try clear hfz35_0
                try clear hfz35_1
                try clear hfz37_0
                try clear hfz37_1
                try clear hfz45_0
                try clear hfz45_1
                try clear hfz47_0
                try clear hfz47_1
                try clear hfz49_0
                try clear hfz49_1
                try clear p2
                obtain ⟨kq, x101_43, rfl, HA, HJ43, HO_15, HO_18, BK1099, HB⟩ := hcut
                cases kq with
                | zero => exact absurd HA.out (by simp [snowlinelaw04_DiffsDuality.j2])
                | succ kj43 =>
                  have H := HA.out; clear HA; simp only [snowlinelaw04_DiffsDuality.j2] at H; by_cases c54 : x101_43 = true
                  · subst c54
                    have H1 : (some false) = some r := by rw [if_pos rfl] at H; exact H
                    clear H; have H := H1; clear H1; obtain rfl := oI_ H; go_wp2; go_ret; exact ⟨by first | rfl | (simp [errW_none, errW_some] <;> rfl) | (simp [*, errW_none, errW_some] <;> rfl), by repeat (first | (with_reducible first | exact HB.out | apply fA_ | apply pB_ | apply fD_ | refine fE_ ?_ GE1099.out) | exact HB.out)⟩
                  replace c54 := bE_.mpr c54; subst c54; have H1 : (if t1107 = true then ((snowlinelaw04_fulfils.f kj43 a0_0 l0_1 t1109).bind fun t1119 => (if t1119 = true then ((snowlineref04_Sum.f kj43 l1 t1109).bind fun t1120 => (if t1120 = t1106 then ((diffs_CheckFlow.f kj43 a0_0 l0_1 l1 t1106 t1114).bind fun t1121 => (snowlinelaw04_DiffsDuality.j3 kj43 l1 l2 a3 (t1103 == 0) t1106 (t1121 != 0) a0_0 l0_1)) else (snowlinelaw04_DiffsDuality.j3 kj43 l1 l2 a3 (t1103 == 0) t1106 true a0_0 l0_1))) else (snowlinelaw04_DiffsDuality.j3 kj43 l1 l2 a3 (t1103 == 0) t1106 true a0_0 l0_1))) else (if (t1103 == 0) = true then (some false) else (if (t1109.length : Int) = 0 then (some ((t1114.length : Int) == 0)) else (some false)))) = some r := by rw [if_neg (show ¬ (false = true) by decide)] at H; exact H
                  clear H; have H := H1; clear H1; by_cases c55 : t1107 = true
                  · subst c55
                    have H1 : ((snowlinelaw04_fulfils.f kj43 a0_0 l0_1 t1109).bind fun t1119 => (if t1119 = true then ((snowlineref04_Sum.f kj43 l1 t1109).bind fun t1120 => (if t1120 = t1106 then ((diffs_CheckFlow.f kj43 a0_0 l0_1 l1 t1106 t1114).bind fun t1121 => (snowlinelaw04_DiffsDuality.j3 kj43 l1 l2 a3 (t1103 == 0) t1106 (t1121 != 0) a0_0 l0_1)) else (snowlinelaw04_DiffsDuality.j3 kj43 l1 l2 a3 (t1103 == 0) t1106 true a0_0 l0_1))) else (snowlinelaw04_DiffsDuality.j3 kj43 l1 l2 a3 (t1103 == 0) t1106 true a0_0 l0_1))) = some r := by rw [if_pos rfl] at H; exact H
                    clear H; have H := H1; clear H1; have HC56 := Z_ H; clear H; go_upto_region 17 with (fail); go_cut [134] (fun v134 wc => ∃ (kq : Nat) (x134_55 : Bool), v134 = .bool x134_55 ∧ Aside0 (snowlinelaw04_DiffsDuality.j3 kq l1 l2 a3 (t1103 == 0) t1106 x134_55 a0_0 l0_1 = some r) ∧ Aside0 (kq ≤ kj43) ∧ Aside0 (wc.heap[gb1099]? = some (.cells #[.int .i64 a0_0, (.slice A0_1 l0_1.length c0_1)] 24 (0, 0))) ∧ Aside0 (Below w.heap.size w wc))
                    case first =>
                      have H := HC56.out; clear HC56; replace H := oS_.mp H; obtain ⟨t1119, A570, H⟩ := H; replace H : (if t1119 = true then ((snowlineref04_Sum.f kj43 l1 t1109).bind fun t1120 => (if t1120 = t1106 then ((diffs_CheckFlow.f kj43 a0_0 l0_1 l1 t1106 t1114).bind fun t1121 => (snowlinelaw04_DiffsDuality.j3 kj43 l1 l2 a3 (t1103 == 0) t1106 (t1121 != 0) a0_0 l0_1)) else (snowlinelaw04_DiffsDuality.j3 kj43 l1 l2 a3 (t1103 == 0) t1106 true a0_0 l0_1))) else (snowlinelaw04_DiffsDuality.j3 kj43 l1 l2 a3 (t1103 == 0) t1106 true a0_0 l0_1)) = some r := H; have A57 := Z_ A570; clear A570; by_cases c58 : t1119 = true
                      · subst c58
                        have H1 : ((snowlineref04_Sum.f kj43 l1 t1109).bind fun t1120 => (if t1120 = t1106 then ((diffs_CheckFlow.f kj43 a0_0 l0_1 l1 t1106 t1114).bind fun t1121 => (snowlinelaw04_DiffsDuality.j3 kj43 l1 l2 a3 (t1103 == 0) t1106 (t1121 != 0) a0_0 l0_1)) else (snowlinelaw04_DiffsDuality.j3 kj43 l1 l2 a3 (t1103 == 0) t1106 true a0_0 l0_1))) = some r := by rw [if_pos rfl] at H; exact H
                        clear H; have H := H1; clear H1; replace H := oS_.mp H; obtain ⟨t1120, A590, H⟩ := H; replace H : (if t1120 = t1106 then ((diffs_CheckFlow.f kj43 a0_0 l0_1 l1 t1106 t1114).bind fun t1121 => (snowlinelaw04_DiffsDuality.j3 kj43 l1 l2 a3 (t1103 == 0) t1106 (t1121 != 0) a0_0 l0_1)) else (snowlinelaw04_DiffsDuality.j3 kj43 l1 l2 a3 (t1103 == 0) t1106 true a0_0 l0_1)) = some r := H; have A59 := Z_ A590; clear A590; by_cases c60 : t1120 = t1106
                        · rw [if_pos c60] at H
                          have c60b0 : (t1120 == t1106) = true := beq_iff_eq.mpr c60; have c60b1 : (t1120 != t1106) = false := bne_eq_false_iff_eq.mpr c60; clear c60; (first | rw [c60b0] | (simp only [i64_w, i32_w]; rw [c60b0]) | skip)
                          replace H := oS_.mp H; obtain ⟨t1121, A610, H⟩ := H; replace H : (snowlinelaw04_DiffsDuality.j3 kj43 l1 l2 a3 (t1103 == 0) t1106 (t1121 != 0) a0_0 l0_1) = some r := H; have A61 := Z_ A610; clear A610; have H' := Z_ H; clear H; have hcz62_0 : wc.cell? ⟨gb1099, 0, none⟩ = some (.int .i64 a0_0) := (bC_ BK1099.out 0).trans rfl; have hcz62_1 : wc.cell? ⟨gb1099, 1, none⟩ = some (.slice A0_1 l0_1.length c0_1) := (bC_ BK1099.out 1).trans rfl; have hfz62_0 := bF_ BK1099.out 0; have hfz62_1 := bF_ BK1099.out 1; obtain ⟨Ao63, co63, eo63⟩ := rS_ HO_15.out; subst eo63; go_wp2_with (first | ((with_reducible refine gate_callee (f := 48) rfl ?_); refine goesL_ (some 118) rfl rfl Try.func48 (by kernel_rfl) rfl #[.agg #[.int .i64 a0_0, .slice A0_1 l0_1.length c0_1], .slice Ao63 t1109.length co63] rfl (by (try simp only [mT_, mC_, mN_]); first | done | rfl | (simp only [lD_, lT_]; rfl)) ?_; (with_reducible refine (snowlinelaw04_fulfils.calls kj43 a0_0 _ _ l0_1 _ _ t1109 true _ ?side1 ?side2 ?side3 ?side4 A57.out).mono ?_); (case side1 => repeat (first | exact (cB_ HR0_1.out HB.out) | (with_reducible refine Kd.C_alloc ?_ _) | (with_reducible refine Kd.C_drewN ?_ _) | (with_reducible refine Kd.C_drew ?_))); (case side2 => exact HC0_1.out); (case side3 => repeat (first | exact (rR_ HO_15.out).2.2 | (with_reducible refine Kd.C_alloc ?_ _) | (with_reducible refine Kd.C_drewN ?_ _) | (with_reducible refine Kd.C_drew ?_))); (case side4 => exact (rR_ HO_15.out).2.1); rintro e w64 ⟨rfl, hb⟩; refine ⟨_, rfl, ?_⟩; have n0_ := Z_ (rB_ (by (with_reducible repeat (first | apply rA_ | apply rN_ | apply rD_)); exact HO_15.out) hb); have n1_ := Z_ (rB_ (by (with_reducible repeat (first | apply rA_ | apply rN_ | apply rD_)); exact HO_18.out) hb); have n2_ := Z_ (bB_ (g := gb1099) (o := .cells #[.int .i64 a0_0, .slice A0_1 l0_1.length c0_1] 24 (0, 0)) (by (with_reducible repeat (first | refine bN_ ?_ _ | refine bD_ ?_ | refine bA_ ?_ _)); exact BK1099.out) hb); have n3_ := Z_ (fS_ (by repeat (first | (with_reducible first | exact HB.out | apply fA_ | apply pB_ | apply fD_ | refine fE_ ?_ GE1099.out) | exact HB.out)) hb); clear HO_15; clear HO_18; clear BK1099; clear HB; have HO_15 := n0_; have HO_18 := n1_; have BK1099 := n2_; have HB := n3_; clear n0_ n1_ n2_ n3_; (try clear hb); (try clear hb2); (try clear hk); (try clear hi)) | (go_at_call 54; (with_reducible refine (snowlineref04_Sum.calls kj43 _ _ l1 _ _ t1109 t1120 _ ?side1 ?side2 ?side3 ?side4 A59.out).mono ?_); (case side1 => repeat (first | exact (cB_ HR1.out HB.out) | (with_reducible refine Kd.C_alloc ?_ _) | (with_reducible refine Kd.C_drewN ?_ _) | (with_reducible refine Kd.C_drew ?_))); (case side2 => exact HC1.out); (case side3 => repeat (first | exact (rR_ HO_15.out).2.2 | (with_reducible refine Kd.C_alloc ?_ _) | (with_reducible refine Kd.C_drewN ?_ _) | (with_reducible refine Kd.C_drew ?_))); (case side4 => exact (rR_ HO_15.out).2.1); rintro e w' ⟨rfl, ⟨nd, rfl⟩⟩; have hcz65_0 : w64.cell? ⟨gb1099, 0, none⟩ = some (.int .i64 a0_0) := (bC_ BK1099.out 0).trans rfl; have hcz65_1 : w64.cell? ⟨gb1099, 1, none⟩ = some (.slice A0_1 l0_1.length c0_1) := (bC_ BK1099.out 1).trans rfl; have hfz65_0 := bF_ BK1099.out 0; have hfz65_1 := bF_ BK1099.out 1; obtain ⟨Ao66, co66, eo66⟩ := rS_ HO_18.out; subst eo66) | (go_at_call 49; (with_reducible refine (diffs_CheckFlow.calls kj43 a0_0 _ _ l0_1 _ _ l1 t1106 _ _ t1114 t1121 _ ?side1 ?side2 ?side3 ?side4 ?side5 ?side6 A61.out).mono ?_); (case side1 => repeat (first | exact (cB_ HR0_1.out (by repeat (first | (with_reducible first | exact HB.out | apply fA_ | apply pB_ | apply fD_ | refine fE_ ?_ GE1099.out) | exact HB.out))) | (with_reducible refine Kd.C_alloc ?_ _) | (with_reducible refine Kd.C_drewN ?_ _) | (with_reducible refine Kd.C_drew ?_))); (case side2 => exact HC0_1.out); (case side3 => repeat (first | exact (cB_ HR1.out (by repeat (first | (with_reducible first | exact HB.out | apply fA_ | apply pB_ | apply fD_ | refine fE_ ?_ GE1099.out) | exact HB.out))) | (with_reducible refine Kd.C_alloc ?_ _) | (with_reducible refine Kd.C_drewN ?_ _) | (with_reducible refine Kd.C_drew ?_))); (case side4 => exact HC1.out); (case side5 => repeat (first | exact (rR_ HO_18.out).2.2 | (with_reducible refine Kd.C_alloc ?_ _) | (with_reducible refine Kd.C_drewN ?_ _) | (with_reducible refine Kd.C_drew ?_))); (case side6 => exact (rR_ HO_18.out).2.1); rintro e w67 ⟨rfl, hb⟩; have n0_ := Z_ (rB_ (by (with_reducible repeat (first | apply rA_ | apply rN_ | apply rD_)); exact HO_15.out) hb); have n1_ := Z_ (rB_ (by (with_reducible repeat (first | apply rA_ | apply rN_ | apply rD_)); exact HO_18.out) hb); have n2_ := Z_ (bB_ (g := gb1099) (o := .cells #[.int .i64 a0_0, .slice A0_1 l0_1.length c0_1] 24 (0, 0)) (by (with_reducible repeat (first | refine bN_ ?_ _ | refine bD_ ?_ | refine bA_ ?_ _)); exact BK1099.out) hb); have n3_ := Z_ (fS_ (by repeat (first | (with_reducible first | exact HB.out | apply fA_ | apply pB_ | apply fD_ | refine fE_ ?_ GE1099.out) | exact HB.out)) hb); clear HO_15; clear HO_18; clear BK1099; clear HB; have HO_15 := n0_; have HO_18 := n1_; have BK1099 := n2_; have HB := n3_; clear n0_ n1_ n2_ n3_; (try clear hb); (try clear hb2); (try clear hk); (try clear hi))); go_meet
                          case rel => exact ⟨_, ((t1121 != 0)), (by first | rfl | (simp; done) | (simp [*]; done)), H', ⟨by have := HJ7.out; have := HJ27.out; have := HJ43.out; first | omega | exact nR_ _⟩, ⟨by (with_reducible repeat (first | refine bN_ ?_ _ | refine bD_ ?_ | refine bA_ ?_ _)); exact BK1099.out⟩, ⟨by repeat (first | (with_reducible first | exact HB.out | apply fA_ | apply pB_ | apply fD_ | refine fE_ ?_ GE1099.out) | exact HB.out)⟩⟩
                        rw [if_neg c60] at H; have c60b0 : (t1120 == t1106) = false := beq_eq_false_iff_ne.mpr c60; have c60b1 : (t1120 != t1106) = true := bne_iff_ne.mpr c60; (first | rw [c60b0] | (simp only [i64_w, i32_w]; rw [c60b0]) | skip)
                        have H' := Z_ H; clear H; have hcz68_0 : wc.cell? ⟨gb1099, 0, none⟩ = some (.int .i64 a0_0) := (bC_ BK1099.out 0).trans rfl; have hcz68_1 : wc.cell? ⟨gb1099, 1, none⟩ = some (.slice A0_1 l0_1.length c0_1) := (bC_ BK1099.out 1).trans rfl; have hfz68_0 := bF_ BK1099.out 0; have hfz68_1 := bF_ BK1099.out 1; obtain ⟨Ao69, co69, eo69⟩ := rS_ HO_15.out; subst eo69; go_wp2_with (first | ((with_reducible refine gate_callee (f := 48) rfl ?_); refine goesL_ (some 118) rfl rfl Try.func48 (by kernel_rfl) rfl #[.agg #[.int .i64 a0_0, .slice A0_1 l0_1.length c0_1], .slice Ao69 t1109.length co69] rfl (by (try simp only [mT_, mC_, mN_]); first | done | rfl | (simp only [lD_, lT_]; rfl)) ?_; (with_reducible refine (snowlinelaw04_fulfils.calls kj43 a0_0 _ _ l0_1 _ _ t1109 true _ ?side1 ?side2 ?side3 ?side4 A57.out).mono ?_); (case side1 => repeat (first | exact (cB_ HR0_1.out HB.out) | (with_reducible refine Kd.C_alloc ?_ _) | (with_reducible refine Kd.C_drewN ?_ _) | (with_reducible refine Kd.C_drew ?_))); (case side2 => exact HC0_1.out); (case side3 => repeat (first | exact (rR_ HO_15.out).2.2 | (with_reducible refine Kd.C_alloc ?_ _) | (with_reducible refine Kd.C_drewN ?_ _) | (with_reducible refine Kd.C_drew ?_))); (case side4 => exact (rR_ HO_15.out).2.1); rintro e w70 ⟨rfl, hb⟩; refine ⟨_, rfl, ?_⟩; have n0_ := Z_ (rB_ (by (with_reducible repeat (first | apply rA_ | apply rN_ | apply rD_)); exact HO_15.out) hb); have n1_ := Z_ (rB_ (by (with_reducible repeat (first | apply rA_ | apply rN_ | apply rD_)); exact HO_18.out) hb); have n2_ := Z_ (bB_ (g := gb1099) (o := .cells #[.int .i64 a0_0, .slice A0_1 l0_1.length c0_1] 24 (0, 0)) (by (with_reducible repeat (first | refine bN_ ?_ _ | refine bD_ ?_ | refine bA_ ?_ _)); exact BK1099.out) hb); have n3_ := Z_ (fS_ (by repeat (first | (with_reducible first | exact HB.out | apply fA_ | apply pB_ | apply fD_ | refine fE_ ?_ GE1099.out) | exact HB.out)) hb); clear HO_15; clear HO_18; clear BK1099; clear HB; have HO_15 := n0_; have HO_18 := n1_; have BK1099 := n2_; have HB := n3_; clear n0_ n1_ n2_ n3_; (try clear hb); (try clear hb2); (try clear hk); (try clear hi)) | (go_at_call 54; (with_reducible refine (snowlineref04_Sum.calls kj43 _ _ l1 _ _ t1109 t1120 _ ?side1 ?side2 ?side3 ?side4 A59.out).mono ?_); (case side1 => repeat (first | exact (cB_ HR1.out HB.out) | (with_reducible refine Kd.C_alloc ?_ _) | (with_reducible refine Kd.C_drewN ?_ _) | (with_reducible refine Kd.C_drew ?_))); (case side2 => exact HC1.out); (case side3 => repeat (first | exact (rR_ HO_15.out).2.2 | (with_reducible refine Kd.C_alloc ?_ _) | (with_reducible refine Kd.C_drewN ?_ _) | (with_reducible refine Kd.C_drew ?_))); (case side4 => exact (rR_ HO_15.out).2.1); rintro e w' ⟨rfl, ⟨nd, rfl⟩⟩)); go_meet
                        case rel => exact ⟨_, (true), (by first | rfl | (simp; done) | (simp [*]; done)), H', ⟨by have := HJ7.out; have := HJ27.out; have := HJ43.out; first | omega | exact nR_ _⟩, ⟨by (with_reducible repeat (first | refine bN_ ?_ _ | refine bD_ ?_ | refine bA_ ?_ _)); exact BK1099.out⟩, ⟨by repeat (first | (with_reducible first | exact HB.out | apply fA_ | apply pB_ | apply fD_ | refine fE_ ?_ GE1099.out) | exact HB.out)⟩⟩
                      replace c58 := bE_.mpr c58; subst c58; have H1 : (snowlinelaw04_DiffsDuality.j3 kj43 l1 l2 a3 (t1103 == 0) t1106 true a0_0 l0_1) = some r := by rw [if_neg (show ¬ (false = true) by decide)] at H; exact H
                      clear H; have H := H1; clear H1; have H' := Z_ H; clear H; have hcz71_0 : wc.cell? ⟨gb1099, 0, none⟩ = some (.int .i64 a0_0) := (bC_ BK1099.out 0).trans rfl; have hcz71_1 : wc.cell? ⟨gb1099, 1, none⟩ = some (.slice A0_1 l0_1.length c0_1) := (bC_ BK1099.out 1).trans rfl; have hfz71_0 := bF_ BK1099.out 0; have hfz71_1 := bF_ BK1099.out 1; obtain ⟨Ao72, co72, eo72⟩ := rS_ HO_15.out; subst eo72; go_wp2_with (first | ((with_reducible refine gate_callee (f := 48) rfl ?_); refine goesL_ (some 118) rfl rfl Try.func48 (by kernel_rfl) rfl #[.agg #[.int .i64 a0_0, .slice A0_1 l0_1.length c0_1], .slice Ao72 t1109.length co72] rfl (by (try simp only [mT_, mC_, mN_]); first | done | rfl | (simp only [lD_, lT_]; rfl)) ?_; (with_reducible refine (snowlinelaw04_fulfils.calls kj43 a0_0 _ _ l0_1 _ _ t1109 false _ ?side1 ?side2 ?side3 ?side4 A57.out).mono ?_); (case side1 => repeat (first | exact (cB_ HR0_1.out HB.out) | (with_reducible refine Kd.C_alloc ?_ _) | (with_reducible refine Kd.C_drewN ?_ _) | (with_reducible refine Kd.C_drew ?_))); (case side2 => exact HC0_1.out); (case side3 => repeat (first | exact (rR_ HO_15.out).2.2 | (with_reducible refine Kd.C_alloc ?_ _) | (with_reducible refine Kd.C_drewN ?_ _) | (with_reducible refine Kd.C_drew ?_))); (case side4 => exact (rR_ HO_15.out).2.1); rintro e w73 ⟨rfl, hb⟩; refine ⟨_, rfl, ?_⟩; have n0_ := Z_ (rB_ (by (with_reducible repeat (first | apply rA_ | apply rN_ | apply rD_)); exact HO_15.out) hb); have n1_ := Z_ (rB_ (by (with_reducible repeat (first | apply rA_ | apply rN_ | apply rD_)); exact HO_18.out) hb); have n2_ := Z_ (bB_ (g := gb1099) (o := .cells #[.int .i64 a0_0, .slice A0_1 l0_1.length c0_1] 24 (0, 0)) (by (with_reducible repeat (first | refine bN_ ?_ _ | refine bD_ ?_ | refine bA_ ?_ _)); exact BK1099.out) hb); have n3_ := Z_ (fS_ (by repeat (first | (with_reducible first | exact HB.out | apply fA_ | apply pB_ | apply fD_ | refine fE_ ?_ GE1099.out) | exact HB.out)) hb); clear HO_15; clear HO_18; clear BK1099; clear HB; have HO_15 := n0_; have HO_18 := n1_; have BK1099 := n2_; have HB := n3_; clear n0_ n1_ n2_ n3_; (try clear hb); (try clear hb2); (try clear hk); (try clear hi))); go_meet
                      case rel => exact ⟨_, (true), (by first | rfl | (simp; done) | (simp [*]; done)), H', ⟨by have := HJ7.out; have := HJ27.out; have := HJ43.out; first | omega | exact nR_ _⟩, ⟨by (with_reducible repeat (first | refine bN_ ?_ _ | refine bD_ ?_ | refine bA_ ?_ _)); exact BK1099.out⟩, ⟨by repeat (first | (with_reducible first | exact HB.out | apply fA_ | apply pB_ | apply fD_ | refine fE_ ?_ GE1099.out) | exact HB.out)⟩⟩
                    case rest =>
                      clear HC56; try clear c1
                      try clear c2
                      try clear p2
                      try clear c3
                      try clear c4
                      try clear c5
                      try clear c6
                      try clear c7
                      try clear c12
                      try clear c12b0
                      try clear c12b1
                      try clear c14
                      try clear c21
                      try clear c26
                      try clear c29
                      try clear c31
                      try clear c31b0
                      try clear c31b1
                      try clear c33
                      try clear c39
                      try clear c41
                      try clear c41b0
                      try clear c41b1
                      try clear c48
                      try clear c49
                      try clear c51
                      try clear c51b0
                      try clear c51b1
                      try clear c52
                      try clear c52b0
                      try clear c52b1
                      try clear c53
                      try clear c53b0
                      try clear c53b1
                      try clear c53b2
                      try clear c54
                      try clear c55
                      try clear c58
                      try clear c60
                      try clear c60b0
                      try clear c60b1
                      try clear hcz15_0
                      try clear hcz15_1
                      try clear hcz17_0
                      try clear hcz17_1
                      try clear hcz19_0
                      try clear hcz19_1
                      try clear hcz20_0
                      try clear hcz20_1
                      try clear hcz22_0
                      try clear hcz22_1
                      try clear hcz24_0
                      try clear hcz24_1
                      try clear hcz29_0
                      try clear hcz29_1
                      try clear hcz35_0
                      try clear hcz35_1
                      try clear hcz37_0
                      try clear hcz37_1
                      try clear hcz45_0
                      try clear hcz45_1
                      try clear hcz47_0
                      try clear hcz47_1
                      try clear hcz49_0
                      try clear hcz49_1
                      try clear hcz62_0
                      try clear hcz62_1
                      try clear hcz65_0
                      try clear hcz65_1
                      try clear hcz68_0
                      try clear hcz68_1
                      try clear hcz71_0
                      try clear hcz71_1
                      try clear hfz15_0
                      try clear hfz15_1
                      try clear hfz17_0
                      try clear hfz17_1
                      try clear hfz19_0
                      try clear hfz19_1
                      try clear hfz20_0
                      try clear hfz20_1
                      try clear hfz22_0
                      try clear hfz22_1
                      try clear hfz24_0
                      try clear hfz24_1
                      try clear hfz29_0
                      try clear hfz29_1
                      try clear hfz35_0
                      try clear hfz35_1
                      try clear hfz37_0
                      try clear hfz37_1
                      try clear hfz45_0
                      try clear hfz45_1
                      try clear hfz47_0
                      try clear hfz47_1
                      try clear hfz49_0
                      try clear hfz49_1
                      try clear hfz62_0
                      try clear hfz62_1
                      try clear hfz65_0
                      try clear hfz65_1
                      try clear hfz68_0
                      try clear hfz68_1
                      try clear hfz71_0
                      try clear hfz71_1
                      try clear p2
                      obtain ⟨kq, x134_55, rfl, HA, HJ55, BK1099, HB⟩ := hcut
                      cases kq with
                      | zero => exact absurd HA.out (by simp [snowlinelaw04_DiffsDuality.j3])
                      | succ kj55 =>
                        have H := HA.out; clear HA; simp only [snowlinelaw04_DiffsDuality.j3] at H; by_cases c74 : x134_55 = true
                        · subst c74
                          have H1 : (some false) = some r := by rw [if_pos rfl] at H; exact H
                          clear H; have H := H1; clear H1; obtain rfl := oI_ H; go_wp2; go_ret; exact ⟨by first | rfl | (simp [errW_none, errW_some] <;> rfl) | (simp [*, errW_none, errW_some] <;> rfl), by repeat (first | (with_reducible first | exact HB.out | apply fA_ | apply pB_ | apply fD_ | refine fE_ ?_ GE1099.out) | exact HB.out)⟩
                        replace c74 := bE_.mpr c74; subst c74; have H1 : (if (t1103 == 0) = true then (if a3 ≥ t1106 then ((snowlinelaw04_fulfils.f kj55 a0_0 l0_1 l2).bind fun t1122 => (if t1122 = true then ((snowlineref04_Sum.f kj55 l1 l2).bind fun t1123 => (some (decide (t1123 ≤ t1106)))) else (some true))) else (some false)) else ((snowlinelaw04_fulfils.f kj55 a0_0 l0_1 l2).bind fun t1124 => (if t1124 = true then ((snowlineref04_Sum.f kj55 l1 l2).bind fun t1125 => (some (decide (t1125 ≤ t1106)))) else (some true)))) = some r := by rw [if_neg (show ¬ (false = true) by decide)] at H; exact H
                        clear H; have H := H1; clear H1; by_cases c75 : (t1103 == 0) = true
                        · rw [if_pos c75] at H
                          have c75b0 : (t1103 == 0) = true := c75; (try (have c75b1 : decide (t1103 = 0) = true := by simpa using c75))
                          (try (have c75b2 : (t1103 == 0) = true := by simpa using c75))
                          clear c75; by_cases c76 : a3 ≥ t1106
                          · rw [if_pos c76] at H
                            have c76b0 : decide (t1106 ≤ a3) = true := eT_ c76; clear c76; replace H := oS_.mp H; obtain ⟨t1122, A770, H⟩ := H; replace H : (if t1122 = true then ((snowlineref04_Sum.f kj55 l1 l2).bind fun t1123 => (some (decide (t1123 ≤ t1106)))) else (some true)) = some r := H; have A77 := Z_ A770; clear A770; by_cases c78 : t1122 = true
                            · subst c78
                              have H1 : ((snowlineref04_Sum.f kj55 l1 l2).bind fun t1123 => (some (decide (t1123 ≤ t1106)))) = some r := by rw [if_pos rfl] at H; exact H
                              clear H; have H := H1; clear H1; replace H := oS_.mp H; obtain ⟨t1123, A790, H⟩ := H; replace H : (some (decide (t1123 ≤ t1106))) = some r := H; have A79 := Z_ A790; clear A790; obtain rfl := oI_ H; have hcz80_0 : wc.cell? ⟨gb1099, 0, none⟩ = some (.int .i64 a0_0) := (bC_ BK1099.out 0).trans rfl; have hcz80_1 : wc.cell? ⟨gb1099, 1, none⟩ = some (.slice A0_1 l0_1.length c0_1) := (bC_ BK1099.out 1).trans rfl; have hfz80_0 := bF_ BK1099.out 0; have hfz80_1 := bF_ BK1099.out 1; go_wp2_with (first | (go_at_call 48; (with_reducible refine (snowlinelaw04_fulfils.calls kj55 a0_0 _ _ l0_1 _ _ l2 true _ ?side1 ?side2 ?side3 ?side4 A77.out).mono ?_); (case side1 => repeat (first | exact (cB_ HR0_1.out HB.out) | (with_reducible refine Kd.C_alloc ?_ _) | (with_reducible refine Kd.C_drewN ?_ _) | (with_reducible refine Kd.C_drew ?_))); (case side2 => exact HC0_1.out); (case side3 => repeat (first | exact (cB_ HR2.out HB.out) | (with_reducible refine Kd.C_alloc ?_ _) | (with_reducible refine Kd.C_drewN ?_ _) | (with_reducible refine Kd.C_drew ?_))); (case side4 => exact HC2.out); rintro e w81 ⟨rfl, hb⟩; have n0_ := Z_ (bB_ (g := gb1099) (o := .cells #[.int .i64 a0_0, .slice A0_1 l0_1.length c0_1] 24 (0, 0)) (by (with_reducible repeat (first | refine bN_ ?_ _ | refine bD_ ?_ | refine bA_ ?_ _)); exact BK1099.out) hb); have n1_ := Z_ (fS_ (by repeat (first | (with_reducible first | exact HB.out | apply fA_ | apply pB_ | apply fD_ | refine fE_ ?_ GE1099.out) | exact HB.out)) hb); clear BK1099; clear HB; have BK1099 := n0_; have HB := n1_; clear n0_ n1_; (try clear hb); (try clear hb2); (try clear hk); (try clear hi)) | (go_at_call 54; (with_reducible refine (snowlineref04_Sum.calls kj55 _ _ l1 _ _ l2 t1123 _ ?side1 ?side2 ?side3 ?side4 A79.out).mono ?_); (case side1 => repeat (first | exact (cB_ HR1.out HB.out) | (with_reducible refine Kd.C_alloc ?_ _) | (with_reducible refine Kd.C_drewN ?_ _) | (with_reducible refine Kd.C_drew ?_))); (case side2 => exact HC1.out); (case side3 => repeat (first | exact (cB_ HR2.out HB.out) | (with_reducible refine Kd.C_alloc ?_ _) | (with_reducible refine Kd.C_drewN ?_ _) | (with_reducible refine Kd.C_drew ?_))); (case side4 => exact HC2.out); rintro e w' ⟨rfl, ⟨nd, rfl⟩⟩)); go_ret; exact ⟨by first | rfl | (simp [errW_none, errW_some] <;> rfl) | (simp [*, errW_none, errW_some] <;> rfl), by repeat (first | (with_reducible first | exact HB.out | apply fA_ | apply pB_ | apply fD_ | refine fE_ ?_ GE1099.out) | exact HB.out)⟩
                            replace c78 := bE_.mpr c78; subst c78; have H1 : (some true) = some r := by rw [if_neg (show ¬ (false = true) by decide)] at H; exact H
                            clear H; have H := H1; clear H1; obtain rfl := oI_ H; have hcz82_0 : wc.cell? ⟨gb1099, 0, none⟩ = some (.int .i64 a0_0) := (bC_ BK1099.out 0).trans rfl; have hcz82_1 : wc.cell? ⟨gb1099, 1, none⟩ = some (.slice A0_1 l0_1.length c0_1) := (bC_ BK1099.out 1).trans rfl; have hfz82_0 := bF_ BK1099.out 0; have hfz82_1 := bF_ BK1099.out 1; go_wp2_with (first | (go_at_call 48; (with_reducible refine (snowlinelaw04_fulfils.calls kj55 a0_0 _ _ l0_1 _ _ l2 false _ ?side1 ?side2 ?side3 ?side4 A77.out).mono ?_); (case side1 => repeat (first | exact (cB_ HR0_1.out HB.out) | (with_reducible refine Kd.C_alloc ?_ _) | (with_reducible refine Kd.C_drewN ?_ _) | (with_reducible refine Kd.C_drew ?_))); (case side2 => exact HC0_1.out); (case side3 => repeat (first | exact (cB_ HR2.out HB.out) | (with_reducible refine Kd.C_alloc ?_ _) | (with_reducible refine Kd.C_drewN ?_ _) | (with_reducible refine Kd.C_drew ?_))); (case side4 => exact HC2.out); rintro e w83 ⟨rfl, hb⟩; have n0_ := Z_ (bB_ (g := gb1099) (o := .cells #[.int .i64 a0_0, .slice A0_1 l0_1.length c0_1] 24 (0, 0)) (by (with_reducible repeat (first | refine bN_ ?_ _ | refine bD_ ?_ | refine bA_ ?_ _)); exact BK1099.out) hb); have n1_ := Z_ (fS_ (by repeat (first | (with_reducible first | exact HB.out | apply fA_ | apply pB_ | apply fD_ | refine fE_ ?_ GE1099.out) | exact HB.out)) hb); clear BK1099; clear HB; have BK1099 := n0_; have HB := n1_; clear n0_ n1_; (try clear hb); (try clear hb2); (try clear hk); (try clear hi))); go_ret; exact ⟨by first | rfl | (simp [errW_none, errW_some] <;> rfl) | (simp [*, errW_none, errW_some] <;> rfl), by repeat (first | (with_reducible first | exact HB.out | apply fA_ | apply pB_ | apply fD_ | refine fE_ ?_ GE1099.out) | exact HB.out)⟩
                          rw [if_neg c76] at H; have c76b0 : decide (t1106 ≤ a3) = false := eF_ c76; clear c76; obtain rfl := oI_ H; go_wp2; go_ret; exact ⟨by first | rfl | (simp [errW_none, errW_some] <;> rfl) | (simp [*, errW_none, errW_some] <;> rfl), by repeat (first | (with_reducible first | exact HB.out | apply fA_ | apply pB_ | apply fD_ | refine fE_ ?_ GE1099.out) | exact HB.out)⟩
                        rw [if_neg c75] at H; have c75b0 : (t1103 == 0) = false := by simpa using c75
                        (try (have c75b1 : decide (t1103 = 0) = false := by simpa using c75))
                        (try (have c75b2 : (t1103 == 0) = false := by simpa using c75))
                        (try (have c75b3 : ¬ (t1103 = 0) := by simpa using c75))
                        clear c75; replace H := oS_.mp H; obtain ⟨t1124, A840, H⟩ := H; replace H : (if t1124 = true then ((snowlineref04_Sum.f kj55 l1 l2).bind fun t1125 => (some (decide (t1125 ≤ t1106)))) else (some true)) = some r := H; have A84 := Z_ A840; clear A840; by_cases c85 : t1124 = true
                        · subst c85
                          have H1 : ((snowlineref04_Sum.f kj55 l1 l2).bind fun t1125 => (some (decide (t1125 ≤ t1106)))) = some r := by rw [if_pos rfl] at H; exact H
                          clear H; have H := H1; clear H1; replace H := oS_.mp H; obtain ⟨t1125, A860, H⟩ := H; replace H : (some (decide (t1125 ≤ t1106))) = some r := H; have A86 := Z_ A860; clear A860; obtain rfl := oI_ H; have hcz87_0 : wc.cell? ⟨gb1099, 0, none⟩ = some (.int .i64 a0_0) := (bC_ BK1099.out 0).trans rfl; have hcz87_1 : wc.cell? ⟨gb1099, 1, none⟩ = some (.slice A0_1 l0_1.length c0_1) := (bC_ BK1099.out 1).trans rfl; have hfz87_0 := bF_ BK1099.out 0; have hfz87_1 := bF_ BK1099.out 1; go_wp2_with (first | (go_at_call 48; (with_reducible refine (snowlinelaw04_fulfils.calls kj55 a0_0 _ _ l0_1 _ _ l2 true _ ?side1 ?side2 ?side3 ?side4 A84.out).mono ?_); (case side1 => repeat (first | exact (cB_ HR0_1.out HB.out) | (with_reducible refine Kd.C_alloc ?_ _) | (with_reducible refine Kd.C_drewN ?_ _) | (with_reducible refine Kd.C_drew ?_))); (case side2 => exact HC0_1.out); (case side3 => repeat (first | exact (cB_ HR2.out HB.out) | (with_reducible refine Kd.C_alloc ?_ _) | (with_reducible refine Kd.C_drewN ?_ _) | (with_reducible refine Kd.C_drew ?_))); (case side4 => exact HC2.out); rintro e w88 ⟨rfl, hb⟩; have n0_ := Z_ (bB_ (g := gb1099) (o := .cells #[.int .i64 a0_0, .slice A0_1 l0_1.length c0_1] 24 (0, 0)) (by (with_reducible repeat (first | refine bN_ ?_ _ | refine bD_ ?_ | refine bA_ ?_ _)); exact BK1099.out) hb); have n1_ := Z_ (fS_ (by repeat (first | (with_reducible first | exact HB.out | apply fA_ | apply pB_ | apply fD_ | refine fE_ ?_ GE1099.out) | exact HB.out)) hb); clear BK1099; clear HB; have BK1099 := n0_; have HB := n1_; clear n0_ n1_; (try clear hb); (try clear hb2); (try clear hk); (try clear hi)) | (go_at_call 54; (with_reducible refine (snowlineref04_Sum.calls kj55 _ _ l1 _ _ l2 t1125 _ ?side1 ?side2 ?side3 ?side4 A86.out).mono ?_); (case side1 => repeat (first | exact (cB_ HR1.out HB.out) | (with_reducible refine Kd.C_alloc ?_ _) | (with_reducible refine Kd.C_drewN ?_ _) | (with_reducible refine Kd.C_drew ?_))); (case side2 => exact HC1.out); (case side3 => repeat (first | exact (cB_ HR2.out HB.out) | (with_reducible refine Kd.C_alloc ?_ _) | (with_reducible refine Kd.C_drewN ?_ _) | (with_reducible refine Kd.C_drew ?_))); (case side4 => exact HC2.out); rintro e w' ⟨rfl, ⟨nd, rfl⟩⟩)); go_ret; exact ⟨by first | rfl | (simp [errW_none, errW_some] <;> rfl) | (simp [*, errW_none, errW_some] <;> rfl), by repeat (first | (with_reducible first | exact HB.out | apply fA_ | apply pB_ | apply fD_ | refine fE_ ?_ GE1099.out) | exact HB.out)⟩
                        replace c85 := bE_.mpr c85; subst c85; have H1 : (some true) = some r := by rw [if_neg (show ¬ (false = true) by decide)] at H; exact H
                        clear H; have H := H1; clear H1; obtain rfl := oI_ H; have hcz89_0 : wc.cell? ⟨gb1099, 0, none⟩ = some (.int .i64 a0_0) := (bC_ BK1099.out 0).trans rfl; have hcz89_1 : wc.cell? ⟨gb1099, 1, none⟩ = some (.slice A0_1 l0_1.length c0_1) := (bC_ BK1099.out 1).trans rfl; have hfz89_0 := bF_ BK1099.out 0; have hfz89_1 := bF_ BK1099.out 1; go_wp2_with (first | (go_at_call 48; (with_reducible refine (snowlinelaw04_fulfils.calls kj55 a0_0 _ _ l0_1 _ _ l2 false _ ?side1 ?side2 ?side3 ?side4 A84.out).mono ?_); (case side1 => repeat (first | exact (cB_ HR0_1.out HB.out) | (with_reducible refine Kd.C_alloc ?_ _) | (with_reducible refine Kd.C_drewN ?_ _) | (with_reducible refine Kd.C_drew ?_))); (case side2 => exact HC0_1.out); (case side3 => repeat (first | exact (cB_ HR2.out HB.out) | (with_reducible refine Kd.C_alloc ?_ _) | (with_reducible refine Kd.C_drewN ?_ _) | (with_reducible refine Kd.C_drew ?_))); (case side4 => exact HC2.out); rintro e w90 ⟨rfl, hb⟩; have n0_ := Z_ (bB_ (g := gb1099) (o := .cells #[.int .i64 a0_0, .slice A0_1 l0_1.length c0_1] 24 (0, 0)) (by (with_reducible repeat (first | refine bN_ ?_ _ | refine bD_ ?_ | refine bA_ ?_ _)); exact BK1099.out) hb); have n1_ := Z_ (fS_ (by repeat (first | (with_reducible first | exact HB.out | apply fA_ | apply pB_ | apply fD_ | refine fE_ ?_ GE1099.out) | exact HB.out)) hb); clear BK1099; clear HB; have BK1099 := n0_; have HB := n1_; clear n0_ n1_; (try clear hb); (try clear hb2); (try clear hk); (try clear hi))); go_ret; exact ⟨by first | rfl | (simp [errW_none, errW_some] <;> rfl) | (simp [*, errW_none, errW_some] <;> rfl), by repeat (first | (with_reducible first | exact HB.out | apply fA_ | apply pB_ | apply fD_ | refine fE_ ?_ GE1099.out) | exact HB.out)⟩
                  replace c55 := bE_.mpr c55; subst c55; have H1 : (if (t1103 == 0) = true then (some false) else (if (t1109.length : Int) = 0 then (some ((t1114.length : Int) == 0)) else (some false))) = some r := by rw [if_neg (show ¬ (false = true) by decide)] at H; exact H
                  clear H; have H := H1; clear H1; by_cases c91 : (t1103 == 0) = true
                  · rw [if_pos c91] at H
                    have c91b0 : (t1103 == 0) = true := c91; (try (have c91b1 : decide (t1103 = 0) = true := by simpa using c91))
                    (try (have c91b2 : (t1103 == 0) = true := by simpa using c91))
                    clear c91; obtain rfl := oI_ H; go_wp2; go_ret; exact ⟨by first | rfl | (simp [errW_none, errW_some] <;> rfl) | (simp [*, errW_none, errW_some] <;> rfl), by repeat (first | (with_reducible first | exact HB.out | apply fA_ | apply pB_ | apply fD_ | refine fE_ ?_ GE1099.out) | exact HB.out)⟩
                  rw [if_neg c91] at H; have c91b0 : (t1103 == 0) = false := by simpa using c91
                  (try (have c91b1 : decide (t1103 = 0) = false := by simpa using c91))
                  (try (have c91b2 : (t1103 == 0) = false := by simpa using c91))
                  (try (have c91b3 : ¬ (t1103 = 0) := by simpa using c91))
                  clear c91; by_cases c92 : (t1109.length : Int) = 0
                  · rw [if_pos c92] at H
                    have c92b0 : ((t1109.length : Int) == 0) = true := beq_iff_eq.mpr c92; have c92b1 : ((t1109.length : Int) != 0) = false := bne_eq_false_iff_eq.mpr c92; clear c92; obtain rfl := oI_ H; obtain ⟨Ao93, co93, eo93⟩ := rS_ HO_15.out; subst eo93; obtain ⟨Ao94, co94, eo94⟩ := rS_ HO_18.out; subst eo94; go_wp2; go_ret; exact ⟨by first | rfl | (simp [errW_none, errW_some] <;> rfl) | (simp [*, errW_none, errW_some] <;> rfl), by repeat (first | (with_reducible first | exact HB.out | apply fA_ | apply pB_ | apply fD_ | refine fE_ ?_ GE1099.out) | exact HB.out)⟩
                  rw [if_neg c92] at H; have c92b0 : ((t1109.length : Int) == 0) = false := beq_eq_false_iff_ne.mpr c92; have c92b1 : ((t1109.length : Int) != 0) = true := bne_iff_ne.mpr c92; have c92b2 : ¬ (t1109 = []) := fun h_ => c92 (by rw [h_]; rfl)
                  obtain rfl := oI_ H; obtain ⟨Ao95, co95, eo95⟩ := rS_ HO_15.out; subst eo95; go_wp2; go_ret; exact ⟨by first | rfl | (simp [errW_none, errW_some] <;> rfl) | (simp [*, errW_none, errW_some] <;> rfl), by repeat (first | (with_reducible first | exact HB.out | apply fA_ | apply pB_ | apply fD_ | refine fE_ ?_ GE1099.out) | exact HB.out)⟩
            rw [if_neg c41] at H; have c41b0 : (t1108 == 0) = false := beq_eq_false_iff_ne.mpr c41; have c41b1 : (t1108 != 0) = true := bne_iff_ne.mpr c41; by_cases c96 : t1106 = 0
            · rw [if_pos c96] at H
              have c96b0 : (t1106 == 0) = true := beq_iff_eq.mpr c96; have c96b1 : (t1106 != 0) = false := bne_eq_false_iff_eq.mpr c96; clear c96; obtain rfl := oI_ H; have hcz97_0 : wc.cell? ⟨gb1099, 0, none⟩ = some (.int .i64 a0_0) := (bC_ BK1099.out 0).trans rfl; have hcz97_1 : wc.cell? ⟨gb1099, 1, none⟩ = some (.slice A0_1 l0_1.length c0_1) := (bC_ BK1099.out 1).trans rfl; have hfz97_0 := bF_ BK1099.out 0; have hfz97_1 := bF_ BK1099.out 1; go_wp2_with (first | ((with_reducible refine gate_callee (f := 31) rfl ?_); refine goesL_ (some 60) rfl rfl Try.func31 (by kernel_rfl) rfl #[.agg #[.int .i64 a0_0, .slice A0_1 l0_1.length c0_1], .slice A1 l1.length c1] rfl (by (try simp only [mT_, mC_, mN_]); first | done | rfl | (simp only [lD_, lT_]; rfl)) ?_; (with_reducible refine (diffs_Most.calls kj27 a0_0 _ _ l0_1 _ _ l1 t1106 t1107 t1108 _ ?side1 ?side2 ?side3 ?side4 A40.out).mono ?_); (case side1 => repeat (first | exact (cB_ HR0_1.out HB.out) | (with_reducible refine Kd.C_alloc ?_ _) | (with_reducible refine Kd.C_drewN ?_ _) | (with_reducible refine Kd.C_drew ?_))); (case side2 => exact HC0_1.out); (case side3 => repeat (first | exact (cB_ HR1.out HB.out) | (with_reducible refine Kd.C_alloc ?_ _) | (with_reducible refine Kd.C_drewN ?_ _) | (with_reducible refine Kd.C_drew ?_))); (case side4 => exact HC1.out); rintro e w98 ⟨rfl, hb⟩; refine ⟨_, rfl, ?_⟩; have n0_ := Z_ (bB_ (g := gb1099) (o := .cells #[.int .i64 a0_0, .slice A0_1 l0_1.length c0_1] 24 (0, 0)) (by (with_reducible repeat (first | refine bN_ ?_ _ | refine bD_ ?_ | refine bA_ ?_ _)); exact BK1099.out) hb); have n1_ := Z_ (fS_ (by repeat (first | (with_reducible first | exact HB.out | apply fA_ | apply pB_ | apply fD_ | refine fE_ ?_ GE1099.out) | exact HB.out)) hb); clear BK1099; clear HB; have BK1099 := n0_; have HB := n1_; clear n0_ n1_; (try clear hb); (try clear hb2); (try clear hk); (try clear hi))); go_ret; exact ⟨by first | rfl | (simp [errW_none, errW_some] <;> rfl) | (simp [*, errW_none, errW_some] <;> rfl), by repeat (first | (with_reducible first | exact HB.out | apply fA_ | apply pB_ | apply fD_ | refine fE_ ?_ GE1099.out) | exact HB.out)⟩
            rw [if_neg c96] at H; have c96b0 : (t1106 == 0) = false := beq_eq_false_iff_ne.mpr c96; have c96b1 : (t1106 != 0) = true := bne_iff_ne.mpr c96; obtain rfl := oI_ H; have hcz99_0 : wc.cell? ⟨gb1099, 0, none⟩ = some (.int .i64 a0_0) := (bC_ BK1099.out 0).trans rfl; have hcz99_1 : wc.cell? ⟨gb1099, 1, none⟩ = some (.slice A0_1 l0_1.length c0_1) := (bC_ BK1099.out 1).trans rfl; have hfz99_0 := bF_ BK1099.out 0; have hfz99_1 := bF_ BK1099.out 1; go_wp2_with (first | ((with_reducible refine gate_callee (f := 31) rfl ?_); refine goesL_ (some 60) rfl rfl Try.func31 (by kernel_rfl) rfl #[.agg #[.int .i64 a0_0, .slice A0_1 l0_1.length c0_1], .slice A1 l1.length c1] rfl (by (try simp only [mT_, mC_, mN_]); first | done | rfl | (simp only [lD_, lT_]; rfl)) ?_; (with_reducible refine (diffs_Most.calls kj27 a0_0 _ _ l0_1 _ _ l1 t1106 t1107 t1108 _ ?side1 ?side2 ?side3 ?side4 A40.out).mono ?_); (case side1 => repeat (first | exact (cB_ HR0_1.out HB.out) | (with_reducible refine Kd.C_alloc ?_ _) | (with_reducible refine Kd.C_drewN ?_ _) | (with_reducible refine Kd.C_drew ?_))); (case side2 => exact HC0_1.out); (case side3 => repeat (first | exact (cB_ HR1.out HB.out) | (with_reducible refine Kd.C_alloc ?_ _) | (with_reducible refine Kd.C_drewN ?_ _) | (with_reducible refine Kd.C_drew ?_))); (case side4 => exact HC1.out); rintro e w100 ⟨rfl, hb⟩; refine ⟨_, rfl, ?_⟩; have n0_ := Z_ (bB_ (g := gb1099) (o := .cells #[.int .i64 a0_0, .slice A0_1 l0_1.length c0_1] 24 (0, 0)) (by (with_reducible repeat (first | refine bN_ ?_ _ | refine bD_ ?_ | refine bA_ ?_ _)); exact BK1099.out) hb); have n1_ := Z_ (fS_ (by repeat (first | (with_reducible first | exact HB.out | apply fA_ | apply pB_ | apply fD_ | refine fE_ ?_ GE1099.out) | exact HB.out)) hb); clear BK1099; clear HB; have BK1099 := n0_; have HB := n1_; clear n0_ n1_; (try clear hb); (try clear hb2); (try clear hk); (try clear hi))); go_ret; exact ⟨by first | rfl | (simp [errW_none, errW_some] <;> rfl) | (simp [*, errW_none, errW_some] <;> rfl), by repeat (first | (with_reducible first | exact HB.out | apply fA_ | apply pB_ | apply fD_ | refine fE_ ?_ GE1099.out) | exact HB.out)⟩
  replace c7 := bE_.mpr c7; subst c7; have H1 : (some false) = some r := by rw [if_neg (show ¬ (false = true) by decide)] at H; exact H
  clear H; have H := H1; clear H1; obtain rfl := oI_ H; go_enter Try.func14, Try.ntmps14; go_wp2_with (first | ((with_reducible refine gate_dst (N := 5) rfl ?_); (try (refine gate_guard (by rfl) ?_; dsimp only)); refine box_event ?hg (N := 5) ?hd (cs := #[.int .i64 a0_0, .slice A0_1 l0_1.length c0_1]) (t := 24) ?hr ?_; (case hd => rfl); (case hg => rfl); (case hr => first | (go_simp; done) | (go_simp; rfl)); intro gb1099 hg w101 hbox hb; have n0_ := Z_ (fS_ (by repeat (first | (with_reducible first | exact HB.out | apply fA_ | apply pB_ | apply fD_) | exact HB.out)) hb); have n1_ := Z_ (hbox); have n2_ := Z_ ((by rw [hg]; exact (fZ_ (by repeat (first | (with_reducible first | exact HB.out | apply fA_ | apply pB_ | apply fD_) | exact HB.out))) : w.heap.size ≤ gb1099)); have n3_ := Z_ ((by rw [hg]; exact (fZ_ (by repeat (first | (with_reducible first | exact HB.out | apply fA_ | apply pB_ | apply fD_) | exact HB.out))) : w.heap.size ≤ gb1099)); clear HB; have HB := n0_; have BK1099 := n1_; have GW1099 := n2_; have GE1099 := n3_; clear n0_ n1_ n2_ n3_; clear hb hbox hg) | ((with_reducible refine gate_callee (f := 21) rfl ?_); refine goesL_ (some 21) rfl rfl Try.func21 (by kernel_rfl) rfl #[] rfl (by (try simp only [mT_, mC_, mN_]); first | done | rfl | (simp only [lD_, lT_]; rfl)) ?_; (with_reducible refine (snowlinelaw04_sane.calls  false _ A6.out).mono ?_); rintro e w102 ⟨rfl, hb⟩; refine ⟨_, rfl, ?_⟩; have n0_ := Z_ (bB_ (g := gb1099) (o := .cells #[.int .i64 a0_0, .slice A0_1 l0_1.length c0_1] 24 (0, 0)) (by (with_reducible repeat (first | refine bN_ ?_ _ | refine bD_ ?_ | refine bA_ ?_ _)); exact BK1099.out) hb); have n1_ := Z_ (fS_ (by repeat (first | (with_reducible first | exact HB.out | apply fA_ | apply pB_ | apply fD_ | refine fE_ ?_ GE1099.out) | exact HB.out)) hb); clear BK1099; clear HB; have BK1099 := n0_; have HB := n1_; clear n0_ n1_; (try clear hb); (try clear hb2); (try clear hk); (try clear hi))); go_ret; exact ⟨by first | rfl | (simp [errW_none, errW_some] <;> rfl) | (simp [*, errW_none, errW_some] <;> rfl), by repeat (first | (with_reducible first | exact HB.out | apply fA_ | apply pB_ | apply fD_ | refine fE_ ?_ GE1099.out) | exact HB.out)⟩
end Go.Proofs.Ytpolojoeabmhdaa.A
/- DiffsDuality, over numbers and lists alone. -/
namespace Go.Proofs.Ytpolojoeabmhdaa.A
open Go.RowKit Go.Proofs.YtpolojoeabmhdaaW.PrintWords Go.Proofs.YtpolojoeabmhdaaW.PrintLast Go.Proofs.YtpolojoeabmhdaaW.PrintMore
theorem small_some (n : Int) (L : List S39) : snowlinelaw04_small.f n L = some (decide (n ≤ 16 ∧ L.length ≤ 60)) := by
  unfold snowlinelaw04_small.f
  by_cases h : n ≤ 16
  · rw [if_pos h]
    congr 1
    exact decide_eq_decide.2 (by omega)
  · rw [if_neg h]
    congr 1
    rw [decide_eq_false]
    omega
theorem duality_ev (n : Int) (L : List S39) (w y : List Int) (c : Int) (G : List Int) : Ev (fun k => snowlinelaw04_DiffsDuality.f k n L w y c G) true := by
  unfold snowlinelaw04_DiffsDuality.f snowlinelaw04_sane.f
  simp only [Option.bind_some, if_true]
  refine (check_ev n L).bind ?_
  have hquit : Ev (fun k => snowlinelaw04_DiffsDuality.j0 k w y c G true n L) true :=
    Ev.step (f := fun _ => some true) (fun q => by rw [snowlinelaw04_DiffsDuality.j0]; rfl) (Ev.now _)
  by_cases hv : validB n L = true
  case neg =>
    rw [if_neg hv]
    exact Ev.neg (by decide) hquit
  rw [if_pos hv]
  refine Ev.pos rfl ?_
  rw [small_some]
  simp only [Option.bind_some]
  by_cases hsm : n ≤ 16 ∧ L.length ≤ 60
  case neg =>
    rw [decide_eq_false hsm]
    exact hquit
  rw [decide_eq_true hsm]
  refine Ev.pos rfl ?_
  have hV := validB_iff.1 hv
  obtain ⟨N, rfl⟩ : ∃ N : Nat, n = N := ⟨n.toNat, by have := hV.n1; omega⟩
  have hn0 : 0 < N := by have := hV.n1; omega
  by_cases c1 : (w.length : Int) = N
  case neg => rw [show ((w.length : Int) != N) = true from bne_iff_ne.mpr c1]; exact hquit
  rw [show ((w.length : Int) != N) = false from bne_eq_false_iff_eq.mpr c1]
  have hm : (N : Int) * (2 * L.length) ≤ 1048576 := by
    have := Int.mul_le_mul (a := (N : Int)) (b := 2 * L.length) (c := 16) (d := 120) (by omega) (by omega) (by omega) (by omega)
    omega
  obtain ⟨f, g1, g2⟩ := cflow_ev hV w G c
  obtain ⟨p, p1, p2⟩ := fulfils_ev N L y (by omega) (by omega)
  obtain ⟨a, b, e, x, F, t1, t2, t3, hT⟩ := trio_ev hV hm w
  have hsum : ∀ {z : List Int}, Weighty N w → Ful N L z → Ev (fun k => snowlineref04_Sum.f k w z) (sumW N w (rd z)) := fun hw hz => sum_ev hw hz.l hn0 (by omega) hz.b
  -- after the first question
  have hj1 : Ev (fun k => snowlinelaw04_DiffsDuality.j1 k w y c (f == 0) false N L) true := by
    refine Ev.step (f := fun q => _) (fun q => by rw [snowlinelaw04_DiffsDuality.j1, if_neg (by decide)]) ?_
    refine t1.bind ?_
    by_cases he : e = 0
    case neg =>
      refine Ev.neg he ?_
      have hz : a = 0 ∧ b = false := by
        by_cases hw : Weighty N w
        · by_cases hs : Solv L
          · exact absurd (hT.m.ok hw hs).1 he
          · exact ⟨(hT.m.clash hw hs).1, (hT.m.clash hw hs).2.1⟩
        · exact ⟨(hT.m.arg hw).1, (hT.m.arg hw).2.1⟩
      obtain ⟨rfl, rfl⟩ := hz
      exact Ev.pos rfl (Ev.now _)
    subst he
    have hw : Weighty N w := Classical.byContradiction fun hw => by have := (hT.m.arg hw).2.2; omega
    have hs : Solv L := Classical.byContradiction fun hs => by have := (hT.m.clash hw hs).2.2; omega
    refine Ev.pos rfl (t2.bind (t3.bind (Ev.pos rfl (Ev.pos rfl (Ev.neg (by simp) ?_)))))
    simp only [bne_self_eq_false]
    refine Ev.step (f := fun q => _) (fun q => by rw [snowlinelaw04_DiffsDuality.j2, if_neg (by decide)]) ?_
    cases b with
    | false =>
      refine Ev.neg (by decide) ?_
      obtain ⟨rfl, rfl⟩ := hT.no rfl
      have hno := ((hT.m.ok hw hs).2.no rfl).2
      have hf : ¬ f = 0 := fun hf => hno _ (g2.1 hf).f
      refine Ev.neg (by simpa using hf) (Ev.pos rfl ?_)
      exact Ev.now _
    | true =>
      refine Ev.pos rfl ?_
      obtain ⟨hx, hxa, hFl⟩ := hT.yes hw hs rfl
      obtain ⟨p', q1, q2⟩ := fulfils_ev N L x (by omega) (by omega)
      obtain rfl := q2.2 hx
      obtain ⟨f', u1, u2⟩ := cflow_ev hV w F a
      obtain rfl := u2.2 hFl
      have hs1 := hsum hw hx
      rw [hxa] at hs1
      refine q1.bind (Ev.pos rfl (hs1.bind (Ev.pos rfl (u1.bind ?_))))
      rw [show ((0 : Int) != 0) = false from rfl]
      refine Ev.step (f := fun q => _) (fun q => by rw [snowlinelaw04_DiffsDuality.j3, if_neg (by decide)]) ?_
      have hlast : Ev (fun q => (snowlinelaw04_fulfils.f q N L y).bind fun t1122 => if t1122 = true then (snowlineref04_Sum.f q w y).bind fun t1123 => some (decide (t1123 ≤ a)) else some true) true := by
        refine p1.bind ?_
        cases p with
        | false => exact Ev.neg (by decide) (Ev.now _)
        | true =>
          have hy := p2.1 rfl
          have hle := weak hFl.f hV.e hy.asg
          have := hFl.c
          refine Ev.pos rfl ((hsum hw hy).bind ?_)
          rw [decide_eq_true (by omega)]
          exact Ev.now _
      by_cases hf : f = 0
      · have hG := g2.1 hf
        have hle := weak hG.f hV.e hx.asg
        have := hG.c
        exact Ev.pos (by simpa using hf) (Ev.pos (by omega) hlast)
      · exact Ev.neg (by simpa using hf) hlast
  refine Ev.step (f := fun q => _) (fun q => by rw [snowlinelaw04_DiffsDuality.j0, if_neg (by decide)]) ?_
  refine g1.bind ?_
  by_cases hf : f = 0
  case neg => exact Ev.neg hf hj1
  refine Ev.pos hf (p1.bind ?_)
  cases p with
  | false => exact Ev.neg (by decide) hj1
  | true =>
    have hG := g2.1 hf
    have hy := p2.1 rfl
    have hle := weak hG.f hV.e hy.asg
    have := hG.c
    refine Ev.pos rfl ((hsum hG.hw hy).bind ?_)
    rw [decide_eq_false (by omega)]
    exact hj1
end Go.Proofs.Ytpolojoeabmhdaa.A
/- DiffsDuality: for every input the law answers true, and what came in reads as it did. No conditions. -/
namespace Go.Proofs.Ytpolojoeabmhdaa.diffsDuality
open Go.ChangeShapes Go.WideShapes Go.ChangeAt Go.RowKit
open Go.Proofs.Ytpolojoeabmhdaa.A
open Go.Proofs.YtpolojoeabmhdaaW.PrintWords
set_option maxRecDepth 100000 in
theorem lifted (os : Os) (started : os.Started) (H : Type) (enc : TypeId × Value → H) :
    ReturnsInHanded {} Try.checked os 14 .any (Rows.diffsDualitySpec.pre6 enc Try.prog Try.f14 Rows.diffsDualityRow.domain false) (Rows.diffsDualitySpec.post enc Try.prog Try.f14 false true false false) := by
  refine returnsInHanded_of_change_sized (C := Try.checked) own started (by kernel_rfl) Try.func14
    (ChangeSpec.witness6 (enc := enc) (C := Try.checked) false ⟨#[], #[.agg #[.int .i64 0, .slice none 0 0], .slice none 0 0, .slice none 0 0, .int .i64 0, .slice none 0 0], []⟩ 8 (by kernel_rfl) (by kernel_rfl) (by kernel_rfl) (by kernel_rfl)) ?_
  intro W base args ds gs before hval0 hW hcnd hsz0 _
  have hsz : (DataW.weightsEach Try.prog (Try.f14.params.toList ++ Rows.diffsDualitySpec.plain.varTypes Try.prog) (ds ++ gs)).all (· ≤ reachBytes) = true := hsz0
  have hval : ∀ (j : Nat) t v, Try.f14.params[j]? = some t → args[j]? = some v → Value.okWide Try.prog W .any base t v := hval0
  have hW' := hW
  obtain ⟨p, q, hA0, hV, rfl, hfz, hnd⟩ := hW
  have hA : DataW.TrodAll enc Try.prog W 0 (fun _ => true) true Try.f14.params.toList args.toList ds p := hA0
  rw [Try.params14] at hA hval hsz
  obtain ⟨v0, vs0, d0, ds0, p0, q0, hargs, rfl, rfl, h0, r0⟩ := trodAll_cons hA
  obtain ⟨v1, vs1, d1, ds1, p1, q1, rfl, rfl, rfl, h1, r1⟩ := trodAll_cons r0
  obtain ⟨v2, vs2, d2, ds2, p2, q2, rfl, rfl, rfl, h2, r2⟩ := trodAll_cons r1
  obtain ⟨v3, vs3, d3, ds3, p3, q3, rfl, rfl, rfl, h3, r3⟩ := trodAll_cons r2
  obtain ⟨v4, vs4, d4, ds4, p4, q4, rfl, rfl, rfl, h4, r4⟩ := trodAll_cons r3
  obtain ⟨rfl, rfl, rfl⟩ := trodAll_nil r4
  obtain rfl : args = #[v0, v1, v2, v3, v4] := by cases args; simp_all
  obtain ⟨rfl, rfl⟩ := trodVars_none hV
  have k0 := h0
  have lt0 : ∀ x ∈ p0, x.block < W.heap.size := by obtain ⟨m, hm⟩ := k0; exact DataW.trod_lt m _ _ _ hm
  obtain ⟨n0, A0, l0, c0, rfl, hC0, hc0, wz0, sz0⟩ := open_net (hval 0 24 v0 rfl rfl) h0
  have k1 := h1
  have lt1 : ∀ x ∈ p1, x.block < W.heap.size := by obtain ⟨m, hm⟩ := k1; exact DataW.trod_lt m _ _ _ hm
  obtain ⟨A1, l1, c1, rfl, hC1, hc1, wz1⟩ := open_list (hval 1 29 v1 rfl rfl) h1
  have k2 := h2
  have lt2 : ∀ x ∈ p2, x.block < W.heap.size := by obtain ⟨m, hm⟩ := k2; exact DataW.trod_lt m _ _ _ hm
  obtain ⟨A2, l2, c2, rfl, hC2, hc2, wz2⟩ := open_list (hval 2 29 v2 rfl rfl) h2
  obtain ⟨a3, rfl, rfl, rfl, wz3⟩ := open_int Try.underlying3 (hval 3 3 v3 rfl rfl) h3
  have k4 := h4
  have lt4 : ∀ x ∈ p4, x.block < W.heap.size := by obtain ⟨m, hm⟩ := k4; exact DataW.trod_lt m _ _ _ hm
  obtain ⟨A4, l4, c4, rfl, hC4, hc4, wz4⟩ := open_list (hval 4 29 v4 rfl rfl) h4
  obtain ⟨rk, hk⟩ := Ev.rounds (duality_ev n0 l0 l1 l2 a3 l4)
  clear hA0 hval0 hsz0 hsz
  refine (snowlinelaw04_DiffsDuality.calls rk n0 A0 c0 l0 A1 c1 l1 A2 c2 l2 a3 A4 c4 l4 true W hC0 hc0 hC1 hc1 hC2 hc2 hC4 hc4 hk).mono fun e W' ⟨he, bel⟩ => ?_
  subst he
  exact ⟨_, rfl, _, _, _, [], _, [], hW', trodAll_mk1 (shut_bool Try.underlying4 _), (trodAll_cons_mk (Below.trod laidOut (by kernel_rfl) (of_decide_eq_true (by kernel_rfl)) k0 bel lt0) (trodAll_cons_mk (Below.trod laidOut (by kernel_rfl) (of_decide_eq_true (by kernel_rfl)) k1 bel lt1) (trodAll_cons_mk (Below.trod laidOut (by kernel_rfl) (of_decide_eq_true (by kernel_rfl)) k2 bel lt2) (trodAll_cons_mk (shut_int Try.underlying3 wz3) (trodAll_cons_mk (Below.trod laidOut (by kernel_rfl) (of_decide_eq_true (by kernel_rfl)) k4 bel lt4) trodAll_mk0))))), rfl, bel.frame _, fun h => by cases h⟩
theorem joined : joinedFacts Try.prog 14 Try.f14 Rows.diffsDualitySpec Rows.diffsDualityRow = true := (andB (andB (andB (andB (andB (andB (andB (andB (andB (andB (andB (andB (andB (andB (andB (andB (andB (andB (andB (andB (andB (andB (andB (andB (andB (andB (andB (andB (andB (andB (andB (by kernel_rfl) laidOut) pMapsRowed) (by kernel_rfl)) (by kernel_rfl)) (by kernel_rfl)) pStops) (by kernel_rfl)) pKnobs) (by kernel_rfl)) (by kernel_rfl)) (by kernel_rfl)) (by kernel_rfl)) (by kernel_rfl)) (by kernel_rfl)) (by kernel_rfl)) (by kernel_rfl)) (by kernel_rfl)) (by kernel_rfl)) (by kernel_rfl)) (by kernel_rfl)) (by kernel_rfl)) pPlain) (by kernel_rfl)) pHeard) pEnter) pLifted) pMake) (by kernel_rfl)) (by kernel_rfl)) (by kernel_rfl)) (by kernel_rfl))
theorem over : Rows.diffsDualityRow.holds Try.pinned (OpenSpec.ofChange Rows.diffsDualitySpec) :=
  OpenClaim.holds_of_wide 14 Try.f14 rfl rfl rfl rfl rfl rfl rfl ⟨rfl, rfl, rfl, rfl, rfl⟩ rfl rfl rfl rfl rfl (by kernel_rfl) Try.func14 joined
    (of_decide_eq_true (by kernel_rfl)) (by unfold Func.isWrapper; first | (rw [if_pos (by decide +kernel)]; kernel_rfl) | (rw [if_neg (by decide +kernel)]; exact ⟨rfl, rfl⟩))
    (fun os started H enc _ => lifted os started H enc)
theorem proved : Rows.DiffsDualitySaid := over
#print axioms proved
end Go.Proofs.Ytpolojoeabmhdaa.diffsDuality
namespace Go.Proofs.Ytpolojoeabmhdaa
/-- The row, under a short name, for the claim. -/
theorem diffsDuality_holds : Rows.DiffsDualitySaid := diffsDuality.proved
end Go.Proofs.Ytpolojoeabmhdaa
