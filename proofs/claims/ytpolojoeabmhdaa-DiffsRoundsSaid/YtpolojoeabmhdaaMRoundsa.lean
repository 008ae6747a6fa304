import Derived.Test.YtpolojoeabmhdaaMZcoreb
import Derived.Test.YtpolojoeabmhdaaMZcored
import Derived.Test.YtpolojoeabmhdaaMZcoree
import Derived.Test.YtpolojoeabmhdaaMZcoref
import Derived.Test.YtpolojoeabmhdaaMZcoreg
import Derived.Test.YtpolojoeabmhdaaMZcoreh
import Derived.Test.YtpolojoeabmhdaaMZflowa
set_option linter.unusedVariables false
set_option linter.unusedSimpArgs false
namespace Go.Proofs.Ytpolojoeabmhdaa.A
open Go.RowKit Go.Proofs.YtpolojoeabmhdaaW.PrintWords Go.Proofs.YtpolojoeabmhdaaW.PrintLast Go.Proofs.YtpolojoeabmhdaaW.PrintMore
attribute [local go_sem] max2_int min2_int max_two min_two max_three min_three max_four min_four
mutual
def snowlinelaw04_fulfils.j0 : Nat → List Int → Bool → Int → List (S39) → Option (Bool)
  | 0, _, _, _, _ => none
  | k + 1, x1, x24, x922000, x922001 => if x24 = true then (some false) else (snowlinelaw04_fulfils.l0 k x1 x1 (x1.length : Int) 0 x922000 x922001)
def snowlinelaw04_fulfils.l0 : Nat → List Int → List Int → Int → Int → Int → List (S39) → Option (Bool)
  | 0, _, _, _, _, _, _ => none
  | k + 1, x1, x25, x26, x27, x922000, x922001 => if x27 < x26 then (if 0 ≤ x27 then (if x27 < (x25.length : Int) then (if (rd x25 x27) < (-1099511627776) then (snowlinelaw04_fulfils.j2 k x1 x25 x26 x27 true x922000 x922001) else (snowlinelaw04_fulfils.j2 k x1 x25 x26 x27 (decide ((rd x25 x27) > 1099511627776)) x922000 x922001)) else (none)) else (none)) else (snowlinelaw04_fulfils.l1 k x1 x922001 (x922001.length : Int) 0)
def snowlinelaw04_fulfils.j2 : Nat → List Int → List Int → Int → Int → Bool → Int → List (S39) → Option (Bool)
  | 0, _, _, _, _, _, _, _ => none
  | k + 1, x1, x25, x26, x27, x36, x922000, x922001 => if x36 = true then (some false) else (snowlinelaw04_fulfils.l0 k x1 x25 x26 (wrap64 (x27 + 1)) x922000 x922001)
def snowlinelaw04_fulfils.l1 : Nat → List Int → List (S39) → Int → Int → Option (Bool)
  | 0, _, _, _, _ => none
  | k + 1, x1, x39, x40, x41 => if x41 < x40 then (if 0 ≤ x41 then (if x41 < (x39.length : Int) then (if ((rd_T39 x39 x41).f0) < 0 then (snowlinelaw04_fulfils.j4 k x1 x39 x40 x41 true) else (if ((rd_T39 x39 x41).f0) ≥ (x1.length : Int) then (snowlinelaw04_fulfils.j4 k x1 x39 x40 x41 true) else (if ((rd_T39 x39 x41).f1) < 0 then (snowlinelaw04_fulfils.j4 k x1 x39 x40 x41 true) else (if ((rd_T39 x39 x41).f1) ≥ (x1.length : Int) then (snowlinelaw04_fulfils.j4 k x1 x39 x40 x41 true) else (if 0 ≤ ((rd_T39 x39 x41).f1) then (if ((rd_T39 x39 x41).f1) < (x1.length : Int) then (if 0 ≤ ((rd_T39 x39 x41).f0) then (if ((rd_T39 x39 x41).f0) < (x1.length : Int) then (snowlinelaw04_fulfils.j4 k x1 x39 x40 x41 (decide ((wrap64 ((rd x1 ((rd_T39 x39 x41).f1)) - (rd x1 ((rd_T39 x39 x41).f0)))) > ((rd_T39 x39 x41).f2)))) else (none)) else (none)) else (none)) else (none)))))) else (none)) else (none)) else (some true)
def snowlinelaw04_fulfils.j4 : Nat → List Int → List (S39) → Int → Int → Bool → Option (Bool)
  | 0, _, _, _, _, _ => none
  | k + 1, x1, x39, x40, x41, x82 => if x82 = true then (some false) else (snowlinelaw04_fulfils.l1 k x1 x39 x40 (wrap64 (x41 + 1)))
end
def snowlinelaw04_fulfils.f (k : Nat) (a0_0 : Int) (l0_1 : List (S39)) (l1 : List Int) : Option (Bool) := if (l1.length : Int) = a0_0 then (if (l1.length : Int) = 0 then (snowlinelaw04_fulfils.j0 k l1 true a0_0 l0_1) else (if 0 < (l1.length : Int) then (snowlinelaw04_fulfils.j0 k l1 ((rd l1 0) != 0) a0_0 l0_1) else (none))) else (snowlinelaw04_fulfils.j0 k l1 true a0_0 l0_1)
theorem snowlinelaw04_fulfils.mono_l : ∀ k, (∀ y0 y1 y2 y3, LeO (snowlinelaw04_fulfils.j0 k y0 y1 y2 y3) (snowlinelaw04_fulfils.j0 (k + 1) y0 y1 y2 y3)) ∧ (∀ y0 y1 y2 y3 y4 y5, LeO (snowlinelaw04_fulfils.l0 k y0 y1 y2 y3 y4 y5) (snowlinelaw04_fulfils.l0 (k + 1) y0 y1 y2 y3 y4 y5)) ∧ (∀ y0 y1 y2 y3 y4 y5 y6, LeO (snowlinelaw04_fulfils.j2 k y0 y1 y2 y3 y4 y5 y6) (snowlinelaw04_fulfils.j2 (k + 1) y0 y1 y2 y3 y4 y5 y6)) ∧ (∀ y0 y1 y2 y3, LeO (snowlinelaw04_fulfils.l1 k y0 y1 y2 y3) (snowlinelaw04_fulfils.l1 (k + 1) y0 y1 y2 y3)) ∧ (∀ y0 y1 y2 y3 y4, LeO (snowlinelaw04_fulfils.j4 k y0 y1 y2 y3 y4) (snowlinelaw04_fulfils.j4 (k + 1) y0 y1 y2 y3 y4))
  | 0 => ⟨fun _ _ _ _ r h => by simp [snowlinelaw04_fulfils.j0] at h, fun _ _ _ _ _ _ r h => by simp [snowlinelaw04_fulfils.l0] at h, fun _ _ _ _ _ _ _ r h => by simp [snowlinelaw04_fulfils.j2] at h, fun _ _ _ _ r h => by simp [snowlinelaw04_fulfils.l1] at h, fun _ _ _ _ _ r h => by simp [snowlinelaw04_fulfils.j4] at h⟩
  | k + 1 => by
    obtain ⟨ih0, ih1, ih2, ih3, ih4⟩ := snowlinelaw04_fulfils.mono_l k; refine ⟨?_, ?_, ?_, ?_, ?_⟩ <;> intros <;> (first | unfold snowlinelaw04_fulfils.j0 | unfold snowlinelaw04_fulfils.l0 | unfold snowlinelaw04_fulfils.j2 | unfold snowlinelaw04_fulfils.l1 | unfold snowlinelaw04_fulfils.j4) <;> repeat' first | (with_reducible first | exact ih0 _ _ _ _ | exact ih1 _ _ _ _ _ _ | exact ih2 _ _ _ _ _ _ _ | exact ih3 _ _ _ _ | exact ih4 _ _ _ _ _ | exact LeO.refl _ | exact LeO.none _ | refine LeO.ite ?_ ?_ | refine LeO.bind ?_ (fun _ => ?_)) | exact ih0 _ _ _ _ | exact ih1 _ _ _ _ _ _ | exact ih2 _ _ _ _ _ _ _ | exact ih3 _ _ _ _ | exact ih4 _ _ _ _ _ | exact LeO.none _ | refine LeO.ite ?_ ?_ | refine LeO.bind ?_ (fun _ => ?_)
theorem snowlinelaw04_fulfils.mono : ∀ a0 a1 a2 k, LeO (snowlinelaw04_fulfils.f k a0 a1 a2) (snowlinelaw04_fulfils.f (k + 1) a0 a1 a2) := by
  intro a0 a1 a2 k; obtain ⟨ih0, ih1, ih2, ih3, ih4⟩ := snowlinelaw04_fulfils.mono_l k; unfold snowlinelaw04_fulfils.f; repeat' first | (with_reducible first | exact ih0 _ _ _ _ | exact ih1 _ _ _ _ _ _ | exact ih2 _ _ _ _ _ _ _ | exact ih3 _ _ _ _ | exact ih4 _ _ _ _ _ | exact LeO.refl _ | exact LeO.none _ | refine LeO.ite ?_ ?_ | refine LeO.bind ?_ (fun _ => ?_)) | exact ih0 _ _ _ _ | exact ih1 _ _ _ _ _ _ | exact ih2 _ _ _ _ _ _ _ | exact ih3 _ _ _ _ | exact ih4 _ _ _ _ _ | exact LeO.none _ | refine LeO.ite ?_ ?_ | refine LeO.bind ?_ (fun _ => ?_)
set_option maxHeartbeats 8000000 in
set_option maxRecDepth 100000 in
theorem snowlinelaw04_fulfils.calls (k : Nat) (a0_0 : Int) (A0_1 : Option Addr) (c0_1 : Nat) (l0_1 : List (S39)) (A1 : Option Addr) (c1 : Nat) (l1 : List Int) (r : Bool) (w : World) (hr0_1 : Kd.C k39 w A0_1 l0_1.length l0_1) (hc0_1 : l0_1.length ≤ c0_1) (hr1 : Kd.C (Kd.int .i64) w A1 l1.length l1) (hc1 : l1.length ≤ c1) (h : snowlinelaw04_fulfils.f k a0_0 l0_1 l1 = some r) :
    Calls Try.prog 48 #[.agg #[.int .i64 a0_0, .slice A0_1 l0_1.length c0_1], .slice A1 l1.length c1] w fun e w' => e = .returned (.bool r) ∧ Below w.heap.size w w' := by
  have hu24 := Try.underlying24; have hu39 := Try.underlying39; have HR0_1 := Z_ hr0_1; have HC0_1 := Z_ hc0_1; clear hr0_1 hc0_1; have HR1 := Z_ hr1; have HC1 := Z_ hc1; clear hr1 hc1; have HB := Z_ (Below.refl w.heap.size w); have H : (if (l1.length : Int) = a0_0 then (if (l1.length : Int) = 0 then (snowlinelaw04_fulfils.j0 k l1 true a0_0 l0_1) else (if 0 < (l1.length : Int) then (snowlinelaw04_fulfils.j0 k l1 ((rd l1 0) != 0) a0_0 l0_1) else (none))) else (snowlinelaw04_fulfils.j0 k l1 true a0_0 l0_1)) = some r := h; clear h; have HC3 := Z_ H; clear H; go_enter Try.func48, Try.ntmps48; go_upto_region 1 with (first | ((with_reducible refine gate_dst (N := 2) rfl ?_); (try (refine gate_guard (by rfl) ?_; dsimp only)); refine box_event ?hg (N := 2) ?hd (cs := #[.int .i64 a0_0, .slice A0_1 l0_1.length c0_1]) (t := 24) ?hr ?_; (case hd => rfl); (case hg => rfl); (case hr => first | (go_simp; done) | (go_simp; rfl)); intro gb921 hg w4 hbox hb; have n0_ := Z_ (fS_ (by repeat (first | (with_reducible first | exact HB.out | apply fA_ | apply pB_ | apply fD_) | exact HB.out)) hb); have n1_ := Z_ (hbox); have n2_ := Z_ ((by rw [hg]; exact (fZ_ (by repeat (first | (with_reducible first | exact HB.out | apply fA_ | apply pB_ | apply fD_) | exact HB.out))) : w.heap.size ≤ gb921)); have n3_ := Z_ ((by rw [hg]; exact (fZ_ (by repeat (first | (with_reducible first | exact HB.out | apply fA_ | apply pB_ | apply fD_) | exact HB.out))) : w.heap.size ≤ gb921)); clear HB; have HB := n0_; have BK921 := n1_; have GW921 := n2_; have GE921 := n3_; clear n0_ n1_ n2_ n3_; clear hb hbox hg)); repeat (go_quiet (first | ((with_reducible refine gate_dst (N := 2) rfl ?_); (try (refine gate_guard (by rfl) ?_; dsimp only)); refine box_event ?hg (N := 2) ?hd (cs := #[.int .i64 a0_0, .slice A0_1 l0_1.length c0_1]) (t := 24) ?hr ?_; (case hd => rfl); (case hg => rfl); (case hr => first | (go_simp; done) | (go_simp; rfl)); intro gb921 hg w4 hbox hb; have n0_ := Z_ (fS_ (by repeat (first | (with_reducible first | exact HB.out | apply fA_ | apply pB_ | apply fD_) | exact HB.out)) hb); have n1_ := Z_ (hbox); have n2_ := Z_ ((by rw [hg]; exact (fZ_ (by repeat (first | (with_reducible first | exact HB.out | apply fA_ | apply pB_ | apply fD_) | exact HB.out))) : w.heap.size ≤ gb921)); have n3_ := Z_ ((by rw [hg]; exact (fZ_ (by repeat (first | (with_reducible first | exact HB.out | apply fA_ | apply pB_ | apply fD_) | exact HB.out))) : w.heap.size ≤ gb921)); clear HB; have HB := n0_; have BK921 := n1_; have GW921 := n2_; have GE921 := n3_; clear n0_ n1_ n2_ n3_; clear hb hbox hg)); go_upto_region 1 with (first | ((with_reducible refine gate_dst (N := 2) rfl ?_); (try (refine gate_guard (by rfl) ?_; dsimp only)); refine box_event ?hg (N := 2) ?hd (cs := #[.int .i64 a0_0, .slice A0_1 l0_1.length c0_1]) (t := 24) ?hr ?_; (case hd => rfl); (case hg => rfl); (case hr => first | (go_simp; done) | (go_simp; rfl)); intro gb921 hg w4 hbox hb; have n0_ := Z_ (fS_ (by repeat (first | (with_reducible first | exact HB.out | apply fA_ | apply pB_ | apply fD_) | exact HB.out)) hb); have n1_ := Z_ (hbox); have n2_ := Z_ ((by rw [hg]; exact (fZ_ (by repeat (first | (with_reducible first | exact HB.out | apply fA_ | apply pB_ | apply fD_) | exact HB.out))) : w.heap.size ≤ gb921)); have n3_ := Z_ ((by rw [hg]; exact (fZ_ (by repeat (first | (with_reducible first | exact HB.out | apply fA_ | apply pB_ | apply fD_) | exact HB.out))) : w.heap.size ≤ gb921)); clear HB; have HB := n0_; have BK921 := n1_; have GW921 := n2_; have GE921 := n3_; clear n0_ n1_ n2_ n3_; clear hb hbox hg)))
  (try simp only [Act.put, sT_, sZ_, sS_])
  go_cut [24] (fun v24 wc => ∃ (kq : Nat) (x24_2 : Bool), v24 = .bool x24_2 ∧ Aside0 (snowlinelaw04_fulfils.j0 kq l1 x24_2 a0_0 l0_1 = some r) ∧ Aside0 (kq ≤ k) ∧ Aside0 (wc.heap[gb921]? = some (.cells #[.int .i64 a0_0, (.slice A0_1 l0_1.length c0_1)] 24 (0, 0))) ∧ Aside0 (Below w.heap.size w wc))
  case first =>
    have H := HC3.out; clear HC3; by_cases c5 : (l1.length : Int) = a0_0
    · rw [if_pos c5] at H
      have c5b0 : ((l1.length : Int) == a0_0) = true := beq_iff_eq.mpr c5; have c5b1 : ((l1.length : Int) != a0_0) = false := bne_eq_false_iff_eq.mpr c5; clear c5; (first | rw [c5b0] | (simp only [i64_w, i32_w]; rw [c5b0]) | skip)
      by_cases c6 : (l1.length : Int) = 0
      · rw [if_pos c6] at H
        have c6b0 : ((l1.length : Int) == 0) = true := beq_iff_eq.mpr c6; have c6b1 : ((l1.length : Int) != 0) = false := bne_eq_false_iff_eq.mpr c6; clear c6; have H' := Z_ H; clear H; have hcz7_0 : w4.cell? ⟨gb921, 0, none⟩ = some (.int .i64 a0_0) := (bC_ BK921.out 0).trans rfl; have hcz7_1 : w4.cell? ⟨gb921, 1, none⟩ = some (.slice A0_1 l0_1.length c0_1) := (bC_ BK921.out 1).trans rfl; have hfz7_0 := bF_ BK921.out 0; have hfz7_1 := bF_ BK921.out 1; go_wp2; repeat (go_quiet (fail); try go_wp2)
        go_meet
        case rel => exact ⟨_, (true), (by first | rfl | (simp; done) | (simp [*]; done)), H', ⟨by first | omega | exact nR_ _⟩, ⟨by (with_reducible repeat (first | refine bN_ ?_ _ | refine bD_ ?_ | refine bA_ ?_ _)); exact BK921.out⟩, ⟨by repeat (first | (with_reducible first | exact HB.out | apply fA_ | apply pB_ | apply fD_ | refine fE_ ?_ GE921.out) | exact HB.out)⟩⟩
      rw [if_neg c6] at H; have c6b0 : ((l1.length : Int) == 0) = false := beq_eq_false_iff_ne.mpr c6; have c6b1 : ((l1.length : Int) != 0) = true := bne_iff_ne.mpr c6; have c6b2 : ¬ (l1 = []) := fun h_ => c6 (by rw [h_]; rfl)
      by_cases c8 : 0 < (l1.length : Int)
      · rw [if_pos c8] at H
        have c8b0 : decide (0 < (l1.length : Int)) = true := eT_ c8; have c8b1 : decide (0 < l1.length) = true := eT_ (by omega); clear c8; have H' := Z_ H; clear H; have hcz9_0 : w4.cell? ⟨gb921, 0, none⟩ = some (.int .i64 a0_0) := (bC_ BK921.out 0).trans rfl; have hcz9_1 : w4.cell? ⟨gb921, 1, none⟩ = some (.slice A0_1 l0_1.length c0_1) := (bC_ BK921.out 1).trans rfl; have hfz9_0 := bF_ BK921.out 0; have hfz9_1 := bF_ BK921.out 1; have p922 : 0 ≤ (0 : Int) := (by omega); have q922 : 0 < (l1.length : Int) := dT_ (by first | (with_reducible assumption) | assumption); obtain ⟨ad922, e922, hx922_0⟩ := Kd.at_int HR1.out 0 p922 q922; cases e922
        have qi922 : (0 < l1.length) = True := eq_true (by omega); (try rw [show ((0 : Int)).toNat = 0 from rfl] at hx922_0)
        (try rw [Addr.add_zero'] at hx922_0)
        replace hx922_0 := (HB.out.cell (World.block_lt_of_cell? w _ hx922_0)).trans hx922_0; replace p922 := eq_true p922; replace q922 := eq_true q922; go_wp2; repeat (go_quiet (fail); try go_wp2)
        go_meet
        case rel => exact ⟨_, (((rd l1 0) != 0)), (by first | rfl | (simp; done) | (simp [*]; done)), H', ⟨by first | omega | exact nR_ _⟩, ⟨by (with_reducible repeat (first | refine bN_ ?_ _ | refine bD_ ?_ | refine bA_ ?_ _)); exact BK921.out⟩, ⟨by repeat (first | (with_reducible first | exact HB.out | apply fA_ | apply pB_ | apply fD_ | refine fE_ ?_ GE921.out) | exact HB.out)⟩⟩
      rw [if_neg c8] at H; exact absurd H (by simp)
    rw [if_neg c5] at H; have c5b0 : ((l1.length : Int) == a0_0) = false := beq_eq_false_iff_ne.mpr c5; have c5b1 : ((l1.length : Int) != a0_0) = true := bne_iff_ne.mpr c5; (first | rw [c5b0] | (simp only [i64_w, i32_w]; rw [c5b0]) | skip)
    have H' := Z_ H; clear H; have hcz10_0 : w4.cell? ⟨gb921, 0, none⟩ = some (.int .i64 a0_0) := (bC_ BK921.out 0).trans rfl; have hcz10_1 : w4.cell? ⟨gb921, 1, none⟩ = some (.slice A0_1 l0_1.length c0_1) := (bC_ BK921.out 1).trans rfl; have hfz10_0 := bF_ BK921.out 0; have hfz10_1 := bF_ BK921.out 1; go_wp2; repeat (go_quiet (fail); try go_wp2)
    go_meet
    case rel => exact ⟨_, (true), (by first | rfl | (simp; done) | (simp [*]; done)), H', ⟨by first | omega | exact nR_ _⟩, ⟨by (with_reducible repeat (first | refine bN_ ?_ _ | refine bD_ ?_ | refine bA_ ?_ _)); exact BK921.out⟩, ⟨by repeat (first | (with_reducible first | exact HB.out | apply fA_ | apply pB_ | apply fD_ | refine fE_ ?_ GE921.out) | exact HB.out)⟩⟩
  case rest =>
    clear HC3; try clear c1
    try clear p2
    try clear c4
    try clear c5
    try clear c5b0
    try clear c5b1
    try clear c6
    try clear c6b0
    try clear c6b1
    try clear c6b2
    try clear c8
    try clear c8b0
    try clear c8b1
    try clear p9
    try clear q9
    try clear hx9
    try clear qi9
    try clear hcz10_0
    try clear hcz10_1
    try clear hcz7_0
    try clear hcz7_1
    try clear hcz9_0
    try clear hcz9_1
    try clear hfz10_0
    try clear hfz10_1
    try clear hfz7_0
    try clear hfz7_1
    try clear hfz9_0
    try clear hfz9_1
    try clear hx922_0
    try clear p922
    try clear q922
    obtain ⟨kq, x24_2, rfl, HA, HJ2, BK921, HB⟩ := hcut
    cases kq with
    | zero => exact absurd HA.out (by simp [snowlinelaw04_fulfils.j0])
    | succ kj2 =>
      have H := HA.out; clear HA; simp only [snowlinelaw04_fulfils.j0] at H; by_cases c11 : x24_2 = true
      · subst c11
        have H1 : (some false) = some r := by rw [if_pos rfl] at H; exact H
        clear H; have H := H1; clear H1; obtain rfl := oI_ H; go_wp2; repeat (go_quiet (fail); try go_wp2)
        go_ret; exact ⟨by first | rfl | (simp [errW_none, errW_some] <;> rfl) | (simp [*, errW_none, errW_some] <;> rfl), by repeat (first | (with_reducible first | exact HB.out | apply fA_ | apply pB_ | apply fD_ | refine fE_ ?_ GE921.out) | exact HB.out)⟩
      replace c11 := bE_.mpr c11; subst c11; have H1 : (snowlinelaw04_fulfils.l0 kj2 l1 l1 (l1.length : Int) 0 a0_0 l0_1) = some r := by rw [if_neg (show ¬ (false = true) by decide)] at H; exact H
      clear H; have H := H1; clear H1; have H' := Z_ H; clear H; go_wp2; repeat (go_quiet (fail); try go_wp2)
      go_loopg [27] kj2 (fun kq v27 w' => ∃ (x27_2 : Int), v27 = .int .i64 x27_2 ∧ Aside0 (snowlinelaw04_fulfils.l0 kq l1 l1 (l1.length : Int) x27_2 a0_0 l0_1 = some r) ∧ Aside0 (kq ≤ kj2) ∧ Aside0 (w'.heap[gb921]? = some (.cells #[.int .i64 a0_0, (.slice A0_1 l0_1.length c0_1)] 24 (0, 0))) ∧ Aside0 (Below w.heap.size w w'))
      case atStart => exact ⟨(0), (by first | rfl | (simp; done) | (simp [*]; done)), H', ⟨nR_ _⟩, ⟨by (with_reducible repeat (first | refine bN_ ?_ _ | refine bD_ ?_ | refine bA_ ?_ _)); exact BK921.out⟩, ⟨by repeat (first | (with_reducible first | exact HB.out | apply fA_ | apply pB_ | apply fD_ | refine fE_ ?_ GE921.out) | exact HB.out)⟩⟩
      case round =>
        clear H'; try clear c1
        try clear p2
        try clear c4
        try clear c5
        try clear c5b0
        try clear c5b1
        try clear c6
        try clear c6b0
        try clear c6b1
        try clear c6b2
        try clear c8
        try clear c8b0
        try clear c8b1
        try clear p9
        try clear q9
        try clear hx9
        try clear qi9
        try clear c11
        try clear hcz10_0
        try clear hcz10_1
        try clear hcz7_0
        try clear hcz7_1
        try clear hcz9_0
        try clear hcz9_1
        try clear hfz10_0
        try clear hfz10_1
        try clear hfz7_0
        try clear hfz7_1
        try clear hfz9_0
        try clear hfz9_1
        try clear hx922_0
        try clear p2
        try clear p9
        try clear p922
        try clear q9
        try clear q922
        obtain ⟨x27_2, rfl, HA, HK2, BK921, HB⟩ := hrel
        cases gk with
        | zero => exact absurd HA.out (by simp [snowlinelaw04_fulfils.l0])
        | succ k2 =>
          have H := HA.out; clear HA; simp only [snowlinelaw04_fulfils.l0] at H; by_cases c12 : x27_2 < (l1.length : Int)
          · rw [if_pos c12] at H
            have c12b0 : decide (x27_2 < (l1.length : Int)) = true := eT_ c12; clear c12; by_cases c13 : 0 ≤ x27_2
            · rw [if_pos c13] at H
              have c13b0 : decide (0 ≤ x27_2) = true := eT_ c13; clear c13; by_cases c14 : x27_2 < (l1.length : Int)
              · rw [if_pos c14] at H
                have c14b0 : decide (x27_2 < (l1.length : Int)) = true := eT_ c14; clear c14; have HC15 := Z_ H; clear H; have p923 : 0 ≤ (x27_2 : Int) := dT_ (by first | (with_reducible assumption) | assumption); have q923 : x27_2 < (l1.length : Int) := dT_ (by first | (with_reducible assumption) | assumption); obtain ⟨ad923, e923, hx923_0⟩ := Kd.at_int HR1.out x27_2 p923 q923; cases e923
                replace hx923_0 := (HB.out.cell (World.block_lt_of_cell? w _ hx923_0)).trans hx923_0; replace p923 := eq_true p923; replace q923 := eq_true q923; go_upto_region 6 with (fail); repeat (go_quiet (fail); go_upto_region 6 with (fail))
                go_cut [36] (fun v36 wc => ∃ (kq : Nat) (x36_14 : Bool), v36 = .bool x36_14 ∧ Aside0 (snowlinelaw04_fulfils.j2 kq l1 l1 (l1.length : Int) x27_2 x36_14 a0_0 l0_1 = some r) ∧ Aside0 (kq ≤ k2) ∧ Aside0 (wc.heap[gb921]? = some (.cells #[.int .i64 a0_0, (.slice A0_1 l0_1.length c0_1)] 24 (0, 0))) ∧ Aside0 (Below w.heap.size w wc))
                case first =>
                  have H := HC15.out; clear HC15; by_cases c16 : (rd l1 x27_2) < (-1099511627776)
                  · rw [if_pos c16] at H
                    have c16b0 : decide ((rd l1 x27_2) < (-1099511627776)) = true := eT_ c16; clear c16; (first | rw [c16b0] | (simp only [i64_w, i32_w]; rw [c16b0]) | skip)
                    have H' := Z_ H; clear H; go_wp2; repeat (go_quiet (fail); try go_wp2)
                    go_meet
                    case rel => exact ⟨_, (true), (by first | rfl | (simp; done) | (simp [*]; done)), H', ⟨by have := HJ2.out; have := HK2.out; first | omega | exact nR_ _⟩, ⟨by (with_reducible repeat (first | refine bN_ ?_ _ | refine bD_ ?_ | refine bA_ ?_ _)); exact BK921.out⟩, ⟨by repeat (first | (with_reducible first | exact HB.out | apply fA_ | apply pB_ | apply fD_ | refine fE_ ?_ GE921.out) | exact HB.out)⟩⟩
                  rw [if_neg c16] at H; have c16b0 : decide ((rd l1 x27_2) < (-1099511627776)) = false := eF_ c16; clear c16; (first | rw [c16b0] | (simp only [i64_w, i32_w]; rw [c16b0]) | skip)
                  have H' := Z_ H; clear H; go_wp2; repeat (go_quiet (fail); try go_wp2)
                  go_meet
                  case rel => exact ⟨_, (decide ((rd l1 x27_2) > 1099511627776)), (by first | rfl | (simp; done) | (simp [*]; done)), H', ⟨by have := HJ2.out; have := HK2.out; first | omega | exact nR_ _⟩, ⟨by (with_reducible repeat (first | refine bN_ ?_ _ | refine bD_ ?_ | refine bA_ ?_ _)); exact BK921.out⟩, ⟨by repeat (first | (with_reducible first | exact HB.out | apply fA_ | apply pB_ | apply fD_ | refine fE_ ?_ GE921.out) | exact HB.out)⟩⟩
                case rest =>
                  clear HC15; try clear c1
                  try clear p2
                  try clear c4
                  try clear c5
                  try clear c5b0
                  try clear c5b1
                  try clear c6
                  try clear c6b0
                  try clear c6b1
                  try clear c6b2
                  try clear c8
                  try clear c8b0
                  try clear c8b1
                  try clear p9
                  try clear q9
                  try clear hx9
                  try clear qi9
                  try clear c11
                  try clear c12
                  try clear c12b0
                  try clear c13
                  try clear c13b0
                  try clear c14
                  try clear c14b0
                  try clear c16
                  try clear c16b0
                  try clear hcz10_0
                  try clear hcz10_1
                  try clear hcz7_0
                  try clear hcz7_1
                  try clear hcz9_0
                  try clear hcz9_1
                  try clear hfz10_0
                  try clear hfz10_1
                  try clear hfz7_0
                  try clear hfz7_1
                  try clear hfz9_0
                  try clear hfz9_1
                  try clear hx922_0
                  try clear hx923_0
                  try clear p2
                  try clear p9
                  try clear p922
                  try clear p923
                  try clear q9
                  try clear q922
                  try clear q923
                  obtain ⟨kq, x36_14, rfl, HA, HJ14, BK921, HB⟩ := hcut
                  cases kq with
                  | zero => exact absurd HA.out (by simp [snowlinelaw04_fulfils.j2])
                  | succ kj14 =>
                    have H := HA.out; clear HA; simp only [snowlinelaw04_fulfils.j2] at H; by_cases c17 : x36_14 = true
                    · subst c17
                      have H1 : (some false) = some r := by rw [if_pos rfl] at H; exact H
                      clear H; have H := H1; clear H1; obtain rfl := oI_ H; go_wp2; repeat (go_quiet (fail); try go_wp2)
                      go_ret; exact ⟨by first | rfl | (simp [errW_none, errW_some] <;> rfl) | (simp [*, errW_none, errW_some] <;> rfl), by repeat (first | (with_reducible first | exact HB.out | apply fA_ | apply pB_ | apply fD_ | refine fE_ ?_ GE921.out) | exact HB.out)⟩
                    replace c17 := bE_.mpr c17; subst c17; have H1 : (snowlinelaw04_fulfils.l0 kj14 l1 l1 (l1.length : Int) (wrap64 (x27_2 + 1)) a0_0 l0_1) = some r := by rw [if_neg (show ¬ (false = true) by decide)] at H; exact H
                    clear H; have H := H1; clear H1; have H' := Z_ H; clear H; go_wp2; repeat (go_quiet (fail); try go_wp2)
                    go_roundg kj14
                    case measure => have := HJ2.out; have := HK2.out; have := HJ14.out; omega
                    case rel => exact ⟨(wrap64 (x27_2 + 1)), (by first | rfl | (simp; done) | (simp [*]; done)), H', ⟨by have := HJ2.out; have := HK2.out; have := HJ14.out; omega⟩, ⟨by (with_reducible repeat (first | refine bN_ ?_ _ | refine bD_ ?_ | refine bA_ ?_ _)); exact BK921.out⟩, ⟨by repeat (first | (with_reducible first | exact HB.out | apply fA_ | apply pB_ | apply fD_ | refine fE_ ?_ GE921.out) | exact HB.out)⟩⟩
              rw [if_neg c14] at H; exact absurd H (by simp)
            rw [if_neg c13] at H; exact absurd H (by simp)
          rw [if_neg c12] at H; have c12b0 : decide (x27_2 < (l1.length : Int)) = false := eF_ c12; clear c12; have H' := Z_ H; clear H; have hcz18_0 : wr.cell? ⟨gb921, 0, none⟩ = some (.int .i64 a0_0) := (bC_ BK921.out 0).trans rfl; have hcz18_1 : wr.cell? ⟨gb921, 1, none⟩ = some (.slice A0_1 l0_1.length c0_1) := (bC_ BK921.out 1).trans rfl; have hfz18_0 := bF_ BK921.out 0; have hfz18_1 := bF_ BK921.out 1; go_wp2; repeat (go_quiet (fail); try go_wp2)
          go_loopg [41] k2 (fun kq v41 w' => ∃ (x41_3 : Int), v41 = .int .i64 x41_3 ∧ Aside0 (snowlinelaw04_fulfils.l1 kq l1 l0_1 (l0_1.length : Int) x41_3 = some r) ∧ Aside0 (kq ≤ k2) ∧ Aside0 (w'.heap[gb921]? = some (.cells #[.int .i64 a0_0, (.slice A0_1 l0_1.length c0_1)] 24 (0, 0))) ∧ Aside0 (Below w.heap.size w w'))
          case atStart => exact ⟨(0), (by first | rfl | (simp; done) | (simp [*]; done)), H', ⟨nR_ _⟩, ⟨by (with_reducible repeat (first | refine bN_ ?_ _ | refine bD_ ?_ | refine bA_ ?_ _)); exact BK921.out⟩, ⟨by repeat (first | (with_reducible first | exact HB.out | apply fA_ | apply pB_ | apply fD_ | refine fE_ ?_ GE921.out) | exact HB.out)⟩⟩
          case round =>
            clear H'; try clear c1
            try clear p2
            try clear c4
            try clear c5
            try clear c5b0
            try clear c5b1
            try clear c6
            try clear c6b0
            try clear c6b1
            try clear c6b2
            try clear p6
            try clear c8
            try clear c8b0
            try clear c8b1
            try clear p9
            try clear q9
            try clear hx9
            try clear qi9
            try clear c11
            try clear c12
            try clear c12b0
            try clear c13
            try clear c13b0
            try clear c14
            try clear c14b0
            try clear c16
            try clear c16b0
            try clear c17
            try clear hcz10_0
            try clear hcz10_1
            try clear hcz18_0
            try clear hcz18_1
            try clear hcz7_0
            try clear hcz7_1
            try clear hcz9_0
            try clear hcz9_1
            try clear hfz10_0
            try clear hfz10_1
            try clear hfz18_0
            try clear hfz18_1
            try clear hfz7_0
            try clear hfz7_1
            try clear hfz9_0
            try clear hfz9_1
            try clear hx922_0
            try clear hx923_0
            try clear p2
            try clear p9
            try clear p922
            try clear p923
            try clear q9
            try clear q922
            try clear q923
            obtain ⟨x41_3, rfl, HA, HK3, BK921, HB⟩ := hrel
            cases gk with
            | zero => exact absurd HA.out (by simp [snowlinelaw04_fulfils.l1])
            | succ k3 =>
              have H := HA.out; clear HA; simp only [snowlinelaw04_fulfils.l1] at H; by_cases c19 : x41_3 < (l0_1.length : Int)
              · rw [if_pos c19] at H
                have c19b0 : decide (x41_3 < (l0_1.length : Int)) = true := eT_ c19; clear c19; by_cases c20 : 0 ≤ x41_3
                · rw [if_pos c20] at H
                  have c20b0 : decide (0 ≤ x41_3) = true := eT_ c20; clear c20; by_cases c21 : x41_3 < (l0_1.length : Int)
                  · rw [if_pos c21] at H
                    have c21b0 : decide (x41_3 < (l0_1.length : Int)) = true := eT_ c21; clear c21; have HC22 := Z_ H; clear H; have p924 : 0 ≤ (x41_3 : Int) := dT_ (by first | (with_reducible assumption) | assumption); have q924 : x41_3 < (l0_1.length : Int) := dT_ (by first | (with_reducible assumption) | assumption); obtain ⟨ad924, e924, hx924_0, hx924_1, hx924_2⟩ := at_T39 HR0_1.out x41_3 p924 q924; cases e924
                    replace hx924_0 := (HB.out.cell (World.block_lt_of_cell? w _ hx924_0)).trans hx924_0; replace hx924_1 := (HB.out.cell (World.block_lt_of_cell? w _ hx924_1)).trans hx924_1; replace hx924_2 := (HB.out.cell (World.block_lt_of_cell? w _ hx924_2)).trans hx924_2; replace p924 := eq_true p924; replace q924 := eq_true q924; go_upto_region 12 with (first | ((with_reducible refine gate_dst (N := 8) rfl ?_); (try (refine gate_guard (by rfl) ?_; dsimp only)); refine box_event ?hg (N := 8) ?hd (cs := #[.int .i64 0, .int .i64 0, .int .i64 0]) (t := 39) ?hr ?_; (case hd => rfl); (case hg => rfl); (case hr => first | (go_simp; done) | (go_simp; rfl)); intro gb925 hg w23 hbox hb; have n0_ := Z_ (bB_ (g := gb921) (o := .cells #[.int .i64 a0_0, .slice (some ad924) l0_1.length c0_1] 24 (0, 0)) (by (with_reducible repeat (first | refine bN_ ?_ _ | refine bD_ ?_ | refine bA_ ?_ _)); exact BK921.out) hb); have n1_ := Z_ (fS_ (by repeat (first | (with_reducible first | exact HB.out | apply fA_ | apply pB_ | apply fD_ | refine fE_ ?_ GE921.out) | exact HB.out)) hb); have n2_ := Z_ (hbox); have n3_ := Z_ ((by rw [hg]; exact (fZ_ (by repeat (first | (with_reducible first | exact HB.out | apply fA_ | apply pB_ | apply fD_ | refine fE_ ?_ GE921.out) | exact HB.out))) : w.heap.size ≤ gb925)); have n4_ := Z_ ((by rw [hg]; exact (fZ_ (by repeat (first | (with_reducible first | exact HB.out | apply fA_ | apply pB_ | apply fD_ | refine fE_ ?_ GE921.out) | exact HB.out))) : w.heap.size ≤ gb925)); have n5_ := Z_ ((by rw [hg]; exact Nat.ne_of_lt (blk_lt (g := gb921) (o := .cells #[.int .i64 a0_0, .slice (some ad924) l0_1.length c0_1] 24 (0, 0)) (by (with_reducible repeat (first | refine bN_ ?_ _ | refine bD_ ?_ | refine bA_ ?_ _)); exact BK921.out)) : gb921 ≠ gb925)); have n6_ := Z_ ((by rw [hg]; exact Nat.ne_of_gt (blk_lt (g := gb921) (o := .cells #[.int .i64 a0_0, .slice (some ad924) l0_1.length c0_1] 24 (0, 0)) (by (with_reducible repeat (first | refine bN_ ?_ _ | refine bD_ ?_ | refine bA_ ?_ _)); exact BK921.out)) : gb925 ≠ gb921)); clear BK921; clear HB; have BK921 := n0_; have HB := n1_; have BK925 := n2_; have GW925 := n3_; have GE925 := n4_; have NB921_925 := n5_; have NB925_921 := n6_; clear n0_ n1_ n2_ n3_ n4_ n5_ n6_; clear hb hbox hg; have hnb24 := NB925_921.out; have hnc24 := NB921_925.out; have hcz25_0 : w23.cell? ⟨gb925, 0, none⟩ = some (.int .i64 0) := (bC_ BK925.out 0).trans rfl; have hcz25_1 : w23.cell? ⟨gb925, 1, none⟩ = some (.int .i64 0) := (bC_ BK925.out 1).trans rfl; have hcz25_2 : w23.cell? ⟨gb925, 2, none⟩ = some (.int .i64 0) := (bC_ BK925.out 2).trans rfl; have hfz25_0 := bF_ BK925.out 0; have hfz25_1 := bF_ BK925.out 1; have hfz25_2 := bF_ BK925.out 2)); repeat (go_quiet (first | ((with_reducible refine gate_dst (N := 8) rfl ?_); (try (refine gate_guard (by rfl) ?_; dsimp only)); refine box_event ?hg (N := 8) ?hd (cs := #[.int .i64 0, .int .i64 0, .int .i64 0]) (t := 39) ?hr ?_; (case hd => rfl); (case hg => rfl); (case hr => first | (go_simp; done) | (go_simp; rfl)); intro gb925 hg w23 hbox hb; have n0_ := Z_ (bB_ (g := gb921) (o := .cells #[.int .i64 a0_0, .slice (some ad924) l0_1.length c0_1] 24 (0, 0)) (by (with_reducible repeat (first | refine bN_ ?_ _ | refine bD_ ?_ | refine bA_ ?_ _)); exact BK921.out) hb); have n1_ := Z_ (fS_ (by repeat (first | (with_reducible first | exact HB.out | apply fA_ | apply pB_ | apply fD_ | refine fE_ ?_ GE921.out) | exact HB.out)) hb); have n2_ := Z_ (hbox); have n3_ := Z_ ((by rw [hg]; exact (fZ_ (by repeat (first | (with_reducible first | exact HB.out | apply fA_ | apply pB_ | apply fD_ | refine fE_ ?_ GE921.out) | exact HB.out))) : w.heap.size ≤ gb925)); have n4_ := Z_ ((by rw [hg]; exact (fZ_ (by repeat (first | (with_reducible first | exact HB.out | apply fA_ | apply pB_ | apply fD_ | refine fE_ ?_ GE921.out) | exact HB.out))) : w.heap.size ≤ gb925)); have n5_ := Z_ ((by rw [hg]; exact Nat.ne_of_lt (blk_lt (g := gb921) (o := .cells #[.int .i64 a0_0, .slice (some ad924) l0_1.length c0_1] 24 (0, 0)) (by (with_reducible repeat (first | refine bN_ ?_ _ | refine bD_ ?_ | refine bA_ ?_ _)); exact BK921.out)) : gb921 ≠ gb925)); have n6_ := Z_ ((by rw [hg]; exact Nat.ne_of_gt (blk_lt (g := gb921) (o := .cells #[.int .i64 a0_0, .slice (some ad924) l0_1.length c0_1] 24 (0, 0)) (by (with_reducible repeat (first | refine bN_ ?_ _ | refine bD_ ?_ | refine bA_ ?_ _)); exact BK921.out)) : gb925 ≠ gb921)); clear BK921; clear HB; have BK921 := n0_; have HB := n1_; have BK925 := n2_; have GW925 := n3_; have GE925 := n4_; have NB921_925 := n5_; have NB925_921 := n6_; clear n0_ n1_ n2_ n3_ n4_ n5_ n6_; clear hb hbox hg; have hnb24 := NB925_921.out; have hnc24 := NB921_925.out; have hcz25_0 : w23.cell? ⟨gb925, 0, none⟩ = some (.int .i64 0) := (bC_ BK925.out 0).trans rfl; have hcz25_1 : w23.cell? ⟨gb925, 1, none⟩ = some (.int .i64 0) := (bC_ BK925.out 1).trans rfl; have hcz25_2 : w23.cell? ⟨gb925, 2, none⟩ = some (.int .i64 0) := (bC_ BK925.out 2).trans rfl; have hfz25_0 := bF_ BK925.out 0; have hfz25_1 := bF_ BK925.out 1; have hfz25_2 := bF_ BK925.out 2)); go_upto_region 12 with (first | ((with_reducible refine gate_dst (N := 8) rfl ?_); (try (refine gate_guard (by rfl) ?_; dsimp only)); refine box_event ?hg (N := 8) ?hd (cs := #[.int .i64 0, .int .i64 0, .int .i64 0]) (t := 39) ?hr ?_; (case hd => rfl); (case hg => rfl); (case hr => first | (go_simp; done) | (go_simp; rfl)); intro gb925 hg w23 hbox hb; have n0_ := Z_ (bB_ (g := gb921) (o := .cells #[.int .i64 a0_0, .slice (some ad924) l0_1.length c0_1] 24 (0, 0)) (by (with_reducible repeat (first | refine bN_ ?_ _ | refine bD_ ?_ | refine bA_ ?_ _)); exact BK921.out) hb); have n1_ := Z_ (fS_ (by repeat (first | (with_reducible first | exact HB.out | apply fA_ | apply pB_ | apply fD_ | refine fE_ ?_ GE921.out) | exact HB.out)) hb); have n2_ := Z_ (hbox); have n3_ := Z_ ((by rw [hg]; exact (fZ_ (by repeat (first | (with_reducible first | exact HB.out | apply fA_ | apply pB_ | apply fD_ | refine fE_ ?_ GE921.out) | exact HB.out))) : w.heap.size ≤ gb925)); have n4_ := Z_ ((by rw [hg]; exact (fZ_ (by repeat (first | (with_reducible first | exact HB.out | apply fA_ | apply pB_ | apply fD_ | refine fE_ ?_ GE921.out) | exact HB.out))) : w.heap.size ≤ gb925)); have n5_ := Z_ ((by rw [hg]; exact Nat.ne_of_lt (blk_lt (g := gb921) (o := .cells #[.int .i64 a0_0, .slice (some ad924) l0_1.length c0_1] 24 (0, 0)) (by (with_reducible repeat (first | refine bN_ ?_ _ | refine bD_ ?_ | refine bA_ ?_ _)); exact BK921.out)) : gb921 ≠ gb925)); have n6_ := Z_ ((by rw [hg]; exact Nat.ne_of_gt (blk_lt (g := gb921) (o := .cells #[.int .i64 a0_0, .slice (some ad924) l0_1.length c0_1] 24 (0, 0)) (by (with_reducible repeat (first | refine bN_ ?_ _ | refine bD_ ?_ | refine bA_ ?_ _)); exact BK921.out)) : gb925 ≠ gb921)); clear BK921; clear HB; have BK921 := n0_; have HB := n1_; have BK925 := n2_; have GW925 := n3_; have GE925 := n4_; have NB921_925 := n5_; have NB925_921 := n6_; clear n0_ n1_ n2_ n3_ n4_ n5_ n6_; clear hb hbox hg; have hnb24 := NB925_921.out; have hnc24 := NB921_925.out; have hcz25_0 : w23.cell? ⟨gb925, 0, none⟩ = some (.int .i64 0) := (bC_ BK925.out 0).trans rfl; have hcz25_1 : w23.cell? ⟨gb925, 1, none⟩ = some (.int .i64 0) := (bC_ BK925.out 1).trans rfl; have hcz25_2 : w23.cell? ⟨gb925, 2, none⟩ = some (.int .i64 0) := (bC_ BK925.out 2).trans rfl; have hfz25_0 := bF_ BK925.out 0; have hfz25_1 := bF_ BK925.out 1; have hfz25_2 := bF_ BK925.out 2)))
                    (try simp only [Act.put, sT_, sZ_, sS_])
                    go_cut [82] (fun v82 wc => ∃ (kq : Nat) (x82_21 : Bool), v82 = .bool x82_21 ∧ Aside0 (snowlinelaw04_fulfils.j4 kq l1 l0_1 (l0_1.length : Int) x41_3 x82_21 = some r) ∧ Aside0 (kq ≤ k3) ∧ Aside0 (wc.heap[gb921]? = some (.cells #[.int .i64 a0_0, (.slice (some ad924) l0_1.length c0_1)] 24 (0, 0))) ∧ Aside0 (wc.heap[gb925]? = some (.cells #[.int .i64 ((rd_T39 l0_1 x41_3).f0), .int .i64 ((rd_T39 l0_1 x41_3).f1), .int .i64 ((rd_T39 l0_1 x41_3).f2)] 39 (0, 0))) ∧ Aside0 (Below w.heap.size w wc))
                    case first =>
                      have H := HC22.out; clear HC22; by_cases c26 : ((rd_T39 l0_1 x41_3).f0) < 0
                      · rw [if_pos c26] at H
                        have c26b0 : decide (((rd_T39 l0_1 x41_3).f0) < 0) = true := eT_ c26; clear c26; (first | rw [c26b0] | (simp only [i64_w, i32_w]; rw [c26b0]) | skip)
                        have H' := Z_ H; clear H; have hnb27 := NB925_921.out; have hnc27 := NB921_925.out; have hcz28_0 : w23.cell? ⟨gb925, 0, none⟩ = some (.int .i64 0) := (bC_ BK925.out 0).trans rfl; have hcz28_1 : w23.cell? ⟨gb925, 1, none⟩ = some (.int .i64 0) := (bC_ BK925.out 1).trans rfl; have hcz28_2 : w23.cell? ⟨gb925, 2, none⟩ = some (.int .i64 0) := (bC_ BK925.out 2).trans rfl; have hfz28_0 := bF_ BK925.out 0; have hfz28_1 := bF_ BK925.out 1; have hfz28_2 := bF_ BK925.out 2; go_wp2; repeat (go_quiet (fail); try go_wp2)
                        go_meet
                        case rel => exact ⟨_, (true), (by first | rfl | (simp; done) | (simp [*]; done)), H', ⟨by have := HJ2.out; have := HK2.out; have := HK3.out; first | omega | exact nR_ _⟩, ⟨by (with_reducible repeat (first | refine bN_ ?_ _ | refine bD_ ?_ | refine bA_ ?_ _)); refine blk_far ?_ NB921_925.out _; (with_reducible repeat (first | refine bN_ ?_ _ | refine bD_ ?_ | refine bA_ ?_ _)); refine blk_far ?_ NB921_925.out _; (with_reducible repeat (first | refine bN_ ?_ _ | refine bD_ ?_ | refine bA_ ?_ _)); refine blk_far ?_ NB921_925.out _; (with_reducible repeat (first | refine bN_ ?_ _ | refine bD_ ?_ | refine bA_ ?_ _)); exact BK921.out⟩, ⟨by (with_reducible repeat (first | refine bN_ ?_ _ | refine bD_ ?_ | refine bA_ ?_ _)); refine blk_put (cs := #[.int .i64 ((rd_T39 l0_1 x41_3).f0), .int .i64 ((rd_T39 l0_1 x41_3).f1), .int .i64 0]) ?_ 2 _ rfl; (with_reducible repeat (first | refine bN_ ?_ _ | refine bD_ ?_ | refine bA_ ?_ _)); refine blk_put (cs := #[.int .i64 ((rd_T39 l0_1 x41_3).f0), .int .i64 0, .int .i64 0]) ?_ 1 _ rfl; (with_reducible repeat (first | refine bN_ ?_ _ | refine bD_ ?_ | refine bA_ ?_ _)); refine blk_put (cs := #[.int .i64 0, .int .i64 0, .int .i64 0]) ?_ 0 _ rfl; (with_reducible repeat (first | refine bN_ ?_ _ | refine bD_ ?_ | refine bA_ ?_ _)); exact BK925.out⟩, ⟨by repeat (first | (with_reducible first | exact HB.out | apply fA_ | apply pB_ | apply fD_ | refine fE_ ?_ GE921.out | refine fE_ ?_ GE925.out) | exact HB.out)⟩⟩
                      rw [if_neg c26] at H; have c26b0 : decide (((rd_T39 l0_1 x41_3).f0) < 0) = false := eF_ c26; clear c26; (first | rw [c26b0] | (simp only [i64_w, i32_w]; rw [c26b0]) | skip)
                      by_cases c29 : ((rd_T39 l0_1 x41_3).f0) ≥ (l1.length : Int)
                      · rw [if_pos c29] at H
                        have c29b0 : decide ((l1.length : Int) ≤ ((rd_T39 l0_1 x41_3).f0)) = true := eT_ c29; clear c29; have H' := Z_ H; clear H; have hnb30 := NB925_921.out; have hnc30 := NB921_925.out; have hcz31_0 : w23.cell? ⟨gb925, 0, none⟩ = some (.int .i64 0) := (bC_ BK925.out 0).trans rfl; have hcz31_1 : w23.cell? ⟨gb925, 1, none⟩ = some (.int .i64 0) := (bC_ BK925.out 1).trans rfl; have hcz31_2 : w23.cell? ⟨gb925, 2, none⟩ = some (.int .i64 0) := (bC_ BK925.out 2).trans rfl; have hfz31_0 := bF_ BK925.out 0; have hfz31_1 := bF_ BK925.out 1; have hfz31_2 := bF_ BK925.out 2; go_wp2; repeat (go_quiet (fail); try go_wp2)
                        go_meet
                        case rel => exact ⟨_, (true), (by first | rfl | (simp; done) | (simp [*]; done)), H', ⟨by have := HJ2.out; have := HK2.out; have := HK3.out; first | omega | exact nR_ _⟩, ⟨by (with_reducible repeat (first | refine bN_ ?_ _ | refine bD_ ?_ | refine bA_ ?_ _)); refine blk_far ?_ NB921_925.out _; (with_reducible repeat (first | refine bN_ ?_ _ | refine bD_ ?_ | refine bA_ ?_ _)); refine blk_far ?_ NB921_925.out _; (with_reducible repeat (first | refine bN_ ?_ _ | refine bD_ ?_ | refine bA_ ?_ _)); refine blk_far ?_ NB921_925.out _; (with_reducible repeat (first | refine bN_ ?_ _ | refine bD_ ?_ | refine bA_ ?_ _)); exact BK921.out⟩, ⟨by (with_reducible repeat (first | refine bN_ ?_ _ | refine bD_ ?_ | refine bA_ ?_ _)); refine blk_put (cs := #[.int .i64 ((rd_T39 l0_1 x41_3).f0), .int .i64 ((rd_T39 l0_1 x41_3).f1), .int .i64 0]) ?_ 2 _ rfl; (with_reducible repeat (first | refine bN_ ?_ _ | refine bD_ ?_ | refine bA_ ?_ _)); refine blk_put (cs := #[.int .i64 ((rd_T39 l0_1 x41_3).f0), .int .i64 0, .int .i64 0]) ?_ 1 _ rfl; (with_reducible repeat (first | refine bN_ ?_ _ | refine bD_ ?_ | refine bA_ ?_ _)); refine blk_put (cs := #[.int .i64 0, .int .i64 0, .int .i64 0]) ?_ 0 _ rfl; (with_reducible repeat (first | refine bN_ ?_ _ | refine bD_ ?_ | refine bA_ ?_ _)); exact BK925.out⟩, ⟨by repeat (first | (with_reducible first | exact HB.out | apply fA_ | apply pB_ | apply fD_ | refine fE_ ?_ GE921.out | refine fE_ ?_ GE925.out) | exact HB.out)⟩⟩
                      rw [if_neg c29] at H; have c29b0 : decide ((l1.length : Int) ≤ ((rd_T39 l0_1 x41_3).f0)) = false := eF_ c29; clear c29; by_cases c32 : ((rd_T39 l0_1 x41_3).f1) < 0
                      · rw [if_pos c32] at H
                        have c32b0 : decide (((rd_T39 l0_1 x41_3).f1) < 0) = true := eT_ c32; clear c32; have H' := Z_ H; clear H; have hnb33 := NB925_921.out; have hnc33 := NB921_925.out; have hcz34_0 : w23.cell? ⟨gb925, 0, none⟩ = some (.int .i64 0) := (bC_ BK925.out 0).trans rfl; have hcz34_1 : w23.cell? ⟨gb925, 1, none⟩ = some (.int .i64 0) := (bC_ BK925.out 1).trans rfl; have hcz34_2 : w23.cell? ⟨gb925, 2, none⟩ = some (.int .i64 0) := (bC_ BK925.out 2).trans rfl; have hfz34_0 := bF_ BK925.out 0; have hfz34_1 := bF_ BK925.out 1; have hfz34_2 := bF_ BK925.out 2; go_wp2; repeat (go_quiet (fail); try go_wp2)
                        go_meet
                        case rel => exact ⟨_, (true), (by first | rfl | (simp; done) | (simp [*]; done)), H', ⟨by have := HJ2.out; have := HK2.out; have := HK3.out; first | omega | exact nR_ _⟩, ⟨by (with_reducible repeat (first | refine bN_ ?_ _ | refine bD_ ?_ | refine bA_ ?_ _)); refine blk_far ?_ NB921_925.out _; (with_reducible repeat (first | refine bN_ ?_ _ | refine bD_ ?_ | refine bA_ ?_ _)); refine blk_far ?_ NB921_925.out _; (with_reducible repeat (first | refine bN_ ?_ _ | refine bD_ ?_ | refine bA_ ?_ _)); refine blk_far ?_ NB921_925.out _; (with_reducible repeat (first | refine bN_ ?_ _ | refine bD_ ?_ | refine bA_ ?_ _)); exact BK921.out⟩, ⟨by (with_reducible repeat (first | refine bN_ ?_ _ | refine bD_ ?_ | refine bA_ ?_ _)); refine blk_put (cs := #[.int .i64 ((rd_T39 l0_1 x41_3).f0), .int .i64 ((rd_T39 l0_1 x41_3).f1), .int .i64 0]) ?_ 2 _ rfl; (with_reducible repeat (first | refine bN_ ?_ _ | refine bD_ ?_ | refine bA_ ?_ _)); refine blk_put (cs := #[.int .i64 ((rd_T39 l0_1 x41_3).f0), .int .i64 0, .int .i64 0]) ?_ 1 _ rfl; (with_reducible repeat (first | refine bN_ ?_ _ | refine bD_ ?_ | refine bA_ ?_ _)); refine blk_put (cs := #[.int .i64 0, .int .i64 0, .int .i64 0]) ?_ 0 _ rfl; (with_reducible repeat (first | refine bN_ ?_ _ | refine bD_ ?_ | refine bA_ ?_ _)); exact BK925.out⟩, ⟨by repeat (first | (with_reducible first | exact HB.out | apply fA_ | apply pB_ | apply fD_ | refine fE_ ?_ GE921.out | refine fE_ ?_ GE925.out) | exact HB.out)⟩⟩
                      rw [if_neg c32] at H; have c32b0 : decide (((rd_T39 l0_1 x41_3).f1) < 0) = false := eF_ c32; clear c32; by_cases c35 : ((rd_T39 l0_1 x41_3).f1) ≥ (l1.length : Int)
                      · rw [if_pos c35] at H
                        have c35b0 : decide ((l1.length : Int) ≤ ((rd_T39 l0_1 x41_3).f1)) = true := eT_ c35; clear c35; have H' := Z_ H; clear H; have hnb36 := NB925_921.out; have hnc36 := NB921_925.out; have hcz37_0 : w23.cell? ⟨gb925, 0, none⟩ = some (.int .i64 0) := (bC_ BK925.out 0).trans rfl; have hcz37_1 : w23.cell? ⟨gb925, 1, none⟩ = some (.int .i64 0) := (bC_ BK925.out 1).trans rfl; have hcz37_2 : w23.cell? ⟨gb925, 2, none⟩ = some (.int .i64 0) := (bC_ BK925.out 2).trans rfl; have hfz37_0 := bF_ BK925.out 0; have hfz37_1 := bF_ BK925.out 1; have hfz37_2 := bF_ BK925.out 2; go_wp2; repeat (go_quiet (fail); try go_wp2)
                        go_meet
                        case rel => exact ⟨_, (true), (by first | rfl | (simp; done) | (simp [*]; done)), H', ⟨by have := HJ2.out; have := HK2.out; have := HK3.out; first | omega | exact nR_ _⟩, ⟨by (with_reducible repeat (first | refine bN_ ?_ _ | refine bD_ ?_ | refine bA_ ?_ _)); refine blk_far ?_ NB921_925.out _; (with_reducible repeat (first | refine bN_ ?_ _ | refine bD_ ?_ | refine bA_ ?_ _)); refine blk_far ?_ NB921_925.out _; (with_reducible repeat (first | refine bN_ ?_ _ | refine bD_ ?_ | refine bA_ ?_ _)); refine blk_far ?_ NB921_925.out _; (with_reducible repeat (first | refine bN_ ?_ _ | refine bD_ ?_ | refine bA_ ?_ _)); exact BK921.out⟩, ⟨by (with_reducible repeat (first | refine bN_ ?_ _ | refine bD_ ?_ | refine bA_ ?_ _)); refine blk_put (cs := #[.int .i64 ((rd_T39 l0_1 x41_3).f0), .int .i64 ((rd_T39 l0_1 x41_3).f1), .int .i64 0]) ?_ 2 _ rfl; (with_reducible repeat (first | refine bN_ ?_ _ | refine bD_ ?_ | refine bA_ ?_ _)); refine blk_put (cs := #[.int .i64 ((rd_T39 l0_1 x41_3).f0), .int .i64 0, .int .i64 0]) ?_ 1 _ rfl; (with_reducible repeat (first | refine bN_ ?_ _ | refine bD_ ?_ | refine bA_ ?_ _)); refine blk_put (cs := #[.int .i64 0, .int .i64 0, .int .i64 0]) ?_ 0 _ rfl; (with_reducible repeat (first | refine bN_ ?_ _ | refine bD_ ?_ | refine bA_ ?_ _)); exact BK925.out⟩, ⟨by repeat (first | (with_reducible first | exact HB.out | apply fA_ | apply pB_ | apply fD_ | refine fE_ ?_ GE921.out | refine fE_ ?_ GE925.out) | exact HB.out)⟩⟩
                      rw [if_neg c35] at H; have c35b0 : decide ((l1.length : Int) ≤ ((rd_T39 l0_1 x41_3).f1)) = false := eF_ c35; clear c35; by_cases c38 : 0 ≤ ((rd_T39 l0_1 x41_3).f1)
                      · rw [if_pos c38] at H
                        have c38b0 : decide (0 ≤ ((rd_T39 l0_1 x41_3).f1)) = true := eT_ c38; clear c38; by_cases c39 : ((rd_T39 l0_1 x41_3).f1) < (l1.length : Int)
                        · rw [if_pos c39] at H
                          have c39b0 : decide (((rd_T39 l0_1 x41_3).f1) < (l1.length : Int)) = true := eT_ c39; clear c39; by_cases c40 : 0 ≤ ((rd_T39 l0_1 x41_3).f0)
                          · rw [if_pos c40] at H
                            have c40b0 : decide (0 ≤ ((rd_T39 l0_1 x41_3).f0)) = true := eT_ c40; clear c40; by_cases c41 : ((rd_T39 l0_1 x41_3).f0) < (l1.length : Int)
                            · rw [if_pos c41] at H
                              have c41b0 : decide (((rd_T39 l0_1 x41_3).f0) < (l1.length : Int)) = true := eT_ c41; clear c41; have H' := Z_ H; clear H; have hnb42 := NB925_921.out; have hnc42 := NB921_925.out; have hcz43_0 : w23.cell? ⟨gb925, 0, none⟩ = some (.int .i64 0) := (bC_ BK925.out 0).trans rfl; have hcz43_1 : w23.cell? ⟨gb925, 1, none⟩ = some (.int .i64 0) := (bC_ BK925.out 1).trans rfl; have hcz43_2 : w23.cell? ⟨gb925, 2, none⟩ = some (.int .i64 0) := (bC_ BK925.out 2).trans rfl; have hfz43_0 := bF_ BK925.out 0; have hfz43_1 := bF_ BK925.out 1; have hfz43_2 := bF_ BK925.out 2; have p926 : 0 ≤ (((rd_T39 l0_1 x41_3).f1) : Int) := dT_ (by first | (with_reducible assumption) | assumption); have q926 : ((rd_T39 l0_1 x41_3).f1) < (l1.length : Int) := dT_ (by first | (with_reducible assumption) | assumption); obtain ⟨ad926, e926, hx926_0⟩ := Kd.at_int HR1.out ((rd_T39 l0_1 x41_3).f1) p926 q926; cases e926
                              have hn926_0 : ad926.block ≠ gb925 := Nat.ne_of_lt (Nat.lt_of_lt_of_le (by have := World.block_lt_of_cell? _ _ hx926_0; first | rwa [add_block] at this | exact this) GW925.out); have hn926_1 : ad926.block ≠ gb925 := Nat.ne_of_lt (Nat.lt_of_lt_of_le (by have := World.block_lt_of_cell? _ _ hx926_0; first | rwa [add_block] at this | exact this) GW925.out); have hn926_2 : ad926.block ≠ gb925 := Nat.ne_of_lt (Nat.lt_of_lt_of_le (by have := World.block_lt_of_cell? _ _ hx926_0; first | rwa [add_block] at this | exact this) GW925.out); replace hx926_0 := (HB.out.cell (World.block_lt_of_cell? w _ hx926_0)).trans hx926_0; replace hx926_0 := (cell_far (p := ⟨gb925, 0, none⟩) (by first | (rw [add_block]; exact hn926_0) | (show (Addr.add _ _).block ≠ _; rw [add_block]; exact hn926_0) | exact hn926_0) (.int .i64 ((rd_T39 l0_1 x41_3).f0))).trans hx926_0; replace hx926_0 := (cell_far (p := ⟨gb925, 1, none⟩) (by first | (rw [add_block]; exact hn926_1) | (show (Addr.add _ _).block ≠ _; rw [add_block]; exact hn926_1) | exact hn926_1) (.int .i64 ((rd_T39 l0_1 x41_3).f1))).trans hx926_0; replace hx926_0 := (cell_far (p := ⟨gb925, 2, none⟩) (by first | (rw [add_block]; exact hn926_2) | (show (Addr.add _ _).block ≠ _; rw [add_block]; exact hn926_2) | exact hn926_2) (.int .i64 ((rd_T39 l0_1 x41_3).f2))).trans hx926_0; (try have hy926_0 := fun (n_ : Nat) => (show (((((w23.drewN n_).setCell ⟨gb925, 0, none⟩ (.int .i64 ((rd_T39 l0_1 x41_3).f0))).setCell ⟨gb925, 1, none⟩ (.int .i64 ((rd_T39 l0_1 x41_3).f1))).setCell ⟨gb925, 2, none⟩ (.int .i64 ((rd_T39 l0_1 x41_3).f2)))).cell? _ = some _ from hx926_0))
                              clear hn926_0; clear hn926_1; clear hn926_2; replace p926 := eq_true p926; replace q926 := eq_true q926; have p927 : 0 ≤ (((rd_T39 l0_1 x41_3).f0) : Int) := dT_ (by first | (with_reducible assumption) | assumption); have q927 : ((rd_T39 l0_1 x41_3).f0) < (l1.length : Int) := dT_ (by first | (with_reducible assumption) | assumption); obtain ⟨ad927, e927, hx927_0⟩ := Kd.at_int HR1.out ((rd_T39 l0_1 x41_3).f0) p927 q927; obtain rfl : ad926 = ad927 := (by injection e927); have hn927_0 : ad926.block ≠ gb925 := Nat.ne_of_lt (Nat.lt_of_lt_of_le (by have := World.block_lt_of_cell? _ _ hx927_0; first | rwa [add_block] at this | exact this) GW925.out); have hn927_1 : ad926.block ≠ gb925 := Nat.ne_of_lt (Nat.lt_of_lt_of_le (by have := World.block_lt_of_cell? _ _ hx927_0; first | rwa [add_block] at this | exact this) GW925.out); have hn927_2 : ad926.block ≠ gb925 := Nat.ne_of_lt (Nat.lt_of_lt_of_le (by have := World.block_lt_of_cell? _ _ hx927_0; first | rwa [add_block] at this | exact this) GW925.out); replace hx927_0 := (HB.out.cell (World.block_lt_of_cell? w _ hx927_0)).trans hx927_0; replace hx927_0 := (cell_far (p := ⟨gb925, 0, none⟩) (by first | (rw [add_block]; exact hn927_0) | (show (Addr.add _ _).block ≠ _; rw [add_block]; exact hn927_0) | exact hn927_0) (.int .i64 ((rd_T39 l0_1 x41_3).f0))).trans hx927_0; replace hx927_0 := (cell_far (p := ⟨gb925, 1, none⟩) (by first | (rw [add_block]; exact hn927_1) | (show (Addr.add _ _).block ≠ _; rw [add_block]; exact hn927_1) | exact hn927_1) (.int .i64 ((rd_T39 l0_1 x41_3).f1))).trans hx927_0; replace hx927_0 := (cell_far (p := ⟨gb925, 2, none⟩) (by first | (rw [add_block]; exact hn927_2) | (show (Addr.add _ _).block ≠ _; rw [add_block]; exact hn927_2) | exact hn927_2) (.int .i64 ((rd_T39 l0_1 x41_3).f2))).trans hx927_0; (try have hy927_0 := fun (n_ : Nat) => (show (((((w23.drewN n_).setCell ⟨gb925, 0, none⟩ (.int .i64 ((rd_T39 l0_1 x41_3).f0))).setCell ⟨gb925, 1, none⟩ (.int .i64 ((rd_T39 l0_1 x41_3).f1))).setCell ⟨gb925, 2, none⟩ (.int .i64 ((rd_T39 l0_1 x41_3).f2)))).cell? _ = some _ from hx927_0))
                              clear hn927_0; clear hn927_1; clear hn927_2; replace p927 := eq_true p927; replace q927 := eq_true q927; go_wp2; repeat (go_quiet (fail); try go_wp2)
                              go_meet
                              case rel => exact ⟨_, (decide ((wrap64 ((rd l1 ((rd_T39 l0_1 x41_3).f1)) - (rd l1 ((rd_T39 l0_1 x41_3).f0)))) > ((rd_T39 l0_1 x41_3).f2))), (by first | rfl | (simp; done) | (simp [*]; done)), H', ⟨by have := HJ2.out; have := HK2.out; have := HK3.out; first | omega | exact nR_ _⟩, ⟨by (with_reducible repeat (first | refine bN_ ?_ _ | refine bD_ ?_ | refine bA_ ?_ _)); refine blk_far ?_ NB921_925.out _; (with_reducible repeat (first | refine bN_ ?_ _ | refine bD_ ?_ | refine bA_ ?_ _)); refine blk_far ?_ NB921_925.out _; (with_reducible repeat (first | refine bN_ ?_ _ | refine bD_ ?_ | refine bA_ ?_ _)); refine blk_far ?_ NB921_925.out _; (with_reducible repeat (first | refine bN_ ?_ _ | refine bD_ ?_ | refine bA_ ?_ _)); exact BK921.out⟩, ⟨by (with_reducible repeat (first | refine bN_ ?_ _ | refine bD_ ?_ | refine bA_ ?_ _)); refine blk_put (cs := #[.int .i64 ((rd_T39 l0_1 x41_3).f0), .int .i64 ((rd_T39 l0_1 x41_3).f1), .int .i64 0]) ?_ 2 _ rfl; (with_reducible repeat (first | refine bN_ ?_ _ | refine bD_ ?_ | refine bA_ ?_ _)); refine blk_put (cs := #[.int .i64 ((rd_T39 l0_1 x41_3).f0), .int .i64 0, .int .i64 0]) ?_ 1 _ rfl; (with_reducible repeat (first | refine bN_ ?_ _ | refine bD_ ?_ | refine bA_ ?_ _)); refine blk_put (cs := #[.int .i64 0, .int .i64 0, .int .i64 0]) ?_ 0 _ rfl; (with_reducible repeat (first | refine bN_ ?_ _ | refine bD_ ?_ | refine bA_ ?_ _)); exact BK925.out⟩, ⟨by repeat (first | (with_reducible first | exact HB.out | apply fA_ | apply pB_ | apply fD_ | refine fE_ ?_ GE921.out | refine fE_ ?_ GE925.out) | exact HB.out)⟩⟩
                            rw [if_neg c41] at H; exact absurd H (by simp)
                          rw [if_neg c40] at H; exact absurd H (by simp)
                        rw [if_neg c39] at H; exact absurd H (by simp)
                      rw [if_neg c38] at H; exact absurd H (by simp)
                    case rest =>
                      clear HC22; try clear c1
                      try clear c2
                      try clear p2
                      try clear c3
                      try clear c4
                      try clear c5
                      try clear c5b0
                      try clear c5b1
                      try clear c6
                      try clear c6b0
                      try clear c6b1
                      try clear c6b2
                      try clear p6
                      try clear c8
                      try clear c8b0
                      try clear c8b1
                      try clear p9
                      try clear q9
                      try clear hx9
                      try clear qi9
                      try clear c11
                      try clear c12
                      try clear c12b0
                      try clear c13
                      try clear c13b0
                      try clear c14
                      try clear c14b0
                      try clear c16
                      try clear c16b0
                      try clear c17
                      try clear c19
                      try clear c19b0
                      try clear c20
                      try clear c20b0
                      try clear c21
                      try clear c21b0
                      try clear c24
                      try clear c26
                      try clear c26b0
                      try clear c27
                      try clear c29
                      try clear c29b0
                      try clear c30
                      try clear c32
                      try clear c32b0
                      try clear c33
                      try clear c35
                      try clear c35b0
                      try clear c36
                      try clear c38
                      try clear c38b0
                      try clear c39
                      try clear c39b0
                      try clear c40
                      try clear c40b0
                      try clear c41
                      try clear c41b0
                      try clear c42
                      try clear hcz10_0
                      try clear hcz10_1
                      try clear hcz18_0
                      try clear hcz18_1
                      try clear hcz25_0
                      try clear hcz25_1
                      try clear hcz25_2
                      try clear hcz28_0
                      try clear hcz28_1
                      try clear hcz28_2
                      try clear hcz31_0
                      try clear hcz31_1
                      try clear hcz31_2
                      try clear hcz34_0
                      try clear hcz34_1
                      try clear hcz34_2
                      try clear hcz37_0
                      try clear hcz37_1
                      try clear hcz37_2
                      try clear hcz43_0
                      try clear hcz43_1
                      try clear hcz43_2
                      try clear hcz7_0
                      try clear hcz7_1
                      try clear hcz9_0
                      try clear hcz9_1
                      try clear hfz10_0
                      try clear hfz10_1
                      try clear hfz18_0
                      try clear hfz18_1
                      try clear hfz25_0
                      try clear hfz25_1
                      try clear hfz25_2
                      try clear hfz28_0
                      try clear hfz28_1
                      try clear hfz28_2
                      try clear hfz31_0
                      try clear hfz31_1
                      try clear hfz31_2
                      try clear hfz34_0
                      try clear hfz34_1
                      try clear hfz34_2
                      try clear hfz37_0
                      try clear hfz37_1
                      try clear hfz37_2
                      try clear hfz43_0
                      try clear hfz43_1
                      try clear hfz43_2
                      try clear hfz7_0
                      try clear hfz7_1
                      try clear hfz9_0
                      try clear hfz9_1
                      try clear hx922_0
                      try clear hx923_0
                      try clear hx924_0
                      try clear hx924_1
                      try clear hx924_2
                      try clear hx926_0
                      try clear hx927_0
                      try clear p2
                      try clear p6
                      try clear p9
                      try clear p922
                      try clear p923
                      try clear p924
                      try clear p926
                      try clear p927
                      try clear q9
                      try clear q922
                      try clear q923
                      try clear q924
                      try clear q926
                      try clear q927
                      obtain ⟨kq, x82_21, rfl, HA, HJ21, BK921, BK925, HB⟩ := hcut
                      cases kq with
                      | zero => exact absurd HA.out (by simp [snowlinelaw04_fulfils.j4])
                      | succ kj21 =>
                        have H := HA.out; clear HA; simp only [snowlinelaw04_fulfils.j4] at H; by_cases c44 : x82_21 = true
                        · subst c44
                          have H1 : (some false) = some r := by rw [if_pos rfl] at H; exact H
                          clear H; have H := H1; clear H1; obtain rfl := oI_ H; go_wp2; repeat (go_quiet (fail); try go_wp2)
                          go_ret; exact ⟨by first | rfl | (simp [errW_none, errW_some] <;> rfl) | (simp [*, errW_none, errW_some] <;> rfl), by repeat (first | (with_reducible first | exact HB.out | apply fA_ | apply pB_ | apply fD_ | refine fE_ ?_ GE921.out | refine fE_ ?_ GE925.out) | exact HB.out)⟩
                        replace c44 := bE_.mpr c44; subst c44; have H1 : (snowlinelaw04_fulfils.l1 kj21 l1 l0_1 (l0_1.length : Int) (wrap64 (x41_3 + 1))) = some r := by rw [if_neg (show ¬ (false = true) by decide)] at H; exact H
                        clear H; have H := H1; clear H1; have H' := Z_ H; clear H; go_wp2; repeat (go_quiet (fail); try go_wp2)
                        go_roundg kj21
                        case measure => have := HJ2.out; have := HK2.out; have := HK3.out; have := HJ21.out; omega
                        case rel => exact ⟨(wrap64 (x41_3 + 1)), (by first | rfl | (simp; done) | (simp [*]; done)), H', ⟨by have := HJ2.out; have := HK2.out; have := HK3.out; have := HJ21.out; omega⟩, ⟨by (with_reducible repeat (first | refine bN_ ?_ _ | refine bD_ ?_ | refine bA_ ?_ _)); exact BK921.out⟩, ⟨by repeat (first | (with_reducible first | exact HB.out | apply fA_ | apply pB_ | apply fD_ | refine fE_ ?_ GE921.out | refine fE_ ?_ GE925.out) | exact HB.out)⟩⟩
                  rw [if_neg c21] at H; exact absurd H (by simp)
                rw [if_neg c20] at H; exact absurd H (by simp)
              rw [if_neg c19] at H; have c19b0 : decide (x41_3 < (l0_1.length : Int)) = false := eF_ c19; clear c19; obtain rfl := oI_ H; go_wp2; repeat (go_quiet (fail); try go_wp2)
              go_ret; exact ⟨by first | rfl | (simp [errW_none, errW_some] <;> rfl) | (simp [*, errW_none, errW_some] <;> rfl), by repeat (first | (with_reducible first | exact HB.out | apply fA_ | apply pB_ | apply fD_ | refine fE_ ?_ GE921.out) | exact HB.out)⟩
end Go.Proofs.Ytpolojoeabmhdaa.A
/- fulfils: what it answers. -/
namespace Go.Proofs.Ytpolojoeabmhdaa.A
open Go.RowKit Go.Proofs.YtpolojoeabmhdaaW.PrintWords Go.Proofs.YtpolojoeabmhdaaW.PrintLast Go.Proofs.YtpolojoeabmhdaaW.PrintMore
/-- One difference, asked of numbers. -/
def EC (n : Int) (x : List Int) (d : S39) : Prop := 0 ≤ d.f0 ∧ d.f0 < n ∧ 0 ≤ d.f1 ∧ d.f1 < n ∧ rd x d.f1 - rd x d.f0 ≤ d.f2
structure Ful (n : Int) (L : List S39) (x : List Int) : Prop where
  l : (x.length : Int) = n
  n0 : 0 < n
  z : rd x 0 = 0
  b : ∀ v, 0 ≤ v → v < n → -1099511627776 ≤ rd x v ∧ rd x v ≤ 1099511627776
  e : ∀ k, 0 ≤ k → k < (L.length : Int) → EC n x (rd_T39 L k)
theorem ful_l1 {n : Int} {L : List S39} {x : List Int} (hx : (x.length : Int) = n) (hL : L.length ≤ 65536) (hb : ∀ v, 0 ≤ v → v < n → -1099511627776 ≤ rd x v ∧ rd x v ≤ 1099511627776) : ∀ (q : Nat) (i : Int), (q : Int) + i = L.length → 0 ≤ i →
    ∃ b, Ev (fun k => snowlinelaw04_fulfils.l1 k x L L.length i) b ∧ (b = true ↔ ∀ k, i ≤ k → k < (L.length : Int) → EC n x (rd_T39 L k))
  | 0, i, hq, hi => ⟨true, Ev.step (f := fun _ => some true) (fun k => by rw [snowlinelaw04_fulfils.l1, if_neg (by omega)]) (Ev.now _), by simp; intro k h1 h2; omega⟩
  | q + 1, i, hq, hi => by
    have hlt : i < (L.length : Int) := by omega
    have hT : Ev (fun k => snowlinelaw04_fulfils.j4 k x L L.length i true) false := Ev.step (f := fun _ => some false) (fun k => by rw [snowlinelaw04_fulfils.j4]; rfl) (Ev.now _)
    have no : ¬ EC n x (rd_T39 L i) → (false = true ↔ ∀ k, i ≤ k → k < (L.length : Int) → EC n x (rd_T39 L k)) := fun h => ⟨fun h => (by cases h), fun h2 => absurd (h2 i (Int.le_refl _) hlt) h⟩
    have hst : ∀ {b}, Ev (fun k => if (rd_T39 L i).f0 < 0 then snowlinelaw04_fulfils.j4 k x L L.length i true else if (rd_T39 L i).f0 ≥ (x.length : Int) then snowlinelaw04_fulfils.j4 k x L L.length i true else if (rd_T39 L i).f1 < 0 then snowlinelaw04_fulfils.j4 k x L L.length i true else if (rd_T39 L i).f1 ≥ (x.length : Int) then snowlinelaw04_fulfils.j4 k x L L.length i true else if 0 ≤ (rd_T39 L i).f1 then (if (rd_T39 L i).f1 < (x.length : Int) then (if 0 ≤ (rd_T39 L i).f0 then (if (rd_T39 L i).f0 < (x.length : Int) then snowlinelaw04_fulfils.j4 k x L L.length i (decide (wrap64 (rd x (rd_T39 L i).f1 - rd x (rd_T39 L i).f0) > (rd_T39 L i).f2)) else none) else none) else none) else none) b → Ev (fun k => snowlinelaw04_fulfils.l1 k x L L.length i) b := fun h =>
      Ev.step (fun k => by rw [snowlinelaw04_fulfils.l1, if_pos hlt, if_pos hi, if_pos hlt]) h
    by_cases c1 : (rd_T39 L i).f0 < 0
    · exact ⟨false, hst (Ev.pos c1 hT), no fun h => by have := h.1; omega⟩
    by_cases c2 : (rd_T39 L i).f0 ≥ (x.length : Int)
    · exact ⟨false, hst (Ev.neg c1 (Ev.pos c2 hT)), no fun h => by have := h.2.1; omega⟩
    by_cases c3 : (rd_T39 L i).f1 < 0
    · exact ⟨false, hst (Ev.neg c1 (Ev.neg c2 (Ev.pos c3 hT))), no fun h => by have := h.2.2.1; omega⟩
    by_cases c4 : (rd_T39 L i).f1 ≥ (x.length : Int)
    · exact ⟨false, hst (Ev.neg c1 (Ev.neg c2 (Ev.neg c3 (Ev.pos c4 hT)))), no fun h => by have := h.2.2.2.1; omega⟩
    have b0 := hb (rd_T39 L i).f0 (by omega) (by omega)
    have b1 := hb (rd_T39 L i).f1 (by omega) (by omega)
    have hin : ∀ {b}, Ev (fun k => snowlinelaw04_fulfils.j4 k x L L.length i (decide (wrap64 (rd x (rd_T39 L i).f1 - rd x (rd_T39 L i).f0) > (rd_T39 L i).f2))) b → Ev (fun k => snowlinelaw04_fulfils.l1 k x L L.length i) b := fun h =>
      hst (Ev.neg c1 (Ev.neg c2 (Ev.neg c3 (Ev.neg c4 (Ev.pos (by omega) (Ev.pos (by omega) (Ev.pos (by omega) (Ev.pos (by omega) h))))))))
    rw [wrap_id (by omega) (by omega)] at hin
    by_cases c5 : rd x (rd_T39 L i).f1 - rd x (rd_T39 L i).f0 > (rd_T39 L i).f2
    · rw [decide_eq_true c5] at hin
      exact ⟨false, hin hT, no fun h => by have := h.2.2.2.2; omega⟩
    rw [decide_eq_false c5] at hin
    obtain ⟨b, h1, h2⟩ := ful_l1 hx hL hb q (i + 1) (by omega) (by omega)
    refine ⟨b, hin (Ev.step (f := fun k => snowlinelaw04_fulfils.l1 k x L L.length (i + 1)) (fun k => by rw [snowlinelaw04_fulfils.j4, if_neg (by decide), wrap_id (x := i + 1) (by omega) (by omega)]) h1), h2.trans ⟨fun h k k0 k1 => ?_, fun h k k0 k1 => h k (by omega) k1⟩⟩
    by_cases e : k = i
    · rw [e]; exact ⟨by omega, by omega, by omega, by omega, by omega⟩
    · exact h k (by omega) k1
theorem ful_l0 {n : Int} {L : List S39} {x : List Int} (N : Int) (hx : (x.length : Int) = n) (hn : n ≤ 65536) (hL : L.length ≤ 65536) : ∀ (q : Nat) (i : Int), (q : Int) + i = n → 0 ≤ i → (∀ v, 0 ≤ v → v < i → -1099511627776 ≤ rd x v ∧ rd x v ≤ 1099511627776) →
    ∃ b, Ev (fun k => snowlinelaw04_fulfils.l0 k x x x.length i N L) b ∧ (b = true ↔ (∀ v, 0 ≤ v → v < n → -1099511627776 ≤ rd x v ∧ rd x v ≤ 1099511627776) ∧ ∀ k, 0 ≤ k → k < (L.length : Int) → EC n x (rd_T39 L k))
  | 0, i, hq, hi, hb => by
    have hb' : ∀ v, 0 ≤ v → v < n → -1099511627776 ≤ rd x v ∧ rd x v ≤ 1099511627776 := fun v v0 v1 => hb v v0 (by omega)
    obtain ⟨b, h1, h2⟩ := ful_l1 hx hL hb' L.length 0 (by omega) (by omega)
    exact ⟨b, Ev.step (fun k => by rw [snowlinelaw04_fulfils.l0, if_neg (by omega)]) h1, h2.trans ⟨fun h => ⟨hb', h⟩, fun h => h.2⟩⟩
  | q + 1, i, hq, hi, hb => by
    have hlt : i < (x.length : Int) := by omega
    have hT : Ev (fun k => snowlinelaw04_fulfils.j2 k x x x.length i true N L) false := Ev.step (f := fun _ => some false) (fun k => by rw [snowlinelaw04_fulfils.j2]; rfl) (Ev.now _)
    by_cases c1 : rd x i < -1099511627776
    · exact ⟨false, Ev.step (f := fun k => snowlinelaw04_fulfils.j2 k x x x.length i true N L) (fun k => by rw [snowlinelaw04_fulfils.l0, if_pos hlt, if_pos hi, if_pos hlt, if_pos c1]) hT, fun h => (by cases h), fun h => by have := h.1 i hi (by omega); omega⟩
    have hin : ∀ {b}, Ev (fun k => snowlinelaw04_fulfils.j2 k x x x.length i (decide (rd x i > 1099511627776)) N L) b → Ev (fun k => snowlinelaw04_fulfils.l0 k x x x.length i N L) b := fun h =>
      Ev.step (fun k => by rw [snowlinelaw04_fulfils.l0, if_pos hlt, if_pos hi, if_pos hlt, if_neg c1]) h
    by_cases c2 : rd x i > 1099511627776
    · rw [decide_eq_true c2] at hin
      exact ⟨false, hin hT, fun h => (by cases h), fun h => by have := h.1 i hi (by omega); omega⟩
    rw [decide_eq_false c2] at hin
    obtain ⟨b, h1, h2⟩ := ful_l0 N hx hn hL q (i + 1) (by omega) (by omega) (fun v v0 v1 => by
      by_cases e : v = i
      · rw [e]; omega
      · exact hb v v0 (by omega))
    exact ⟨b, hin (Ev.step (fun k => by rw [snowlinelaw04_fulfils.j2, if_neg (by decide), wrap_id (x := i + 1) (by omega) (by omega)]) h1), h2⟩
theorem fulfils_ev (n : Int) (L : List S39) (x : List Int) (hn : n ≤ 65536) (hL : L.length ≤ 65536) : ∃ b, Ev (fun k => snowlinelaw04_fulfils.f k n L x) b ∧ (b = true ↔ Ful n L x) := by
  unfold snowlinelaw04_fulfils.f
  have hT : Ev (fun k => snowlinelaw04_fulfils.j0 k x true n L) false := Ev.step (f := fun _ => some false) (fun k => by rw [snowlinelaw04_fulfils.j0]; rfl) (Ev.now _)
  by_cases c1 : (x.length : Int) = n
  case neg => exact ⟨false, Ev.neg c1 hT, fun h => (by cases h), fun h => absurd h.l c1⟩
  by_cases c2 : (x.length : Int) = 0
  · exact ⟨false, Ev.pos c1 (Ev.pos c2 hT), fun h => (by cases h), fun h => by have := h.n0; omega⟩
  by_cases c3 : rd x 0 = 0
  case neg =>
    refine ⟨false, Ev.pos c1 (Ev.neg c2 (Ev.pos (by omega) ?_)), fun h => (by cases h), fun h => absurd h.z c3⟩
    rw [show (rd x 0 != 0) = true from bne_iff_ne.mpr c3]
    exact hT
  obtain ⟨b, h1, h2⟩ := ful_l0 n c1 hn hL x.length 0 (by omega) (by omega) (fun v v0 v1 => by omega)
  refine ⟨b, Ev.pos c1 (Ev.neg c2 (Ev.pos (by omega) ?_)), h2.trans ⟨fun h => ⟨c1, by omega, c3, h.1, h.2⟩, fun h => ⟨h.b, h.e⟩⟩⟩
  rw [show (rd x 0 != 0) = false from bne_eq_false_iff_eq.mpr c3]
  exact Ev.step (fun k => by rw [snowlinelaw04_fulfils.j0, if_neg (by decide)]) h1
theorem Ful.asg {n : Int} {L : List S39} {x : List Int} (h : Ful n L x) : Asg L (rd x) := ⟨h.z, fun k k0 k1 => (h.e k k0 k1).2.2.2.2⟩
end Go.Proofs.Ytpolojoeabmhdaa.A
namespace Go.Proofs.Ytpolojoeabmhdaa.A
open Go.RowKit Go.Proofs.YtpolojoeabmhdaaW.PrintWords Go.Proofs.YtpolojoeabmhdaaW.PrintLast Go.Proofs.YtpolojoeabmhdaaW.PrintMore
attribute [local go_sem] max2_int min2_int max_two min_two max_three min_three max_four min_four
def snowlineref04_Sum.l0 : Nat → List Int → List Int → Int → Int → Option (Int)
  | 0, _, _, _, _ => none
  | k + 1, x0, x1, x5, x6 => if x6 < (x0.length : Int) then (if 0 ≤ x6 then (if x6 < (x1.length : Int) then (snowlineref04_Sum.l0 k x0 x1 (wrap64 (x5 + (wrap64 ((rd x0 x6) * (rd x1 x6))))) (wrap64 (x6 + 1))) else (none)) else (none)) else (some x5)
def snowlineref04_Sum.f (k : Nat) (l0 : List Int) (l1 : List Int) : Option (Int) := snowlineref04_Sum.l0 k l0 l1 0 1
theorem snowlineref04_Sum.mono_l : ∀ k, (∀ y0 y1 y2 y3, LeO (snowlineref04_Sum.l0 k y0 y1 y2 y3) (snowlineref04_Sum.l0 (k + 1) y0 y1 y2 y3))
  | 0 => fun _ _ _ _ r h => by simp [snowlineref04_Sum.l0] at h
  | k + 1 => by
    have ih0 := snowlineref04_Sum.mono_l k; intro y0 y1 y2 y3; unfold snowlineref04_Sum.l0; repeat' first | (with_reducible first | exact ih0 _ _ _ _ | exact LeO.refl _ | exact LeO.none _ | refine LeO.ite ?_ ?_ | refine LeO.bind ?_ (fun _ => ?_)) | exact ih0 _ _ _ _ | exact LeO.none _ | refine LeO.ite ?_ ?_ | refine LeO.bind ?_ (fun _ => ?_)
theorem snowlineref04_Sum.mono : ∀ a0 a1 k, LeO (snowlineref04_Sum.f k a0 a1) (snowlineref04_Sum.f (k + 1) a0 a1) := by
  intro a0 a1 k; have ih0 := snowlineref04_Sum.mono_l k; unfold snowlineref04_Sum.f; repeat' first | (with_reducible first | exact ih0 _ _ _ _ | exact LeO.refl _ | exact LeO.none _ | refine LeO.ite ?_ ?_ | refine LeO.bind ?_ (fun _ => ?_)) | exact ih0 _ _ _ _ | exact LeO.none _ | refine LeO.ite ?_ ?_ | refine LeO.bind ?_ (fun _ => ?_)
set_option maxHeartbeats 8000000 in
set_option maxRecDepth 100000 in
theorem snowlineref04_Sum.calls (k : Nat) (A0 : Option Addr) (c0 : Nat) (l0 : List Int) (A1 : Option Addr) (c1 : Nat) (l1 : List Int) (r : Int) (w : World) (hr0 : Kd.C (Kd.int .i64) w A0 l0.length l0) (hc0 : l0.length ≤ c0) (hr1 : Kd.C (Kd.int .i64) w A1 l1.length l1) (hc1 : l1.length ≤ c1) (h : snowlineref04_Sum.f k l0 l1 = some r) :
    Calls Try.prog 54 #[.slice A0 l0.length c0, .slice A1 l1.length c1] w fun e w' => e = .returned (.int .i64 r) ∧ Drawn0 w w' := by
  have HR0 := Z_ hr0; have HC0 := Z_ hc0; clear hr0 hc0; have HR1 := Z_ hr1; have HC1 := Z_ hc1; clear hr1 hc1; have H : (snowlineref04_Sum.l0 k l0 l1 0 1) = some r := h; clear h; have H' := Z_ H; clear H; go_enter Try.func54, Try.ntmps54; go_wp2; repeat (go_quiet (fail); try go_wp2)
  go_loopg [5, 6] k (fun kq v5 v6 w' => ∃ (x5_1 : Int) (x6_1 : Int), v5 = .int .i64 x5_1 ∧ v6 = .int .i64 x6_1 ∧ Aside0 (snowlineref04_Sum.l0 kq l0 l1 x5_1 x6_1 = some r) ∧ Aside0 (kq ≤ k) ∧ Drawn0 w w')
  case atStart => exact ⟨(0), (1), (by first | rfl | (simp; done) | (simp [*]; done)), (by first | rfl | (simp; done) | (simp [*]; done)), H', ⟨nR_ _⟩, by repeat (first | exact Drawn0.refl _ | apply Drawn0.step)⟩
  case round =>
    clear H'; try clear c1
    try clear p2
    obtain ⟨x5_1, x6_1, rfl, rfl, HA, HK1, ⟨m1, rfl⟩⟩ := hrel
    cases gk with
    | zero => exact absurd HA.out (by simp [snowlineref04_Sum.l0])
    | succ k1 =>
      have H := HA.out; clear HA; simp only [snowlineref04_Sum.l0] at H; by_cases c3 : x6_1 < (l0.length : Int)
      · rw [if_pos c3] at H
        have c3b0 : decide (x6_1 < (l0.length : Int)) = true := eT_ c3; clear c3; by_cases c4 : 0 ≤ x6_1
        · rw [if_pos c4] at H
          have c4b0 : decide (0 ≤ x6_1) = true := eT_ c4; clear c4; by_cases c5 : x6_1 < (l1.length : Int)
          · rw [if_pos c5] at H
            have c5b0 : decide (x6_1 < (l1.length : Int)) = true := eT_ c5; clear c5; have H' := Z_ H; clear H; have p1072 : 0 ≤ (x6_1 : Int) := dT_ (by first | (with_reducible assumption) | assumption); have q1072 : x6_1 < (l0.length : Int) := dT_ (by first | (with_reducible assumption) | assumption); obtain ⟨ad1072, e1072, hx1072_0⟩ := Kd.at_int HR0.out x6_1 p1072 q1072; cases e1072
            replace p1072 := eq_true p1072; replace q1072 := eq_true q1072; have p1073 : 0 ≤ (x6_1 : Int) := dT_ (by first | (with_reducible assumption) | assumption); have q1073 : x6_1 < (l1.length : Int) := dT_ (by first | (with_reducible assumption) | assumption); obtain ⟨ad1073, e1073, hx1073_0⟩ := Kd.at_int HR1.out x6_1 p1073 q1073; cases e1073
            replace p1073 := eq_true p1073; replace q1073 := eq_true q1073; go_wp2; repeat (go_quiet (fail); try go_wp2)
            go_roundg k1
            case measure => have := HK1.out; omega
            case rel => exact ⟨(wrap64 (x5_1 + (wrap64 ((rd l0 x6_1) * (rd l1 x6_1))))), (wrap64 (x6_1 + 1)), (by first | rfl | (simp; done) | (simp [*]; done)), (by first | rfl | (simp; done) | (simp [*]; done)), H', ⟨by have := HK1.out; omega⟩, by repeat (first | exact Drawn0.refl _ | apply Drawn0.step)⟩
          rw [if_neg c5] at H; exact absurd H (by simp)
        rw [if_neg c4] at H; exact absurd H (by simp)
      rw [if_neg c3] at H; have c3b0 : decide (x6_1 < (l0.length : Int)) = false := eF_ c3; clear c3; obtain rfl := oI_ H; go_wp2; repeat (go_quiet (fail); try go_wp2)
      go_ret; exact ⟨by first | rfl | (simp; done) | (simp [*]; done), by repeat (first | exact Drawn0.refl _ | apply Drawn0.step)⟩
end Go.Proofs.Ytpolojoeabmhdaa.A
/- CheckFlow, Sum: what they answer. -/
namespace Go.Proofs.Ytpolojoeabmhdaa.A
open Go.RowKit Go.Proofs.YtpolojoeabmhdaaW.PrintWords Go.Proofs.YtpolojoeabmhdaaW.PrintLast Go.Proofs.YtpolojoeabmhdaaW.PrintMore
theorem netF_snoc : ∀ (D : List S39) (F : List Int) (d : S39) (f v : Int), F.length = D.length → netF (D ++ [d]) (F ++ [f]) v = netF D F v + f * ind d.f0 d.f1 v
  | [], [], d, f, v, _ => by
    simp only [List.nil_append, netF, ind]
    split <;> split <;> omega
  | [], _ :: _, _, _, _, h => by simp at h
  | _ :: _, [], _, _, _, h => by simp at h
  | e :: es, g :: gs, d, f, v, h => by
    have ih := netF_snoc es gs d f v (by simpa using h)
    simp only [List.cons_append, netF]
    rw [ih]; omega
theorem take_snoc {α : Type} (l : List α) (i : Nat) (h : i < l.length) : l.take (i + 1) = l.take i ++ [l[i]] := by
  rw [List.take_add_one, List.getElem?_eq_getElem h]; rfl
section
variable {n : Nat} {D : List S39} {w F : List Int}
theorem netF_take (hl : F.length = D.length) {i : Int} (h0 : 0 ≤ i) (h1 : i < D.length) (v : Int) : netF (D.take (i + 1).toNat) (F.take (i + 1).toNat) v = netF (D.take i.toNat) (F.take i.toNat) v + rd F i * ind (rd_T39 D i).f0 (rd_T39 D i).f1 v := by
  have e1 : rd_T39 D i = D[i.toNat]'(by omega) := by
    unfold rd_T39
    rw [List.getD_eq_getElem?_getD, List.getElem?_eq_getElem (by omega)]; rfl
  have e2 : rd F i = F[i.toNat]'(by omega) := by
    unfold rd
    rw [List.getD_eq_getElem?_getD, List.getElem?_eq_getElem (by omega)]; rfl
  rw [show (i + 1).toNat = i.toNat + 1 from by omega, take_snoc D _ (by omega), take_snoc F _ (by omega), netF_snoc _ _ _ _ _ (by rw [List.length_take, List.length_take]; omega), e1, e2]
structure FlowIs (n : Nat) (D : List S39) (w F : List Int) (a : Int) : Prop where
  hw : Weighty n w
  f : Feas n D w F
  u : ∀ k, 0 ≤ k → k < (D.length : Int) → rd F k ≤ 1048576
  c : costF D F ≤ a
theorem cflow_l0 (hV : Valid n D) (hw : Weighty n w) (hl : F.length = D.length) (hF : ∀ k, 0 ≤ k → k < (D.length : Int) → 0 ≤ rd F k ∧ rd F k ≤ 1048576) (a : Int) : ∀ (q : Nat) (i : Int) (s : List Int), (q : Int) + i = D.length → 0 ≤ i → s.length = n → (∀ v, 0 ≤ v → v < (n : Int) → rd s v = rd w v - netF (D.take i.toNat) (F.take i.toNat) v ∧ -(4096 + i * 1048576) ≤ rd s v ∧ rd s v ≤ 4096 + i * 1048576) →
    ∃ e, Ev (fun k => diffs_CheckFlow.l0 k a F s D D.length i n D) e ∧ (e = 0 ∨ e = 43) ∧ (e = 0 ↔ FlowIs n D w F a)
  | 0, i, s, hq, hi, hs, hz => by
    have hn := hV.n1
    have hD := hV.l
    have hT : Ev (fun k => diffs_CheckFlow.j2 k true) 43 := Ev.step (f := fun _ => some 43) (fun k => by rw [diffs_CheckFlow.j2]; rfl) (Ev.now _)
    have hend : ∀ {b e}, ((s.set (0 : Int).toNat 0).any fun x => x != 0) = b → Ev (fun k => if b = true then diffs_CheckFlow.j2 k true else ((diffs_cost.f k n D F).bind fun t313 => diffs_CheckFlow.j2 k (decide (t313 > a)))) e → Ev (fun k => diffs_CheckFlow.l0 k a F s D D.length i n D) e := fun hb h =>
      Ev.step (fun k => by rw [diffs_CheckFlow.l0, if_neg (by omega), if_pos (by omega)]; unfold cf100.f; rw [Option.bind_some, hb]) h
    have hrd : ∀ v, 0 ≤ v → v < (n : Int) → rd (s.set (0 : Int).toNat 0) v = if v = 0 then 0 else rd w v - netF D F v := fun v v0 v1 => by
      rw [rd_set _ _ _ _ (by omega) (by omega) v0, (hz v v0 v1).1, List.take_of_length_le (by omega), List.take_of_length_le (by omega)]
    cases hb : ((s.set (0 : Int).toNat 0).any fun x => x != 0) with
    | true =>
      refine ⟨43, hend hb (Ev.pos rfl hT), Or.inr rfl, fun h => absurd h (by decide), fun h => ?_⟩
      obtain ⟨x, hx, hx2⟩ := List.any_eq_true.1 hb
      obtain ⟨v, v0, v1, rfl⟩ := mem_rd hx
      rw [List.length_set] at v1
      have := hrd v v0 (by omega)
      by_cases e : v = 0
      · rw [if_pos e] at this; rw [this] at hx2; exact absurd hx2 (by decide)
      · rw [if_neg e, h.f.bal v (by omega) (by omega)] at this
        rw [show rd (s.set (0 : Int).toNat 0) v = 0 from by omega] at hx2
        exact absurd hx2 (by decide)
    | false =>
      have hfe : Feas n D w F := ⟨hl, fun k k0 k1 => (hF k k0 k1).1, fun v v0 v1 => by
        have h1 := hrd v (by omega) v1
        rw [if_neg (by omega)] at h1
        have h2 := List.any_eq_false.1 hb (rd (s.set (0 : Int).toNat 0) v) (rd_mem (by omega) (by rw [List.length_set]; omega))
        have h3 : rd (s.set (0 : Int).toNat 0) v = 0 := by simpa using h2
        omega⟩
      obtain ⟨c1, _⟩ := cost_ev hV.e hl hD hF (n : Int)
      by_cases hc : costF D F > a
      · refine ⟨43, hend hb (Ev.neg (by decide) (c1.bind ?_)), Or.inr rfl, fun h => absurd h (by decide), fun h => by have := h.c; omega⟩
        rw [decide_eq_true hc]; exact hT
      · refine ⟨0, hend hb (Ev.neg (by decide) (c1.bind ?_)), Or.inl rfl, fun _ => ⟨hw, hfe, fun k k0 k1 => (hF k k0 k1).2, by omega⟩, fun _ => rfl⟩
        rw [decide_eq_false hc]
        exact Ev.step (f := fun _ => some 0) (fun k => by rw [diffs_CheckFlow.j2]; rfl) (Ev.now _)
  | q + 1, i, s, hq, hi, hs, hz => by
    have hlt : i < (D.length : Int) := by omega
    have hD := hV.l
    have he := hV.e i hi hlt
    have d0 := he.a
    have d1 := he.b
    have d2 := he.c
    have d3 := he.g
    obtain ⟨f0, f1⟩ := hF i hi hlt
    have z1 := hz (rd_T39 D i).f1 d2 d3
    have z0 := hz (rd_T39 D i).f0 d0 d1
    have r1 : ∀ v, 0 ≤ v → v < (n : Int) → rd (s.set (rd_T39 D i).f1.toNat (rd s (rd_T39 D i).f1 - rd F i)) v = if v = (rd_T39 D i).f1 then rd s (rd_T39 D i).f1 - rd F i else rd s v := fun v v0 v1 => rd_set _ _ _ _ d2 (by omega) v0
    have r0 := r1 (rd_T39 D i).f0 d0 d1
    have hb0 : -9223372036854775808 ≤ rd (s.set (rd_T39 D i).f1.toNat (rd s (rd_T39 D i).f1 - rd F i)) (rd_T39 D i).f0 + rd F i ∧ rd (s.set (rd_T39 D i).f1.toNat (rd s (rd_T39 D i).f1 - rd F i)) (rd_T39 D i).f0 + rd F i < 9223372036854775808 := by
      rw [r0]; split <;> omega
    have l1 : (s.set (rd_T39 D i).f1.toNat (rd s (rd_T39 D i).f1 - rd F i)).length = n := by rw [List.length_set]; exact hs
    obtain ⟨e, h1, h2, h3⟩ := cflow_l0 hV hw hl hF a q (i + 1) ((s.set (rd_T39 D i).f1.toNat (rd s (rd_T39 D i).f1 - rd F i)).set (rd_T39 D i).f0.toNat (rd (s.set (rd_T39 D i).f1.toNat (rd s (rd_T39 D i).f1 - rd F i)) (rd_T39 D i).f0 + rd F i)) (by omega) (by omega) (by rw [List.length_set]; exact l1) (fun v v0 v1 => by
      have zv := hz v v0 v1
      rw [rd_set _ _ _ _ d0 (by omega) v0, netF_take hl hi hlt, r0, r1 v v0 v1]
      unfold ind
      by_cases e0 : v = (rd_T39 D i).f0
      · by_cases e1 : (rd_T39 D i).f0 = (rd_T39 D i).f1
        · rw [if_pos e0, if_pos e1, if_pos (by omega), if_pos (by omega)]
          have e3 : v = (rd_T39 D i).f1 := by omega
          rw [← e3] at z1 ⊢
          omega
        · rw [if_pos e0, if_neg e1, if_neg (by omega), if_pos e0.symm, ← e0]
          omega
      · rw [if_neg e0]
        by_cases e1 : v = (rd_T39 D i).f1
        · rw [if_pos e1, if_pos e1.symm, if_neg (fun h => e0 h.symm), ← e1]
          omega
        · rw [if_neg e1, if_neg (fun h => e1 h.symm), if_neg (fun h => e0 h.symm)]
          omega)
    refine ⟨e, Ev.step (fun k => ?_) h1, h2, h3⟩
    rw [diffs_CheckFlow.l0, if_pos hlt, if_pos hi, if_pos hlt, if_pos d2, if_pos (by omega), if_pos (by omega), wrap_id (x := rd s _ - _) (by omega) (by omega), Option.bind_some, if_pos d0, if_pos (by omega), wrap_id hb0.1 hb0.2, wrap_id (x := i + 1) (by omega) (by omega)]
theorem cflow_ev (hV : Valid n D) (w F : List Int) (a : Int) : ∃ e, Ev (fun k => diffs_CheckFlow.f k n D w a F) e ∧ (e = 0 ↔ FlowIs n D w F a) := by
  have hask := fun p q : Bool => asked_ev n D [p, q] (by simp)
  simp only [if_pos (validB_iff.2 hV)] at hask
  have hbad : ∀ p q : Bool, (p && q) = false → Ev (fun k => diffs_asked.f k n D [p, q]) 1 := fun p q h => by
    have := hask p q
    rw [if_pos (by cases p <;> cases q <;> first | rfl | exact absurd h (by decide))] at this
    exact this
  -- what j0 answers, the flow's own bit being known
  have hj : ∀ b : Bool, (b = true → F.length = D.length ∧ ∀ k, 0 ≤ k → k < (D.length : Int) → 0 ≤ rd F k ∧ rd F k ≤ 1048576) → (b = false → ¬ FlowIs n D w F a) → ∃ e, Ev (fun k => diffs_CheckFlow.j0 k w a F b n D) e ∧ (e = 0 ↔ FlowIs n D w F a) := fun b hb hb2 => by
    have hin : ∀ {e}, Ev (fun k => (diffs_asked.f k n D [weightyB n w, b]).bind fun t299 => (if t299 = 0 then ((slices_Clone_int_int.f w).bind fun t300 => (diffs_CheckFlow.l0 k a F t300 D D.length 0 n D)) else some t299)) e → Ev (fun k => diffs_CheckFlow.j0 k w a F b n D) e := fun h =>
      Ev.step (fun k => by rw [diffs_CheckFlow.j0, weighty_some, Option.bind_some]) h
    cases hwb : weightyB n w with
    | false =>
      rw [hwb] at hin
      exact ⟨1, hin ((hbad false b rfl).bind (Ev.neg (by decide) (Ev.now _))), fun h => absurd h (by decide), fun h => by rw [weightyB_iff.2 h.hw] at hwb; cases hwb⟩
    | true =>
      rw [hwb] at hin
      cases b with
      | false => exact ⟨1, hin ((hbad true false rfl).bind (Ev.neg (by decide) (Ev.now _))), fun h => absurd h (by decide), fun h => absurd h (hb2 rfl)⟩
      | true =>
        have hw := weightyB_iff.1 hwb
        have hwl := hw.l
        have hn2 := hV.n2
        obtain ⟨hl, hF⟩ := hb rfl
        have h0 : Ev (fun k => diffs_asked.f k n D [true, true]) 0 := by
          have := hask true true
          rw [if_neg (by decide)] at this
          exact this
        obtain ⟨e, h1, _, h3⟩ := cflow_l0 hV hw hl hF a D.length 0 w (by omega) (by omega) (by omega) (fun v v0 v1 => by
          have := hw.b v v0 v1
          simp only [show (0 : Int).toNat = 0 from rfl, List.take_zero, netF]
          omega)
        refine ⟨e, hin (h0.bind (Ev.pos rfl ?_)), h3⟩
        unfold slices_Clone_int_int.f
        rw [if_pos (by omega)]
        simp only [Option.bind_some]
        exact h1
  unfold diffs_CheckFlow.f
  by_cases hl : (F.length : Int) = (D.length : Int)
  case neg =>
    obtain ⟨e, h1, h2⟩ := hj false (fun h => by cases h) (fun _ h => hl (by rw [h.f.lf]))
    exact ⟨e, Ev.neg hl h1, h2⟩
  have hany : (F.any fun x => !in_ x 0 1048576) = false ↔ ∀ k, 0 ≤ k → k < (D.length : Int) → 0 ≤ rd F k ∧ rd F k ≤ 1048576 := by
    rw [List.any_eq_false]
    constructor
    · intro h k k0 k1
      have := h (rd F k) (rd_mem k0 (by omega))
      simpa [in_] using this
    · intro h x hx
      obtain ⟨v, v0, v1, rfl⟩ := mem_rd hx
      have := h v v0 (by omega)
      simp [in_, this.1, this.2]
  unfold cf97.f
  simp only [Option.bind_some]
  cases hA : (F.any fun x => !in_ x 0 1048576) with
  | true =>
    obtain ⟨e, h1, h2⟩ := hj false (fun h => by cases h) (fun _ h => by
      have := hany.2 (fun k k0 k1 => ⟨h.f.pos k k0 k1, h.u k k0 k1⟩)
      rw [hA] at this; cases this)
    exact ⟨e, Ev.pos hl h1, h2⟩
  | false =>
    obtain ⟨e, h1, h2⟩ := hj true (fun _ => ⟨by omega, hany.1 hA⟩) (fun h => by cases h)
    exact ⟨e, Ev.pos hl h1, h2⟩
theorem sum_l0 {x : List Int} (hw : Weighty n w) (hx : (x.length : Int) = n) (hn : n ≤ 256) (hb : ∀ v, 0 ≤ v → v < (n : Int) → -1099511627776 ≤ rd x v ∧ rd x v ≤ 1099511627776) : ∀ (q : Nat) (i : Nat) (acc : Int), q + i = n → acc = sumN (fun v => if v = 0 then 0 else rd w v * rd x v) i → -((i : Int) * 4503599627370496) ≤ acc → acc ≤ (i : Int) * 4503599627370496 → 1 ≤ i →
    Ev (fun k => snowlineref04_Sum.l0 k w x acc i) (sumN (fun v => if v = 0 then 0 else rd w v * rd x v) n) := by
  intro q
  induction q with
  | zero =>
    intro i acc hq ha h1 h2 hi
    have hwl := hw.l
    have e : i = n := by omega
    rw [e] at ha
    rw [← ha]
    exact Ev.step (f := fun _ => some acc) (fun k => by rw [snowlineref04_Sum.l0, if_neg (by omega)]) (Ev.now _)
  | succ q ihq =>
    intro i acc hq ha h1 h2 hi
    have hwl := hw.l
    have bw := hw.b i (by omega) (by omega)
    have bx := hb i (by omega) (by omega)
    have key : ∀ p r : Int, 0 ≤ p → p ≤ 4096 → 0 ≤ r → r ≤ 1099511627776 → 0 ≤ p * r ∧ p * r ≤ 4503599627370496 := fun p r p0 p1 r0 r1 => ⟨Int.mul_nonneg p0 r0, Int.mul_le_mul p1 r1 r0 (by omega)⟩
    have bp : -4503599627370496 ≤ rd w i * rd x i ∧ rd w i * rd x i ≤ 4503599627370496 := by
      by_cases s1 : 0 ≤ rd w i
      · by_cases s2 : 0 ≤ rd x i
        · have := key _ _ s1 bw.2 s2 bx.2; omega
        · have := key (rd w i) (-(rd x i)) s1 bw.2 (by omega) (by omega)
          rw [Int.mul_neg] at this; omega
      · by_cases s2 : 0 ≤ rd x i
        · have := key (-(rd w i)) (rd x i) (by omega) (by omega) s2 bx.2
          rw [Int.neg_mul] at this; omega
        · have := key (-(rd w i)) (-(rd x i)) (by omega) (by omega) (by omega) (by omega)
          rw [Int.neg_mul_neg] at this; omega
    have ih := ihq (i + 1) (acc + rd w i * rd x i) (by omega) (by simp only [sumN]; rw [if_neg (by omega), ha]) (by push_cast; omega) (by push_cast; omega) (by omega)
    refine Ev.step (fun k => ?_) ih
    rw [snowlineref04_Sum.l0, if_pos (by omega), if_pos (by omega), if_pos (by omega), wrap_id (x := rd w i * rd x i) (by omega) (by omega), wrap_id (by omega) (by omega), wrap_id (x := (i : Int) + 1) (by omega) (by omega)]
    rfl
theorem sum_ev {x : List Int} (hw : Weighty n w) (hx : (x.length : Int) = n) (hn0 : 0 < n) (hn : n ≤ 256) (hb : ∀ v, 0 ≤ v → v < (n : Int) → -1099511627776 ≤ rd x v ∧ rd x v ≤ 1099511627776) : Ev (fun k => snowlineref04_Sum.f k w x) (sumW n w (rd x)) :=
  sum_l0 hw hx hn hb (n - 1) 1 0 (by omega) (by simp [sumN]) (by omega) (by omega) (by omega)
end
end Go.Proofs.Ytpolojoeabmhdaa.A
/- Most, Best and Flow together. -/
namespace Go.Proofs.Ytpolojoeabmhdaa.A
open Go.RowKit Go.Proofs.YtpolojoeabmhdaaW.PrintWords Go.Proofs.YtpolojoeabmhdaaW.PrintLast Go.Proofs.YtpolojoeabmhdaaW.PrintMore
theorem wk_bound {n : Int} {L : List S39} (hE : EdgesOk n L) : ∀ {u : Int} {l : List Int} {v W : Int}, Wk L u l v W → -(l.length * 1073741824) ≤ W ∧ W ≤ l.length * 1073741824
  | u, [], v, W, h => by
    obtain ⟨_, rfl⟩ := h
    simp
  | u, i :: is, v, W, h => by
    obtain ⟨⟨i0, i1⟩, _, h2⟩ := h
    have := wk_bound hE h2
    have hd := hE i i0 i1
    have := hd.e
    have := hd.f
    rw [List.length_cons]
    push_cast
    omega
theorem chain_len' (L : List S39) (la : List Int) (c : Nat) (v : Int) : (chain L la c v).length = c := chain_len L la c v
section
variable {n : Nat} {D : List S39} {w F : List Int}
theorem solve_ful {L : List S39} (hn0 : 0 < n) (hn : n ≤ 256) (hE : EdgesOk n L) (hm : (n : Int) * L.length ≤ 1048576) (hs : Solv L) : ∃ (x : List Int) (s : Sg), Ev (fun k => diffs_solve.f k n L) (x, s.lo, s.ha, s.la, -1) ∧ Ful n L x := by
  obtain ⟨x, s, bad, h1, h2, h3, h4, h5⟩ := solve_ev hn0 (by omega) hE hm
  have ha : ∀ v, 0 ≤ v → v < (n : Int) → v ∈ allL n := fun v a b => mem_allL.2 ⟨a, b⟩
  have hb := (h2.bad_iff hE ha).2 hs
  subst hb
  obtain ⟨l1, l2⟩ := h4 rfl
  obtain ⟨y, hy⟩ := hs
  have hf := (h2.good hE hy).2
  have bd : ∀ v, 0 ≤ v → v < (n : Int) → -274877906944 ≤ rd s.lo v ∧ rd s.lo v ≤ 274877906944 := fun v v0 v1 => by
    obtain ⟨c, hc⟩ := h2.tree hE hf v0 v1 (h2.all_has ha v0 v1)
    have := wk_bound hE hc.walk
    rw [List.length_reverse, chain_len'] at this
    have := hc.few
    omega
  refine ⟨x, s, h3, by omega, by omega, ?_, fun v v0 v1 => ?_, fun k k0 k1 => ?_⟩
  · rw [l2 0 (by omega) (by omega)]; omega
  · rw [l2 v v0 v1]
    have := bd v v0 v1
    have := bd 0 (by omega) (by omega)
    omega
  · have he := hE k k0 k1
    have hp := h2.pot hE ha rfl k k0 k1
    refine ⟨he.a, he.b, he.c, he.g, ?_⟩
    rw [l2 _ he.c he.g, l2 _ he.a he.b]
    omega
theorem Ful.of_lines {x : List Int} (h : Ful n (linesL D F) x) : Ful n D x := ⟨h.l, h.n0, h.z, h.b, fun k k0 k1 => by
  have := h.e k k0 (by rw [lines_len]; omega)
  rw [lines_lo k0 k1] at this
  exact this⟩
/-- What Most, Best and Flow answer together. -/
structure Trio (n : Nat) (D : List S39) (w : List Int) (a : Int) (b : Bool) (e : Int) (x F : List Int) : Prop where
  m : MostIs n D w a b e
  yes : Weighty n w → Solv D → b = true → Ful n D x ∧ sumW n w (rd x) = a ∧ FlowIs n D w F a
  no : b = false → x = [] ∧ F = []
theorem trio_ev (hV : Valid n D) (hm : (n : Int) * (2 * D.length) ≤ 1048576) (w : List Int) : ∃ a b e x F, Ev (fun k => diffs_Most.f k n D w) (a, b, e) ∧ Ev (fun k => diffs_Best.f k n D w) (x, b, e) ∧ Ev (fun k => diffs_Flow.f k n D w) (F, b, e) ∧ Trio n D w a b e x F := by
  obtain ⟨is, F, W, e, h1, h2⟩ := best_ev hV w
  have hD := hV.l
  have hn0 : 0 < n := by have := hV.n1; omega
  have hn : n ≤ 256 := by have := hV.n2; omega
  unfold diffs_Most.f diffs_Best.f diffs_Flow.f
  by_cases hw : Weighty n w
  case neg =>
    obtain ⟨rfl, rfl, rfl⟩ := h2.arg hw
    exact ⟨0, false, 1, [], [], h1.bind (Ev.neg (by simp) (Ev.now _)), h1.bind (Ev.neg (by simp) (Ev.now _)), h1.bind (Ev.neg (by simp) (Ev.now _)), ⟨fun _ => ⟨rfl, rfl, rfl⟩, fun h => absurd h hw, fun h => absurd h hw, by omega⟩, fun h => absurd h hw, fun _ => ⟨rfl, rfl⟩⟩
  by_cases hs : Solv D
  case neg =>
    obtain ⟨rfl, rfl, rfl⟩ := h2.clash hw hs
    exact ⟨0, false, 41, [], [], h1.bind (Ev.neg (by simp) (Ev.now _)), h1.bind (Ev.neg (by simp) (Ev.now _)), h1.bind (Ev.neg (by simp) (Ev.now _)), ⟨fun h => absurd hw h, fun _ _ => ⟨rfl, rfl, rfl⟩, fun _ h => absurd h hs, by omega⟩, fun _ h => absurd h hs, fun _ => ⟨rfl, rfl⟩⟩
  obtain rfl := h2.ok hw hs
  cases is with
  | true =>
    obtain ⟨f1, f2, f3⟩ := h2.yes hw hs rfl
    obtain ⟨c1, c2⟩ := cost_ev hV.e f1.lf hD (fun k k0 k1 => ⟨f1.pos k k0 k1, f3 k k0 k1⟩) (n : Int)
    have hul := usedL_len F 0
    have hlf := f1.lf
    obtain ⟨x, s, s1, s2⟩ := solve_ful hn0 hn (lines_ok hV.e f1.lf) (by
      rw [lines_len]
      have := Int.mul_le_mul_of_nonneg_left (show ((D.length + (usedL F 0).length : Nat) : Int) ≤ 2 * D.length by push_cast; omega) (show (0 : Int) ≤ n by omega)
      omega) f2
    have hst := strong f1 hV.e s2.z (fun k k0 k1 => (s2.e k k0 k1).2.2.2.2)
    exact ⟨costF D F, true, 0, x, F, h1.bind (Ev.pos rfl (Ev.pos rfl (c1.bind (Ev.now _)))), h1.bind (Ev.pos rfl (Ev.pos rfl (s1.bind (Ev.now _)))), h1.bind (Ev.pos rfl (Ev.pos rfl (Ev.now _))), ⟨fun h => absurd hw h, fun _ h => absurd hs h, fun _ _ => ⟨rfl, fun _ => ⟨F, rd x, f1, hst.1, rfl, hst.2⟩, fun h => by cases h⟩, c2⟩, fun _ _ _ => ⟨s2.of_lines, hst.2, ⟨hw, f1, f3, Int.le_refl _⟩⟩, fun h => by cases h⟩
  | false =>
    have hno := h2.no hw hs rfl
    exact ⟨0, false, 0, [], [], h1.bind (Ev.pos rfl (Ev.neg (by simp) (Ev.now _))), h1.bind (Ev.pos rfl (Ev.neg (by simp) (Ev.now _))), h1.bind (Ev.pos rfl (Ev.neg (by simp) (Ev.now _))), ⟨fun h => absurd hw h, fun _ h => absurd hs h, fun _ _ => ⟨rfl, ⟨fun h => (by cases h), fun _ => ⟨rfl, hno⟩⟩⟩, by omega⟩, fun _ _ h => (by cases h), fun _ => ⟨rfl, rfl⟩⟩
end
end Go.Proofs.Ytpolojoeabmhdaa.A
/- Rows of indices, walks, a list turned round. -/
namespace Go.Proofs.Ytpolojoeabmhdaa.A
open Go.RowKit Go.Proofs.YtpolojoeabmhdaaW.PrintWords Go.Proofs.YtpolojoeabmhdaaW.PrintLast Go.Proofs.YtpolojoeabmhdaaW.PrintMore
theorem rd_ext {l m : List Int} (h : l.length = m.length) (hr : ∀ v, 0 ≤ v → v < (l.length : Int) → rd l v = rd m v) : l = m := by
  refine List.ext_getElem h (fun i h1 h2 => ?_)
  have := hr i (by omega) (by omega)
  unfold rd at this
  rw [List.getD_eq_getElem?_getD, List.getD_eq_getElem?_getD, show ((i : Nat) : Int).toNat = i from by omega, List.getElem?_eq_getElem h1, List.getElem?_eq_getElem h2] at this
  exact this
theorem rd_reverse (l : List Int) {v : Int} (h0 : 0 ≤ v) (h1 : v < l.length) : rd l.reverse v = rd l (l.length - 1 - v) := by
  unfold rd
  rw [List.getD_eq_getElem?_getD, List.getD_eq_getElem?_getD, List.getElem?_reverse (by omega)]
  congr 2
  omega
theorem reverse_l0 (l : List Int) (hl : l.length ≤ 65536) : ∀ (q : Nat) (i : Int) (s : List Int), (l.length : Int) - 2 * i ≤ 2 * (q : Int) → 0 ≤ i → s.length = l.length → (∀ v, 0 ≤ v → v < (l.length : Int) → rd s v = if v < i ∨ (l.length : Int) - 1 - i < v then rd l (l.length - 1 - v) else rd l v) →
    Ev (fun k => slices_Reverse_int_int.l0 k s i (l.length - 1 - i)) l.reverse := by
  intro q
  have fin : ∀ (i : Int) (s : List Int), 0 ≤ i → ¬ i < (l.length : Int) - 1 - i → s.length = l.length → (∀ v, 0 ≤ v → v < (l.length : Int) → rd s v = if v < i ∨ (l.length : Int) - 1 - i < v then rd l (l.length - 1 - v) else rd l v) → s = l.reverse := by
    intro i s hi hc hs hz
    refine rd_ext (by rw [List.length_reverse]; exact hs) (fun v v0 v1 => ?_)
    rw [rd_reverse l v0 (by omega), hz v v0 (by omega)]
    split
    · rfl
    · rw [show (l.length : Int) - 1 - v = v from by omega]
  induction q with
  | zero =>
    intro i s hq hi hs hz
    rw [← fin i s hi (by omega) hs hz]
    exact Ev.step (f := fun _ => some s) (fun k => by rw [slices_Reverse_int_int.l0, if_neg (by omega)]) (Ev.now _)
  | succ q ih =>
    intro i s hq hi hs hz
    by_cases hc : i < (l.length : Int) - 1 - i
    case neg =>
      rw [← fin i s hi hc hs hz]
      exact Ev.step (f := fun _ => some s) (fun k => by rw [slices_Reverse_int_int.l0, if_neg (by omega)]) (Ev.now _)
    refine Ev.step (fun k => ?_) (ih (i + 1) ((s.set i.toNat (rd s (l.length - 1 - i))).set ((l.length : Int) - 1 - i).toNat (rd s i)) (by omega) (by omega) (by rw [List.length_set, List.length_set]; exact hs) (fun v v0 v1 => ?_))
    · rw [slices_Reverse_int_int.l0, if_pos hc, if_pos (by omega), if_pos (by omega), if_pos (by omega), if_pos (by omega), wrap_id (x := i + 1) (by omega) (by omega), wrap_id (x := (l.length : Int) - 1 - i - 1) (by omega) (by omega), show (l.length : Int) - 1 - i - 1 = (l.length : Int) - 1 - (i + 1) from by omega]
    · have ei : rd s i = rd l i := by rw [hz i hi (by omega), if_neg (by omega)]
      have ej : rd s ((l.length : Int) - 1 - i) = rd l ((l.length : Int) - 1 - i) := by rw [hz ((l.length : Int) - 1 - i) (by omega) (by omega), if_neg (by omega)]
      rw [rd_set _ _ _ _ (by omega) (by rw [List.length_set]; omega) v0, rd_set _ _ _ _ hi (by omega) v0, ei, ej, hz v v0 v1]
      by_cases e1 : v = (l.length : Int) - 1 - i
      · rw [if_pos e1, if_pos (by omega), show (l.length : Int) - 1 - v = i from by omega]
      · rw [if_neg e1]
        by_cases e2 : v = i
        · rw [if_pos e2, if_pos (by omega), e2]
        · rw [if_neg e2]
          by_cases e3 : v < i ∨ (l.length : Int) - 1 - i < v
          · rw [if_pos e3, if_pos (by omega)]
          · rw [if_neg e3, if_neg (by omega)]
theorem reverse_ev (l : List Int) (hl : l.length ≤ 65536) : Ev (fun k => slices_Reverse_int_int.f k l) l.reverse := by
  have := reverse_l0 l hl l.length 0 l (by omega) (by omega) rfl (fun v v0 v1 => by rw [if_neg (by omega)])
  unfold slices_Reverse_int_int.f
  rw [wrap_id (by omega) (by omega)]
  rw [Int.sub_zero] at this
  exact this
section
variable {n : Nat} {L : List S39}
def Idx (L : List S39) (l : List Int) : Prop := ∀ i, 0 ≤ i → i < (l.length : Int) → 0 ≤ rd l i ∧ rd l i < (L.length : Int)
theorem indices_iff {n : Int} {l : List Int} : ∃ b, diffs_indices.f n L l = some b ∧ (b = true ↔ Idx L l) := by
  refine ⟨_, rfl, ?_⟩
  rw [List.all_eq_true]
  constructor
  · intro h i i0 i1
    have := h (rd l i) (rd_mem i0 i1)
    simp [in_] at this
    omega
  · intro h x hx
    obtain ⟨i, i0, i1, rfl⟩ := mem_rd hx
    have := h i i0 i1
    simp [in_]
    omega
theorem walk_l0 (hE : EdgesOk n L) {l : List Int} (hi : Idx L l) (hl : l.length ≤ 17592186044416) (tt N : Int) : ∀ (q : Nat) (i at_ acc : Int), (q : Int) + i = l.length → 0 ≤ i → (l.length ≤ 65536 → -(i * 1073741824) ≤ acc ∧ acc ≤ i * 1073741824) →
    ∃ W b, Ev (fun k => diffs_walk.l0 k at_ tt acc l l.length i N L) (W, b) ∧ (b = true → ∃ W', Wk L at_ (l.drop i.toNat) tt W' ∧ (l.length ≤ 65536 → W' = W - acc)) ∧ (b = false → ∀ W', ¬ Wk L at_ (l.drop i.toNat) tt W') := by
  intro q
  induction q with
  | zero =>
    intro i at_ acc hq h0 h1
    rw [List.drop_eq_nil_of_le (by omega)]
    refine ⟨acc, (at_ == tt), Ev.step (f := fun _ => some (acc, (at_ == tt))) (fun k => by rw [diffs_walk.l0, if_neg (by omega)]) (Ev.now _), fun h => ⟨0, ⟨(beq_iff_eq.mp h).symm, rfl⟩, fun _ => by omega⟩, fun h W' hW => ?_⟩
    rw [hW.1] at h
    simp at h
  | succ q ih =>
    intro i at_ acc hq h0 h1
    have hlt : i < (l.length : Int) := by omega
    have hx := hi i h0 hlt
    have hd := hE _ hx.1 hx.2
    have d1 := hd.e
    have d2 := hd.f
    rw [drop_rd l i h0 hlt]
    by_cases hc : (rd_T39 L (rd l i)).f0 = at_
    · have hacc : l.length ≤ 65536 → wrap64 (acc + (rd_T39 L (rd l i)).f2) = acc + (rd_T39 L (rd l i)).f2 := fun hs => by
        have := h1 hs
        exact wrap_id (by omega) (by omega)
      obtain ⟨W, b, g1, g2, g3⟩ := ih (i + 1) (rd_T39 L (rd l i)).f1 (wrap64 (acc + (rd_T39 L (rd l i)).f2)) (by omega) (by omega) (fun hs => by rw [hacc hs]; have := h1 hs; omega)
      refine ⟨W, b, Ev.step (fun k => ?_) g1, fun hb => ?_, fun hb W' hW => g3 hb _ hW.2.2⟩
      · rw [diffs_walk.l0, if_pos hlt, if_pos h0, if_pos hlt, if_pos hx.1, if_pos hx.2, if_pos hc, wrap_id (x := i + 1) (by omega) (by omega)]
      · obtain ⟨W', w1, w2⟩ := g2 hb
        refine ⟨W' + (rd_T39 L (rd l i)).f2, ⟨hx, hc, ?_⟩, fun hs => ?_⟩
        · rw [show W' + (rd_T39 L (rd l i)).f2 - (rd_T39 L (rd l i)).f2 = W' from by omega]
          exact w1
        · have := w2 hs
          rw [hacc hs] at this
          omega
    · exact ⟨0, false, Ev.step (f := fun _ => some (0, false)) (fun k => by rw [diffs_walk.l0, if_pos hlt, if_pos h0, if_pos hlt, if_pos hx.1, if_pos hx.2, if_neg hc]) (Ev.now _), fun h => (by cases h), fun _ W' hW => hc hW.2.1⟩
theorem walk_ev (hE : EdgesOk n L) {l : List Int} (hi : Idx L l) (hl : l.length ≤ 17592186044416) (N u v : Int) : ∃ W b, Ev (fun k => diffs_walk.f k N L u v l) (W, b) ∧ (b = true → ∃ W', Wk L u l v W' ∧ (l.length ≤ 65536 → W' = W)) ∧ (b = false → ∀ W', ¬ Wk L u l v W') := by
  obtain ⟨W, b, h1, h2, h3⟩ := walk_l0 hE hi hl v N l.length 0 u 0 (by omega) (by omega) (by omega)
  rw [Int.sub_zero] at h2
  exact ⟨W, b, h1, h2, h3⟩
theorem Wk.unique : ∀ {l : List Int} {u v W W' : Int}, Wk L u l v W → Wk L u l v W' → W = W'
  | [], u, v, W, W', h, h' => by rw [h.2, h'.2]
  | i :: is, u, v, W, W', h, h' => by
    have := Wk.unique h.2.2 h'.2.2
    omega
end
/-- An answer in numbers: 1, 43 or 0. -/
structure Code (A P : Prop) (e : Int) : Prop where
  arg : ¬ A → e = 1
  no : A → ¬ P → e = 43
  yes : A → P → e = 0
theorem Code.unique {A P : Prop} {e e' : Int} (h : Code A P e) (h' : Code A P e') : e = e' := by
  by_cases a : A
  · by_cases p : P
    · rw [h.yes a p, h'.yes a p]
    · rw [h.no a p, h'.no a p]
  · rw [h.arg a, h'.arg a]
theorem Code.zero {A P : Prop} {e : Int} (h : Code A P e) (hp : P → A) : e = 0 ↔ P := by
  constructor
  · intro he
    apply Classical.byContradiction
    intro p
    by_cases a : A
    · have := h.no a p; omega
    · have := h.arg a; omega
  · intro p
    exact h.yes (hp p) p
end Go.Proofs.Ytpolojoeabmhdaa.A
/- Clash and CheckClash: what they answer. -/
namespace Go.Proofs.Ytpolojoeabmhdaa.A
open Go.RowKit Go.Proofs.YtpolojoeabmhdaaW.PrintWords Go.Proofs.YtpolojoeabmhdaaW.PrintLast Go.Proofs.YtpolojoeabmhdaaW.PrintMore
theorem least (P : Nat → Prop) : ∀ n, P n → ∃ c, P c ∧ ∀ d, d < c → ¬ P d := by
  intro n
  induction n using Nat.strongRecOn with
  | ind n ih =>
    intro h
    by_cases hd : ∃ d, d < n ∧ P d
    · obtain ⟨d, d1, d2⟩ := hd
      exact ih d d1 d2
    · exact ⟨n, h, fun d d1 d2 => hd ⟨d, d1, d2⟩⟩
theorem rd_chain (L : List S39) (la : List Int) : ∀ (c : Nat) (v : Int) (i : Nat), i < c → rd (chain L la c v) i = rd la (it L la i v)
  | c + 1, v, 0, _ => rfl
  | c + 1, v, i + 1, h => by
    have := rd_chain L la c (bk L la v) i (by omega)
    rw [chain, show (((i + 1 : Nat)) : Int) = (i : Int) + 1 from by omega, rd_cons _ _ _ (by omega), this]
    rfl
theorem chain_snoc (L : List S39) (la : List Int) : ∀ (c : Nat) (v : Int), chain L la (c + 1) v = chain L la c v ++ [rd la (it L la c v)]
  | 0, v => rfl
  | c + 1, v => by
    rw [chain, chain_snoc L la c (bk L la v)]
    rfl
theorem it_succ (L : List S39) (la : List Int) (c : Nat) (v : Int) : it L la (c + 1) v = bk L la (it L la c v) := by
  rw [it_add L la c 1 v]; rfl
section
variable {n : Nat} {L : List S39}
/-- The start of the difference i of a row. -/
abbrev st (L : List S39) (l : List Int) (i : Int) : Int := (rd_T39 L (rd l i)).f0
structure ClashIs (n : Nat) (L : List S39) (l : List Int) : Prop where
  i : Idx L l
  n0 : 0 < l.length
  n1 : (l.length : Int) ≤ n
  d : ∀ i j : Int, 0 ≤ i → i < j → j < l.length → st L l i ≠ st L l j
  w : ∃ W, W < 0 ∧ Wk L (st L l 0) l (st L l 0) W
theorem cclash_l0 (hE : EdgesOk n L) {l : List Int} (hi : Idx L l) (h0 : 0 < l.length) (hn : (l.length : Int) ≤ n) (hn2 : n ≤ 256) (N : Int) : ∀ (q : Nat) (i : Int) (s : List Bool), (q : Int) + i = l.length → 0 ≤ i → s.length = n → (∀ v, 0 ≤ v → v < (n : Int) → (rdOf false s v = true ↔ ∃ j, 0 ≤ j ∧ j < i ∧ st L l j = v)) → (∀ a b, 0 ≤ a → a < b → b < i → st L l a ≠ st L l b) →
    ∃ e, Ev (fun k => diffs_CheckClash.l0 k l s l l.length i N L) e ∧ (ClashIs n L l → e = 0) ∧ (¬ ClashIs n L l → e = 43) := by
  intro q
  induction q with
  | zero =>
    intro i s hq hi0 hs hz hd
    have x0 := hi 0 (by omega) (by omega)
    obtain ⟨W, b, g1, g2, g3⟩ := walk_ev hE hi (by omega) N (st L l 0) (st L l 0)
    have hin : ∀ {e}, Ev (fun k => if b = true then diffs_CheckClash.j2 k (decide (W ≥ 0)) else diffs_CheckClash.j2 k true) e → Ev (fun k => diffs_CheckClash.l0 k l s l l.length i N L) e := fun h =>
      Ev.step (f := fun k => (diffs_walk.f k N L (st L l 0) (st L l 0) l).bind fun t => if t.2 = true then diffs_CheckClash.j2 k (decide (t.1 ≥ 0)) else diffs_CheckClash.j2 k true) (fun k => by rw [diffs_CheckClash.l0, if_neg (by omega), if_pos (by omega), if_pos x0.1, if_pos x0.2]) (g1.bind h)
    have hT : Ev (fun k => diffs_CheckClash.j2 k true) 43 := Ev.step (f := fun _ => some 43) (fun k => by rw [diffs_CheckClash.j2]; rfl) (Ev.now _)
    cases b with
    | false => exact ⟨43, hin (Ev.neg (by decide) hT), fun h => by
        obtain ⟨W', _, h2⟩ := h.w
        exact absurd h2 (g3 rfl _), fun _ => rfl⟩
    | true =>
      obtain ⟨W', w1, w2⟩ := g2 rfl
      obtain rfl := w2 (by omega)
      by_cases hW : W' ≥ 0
      · refine ⟨43, hin (Ev.pos rfl ?_), fun h => ?_, fun _ => rfl⟩
        · rw [decide_eq_true hW]; exact hT
        · obtain ⟨W', h1, h2⟩ := h.w
          have := w1.unique h2
          omega
      · refine ⟨0, hin (Ev.pos rfl ?_), fun _ => rfl, fun h => absurd ⟨hi, h0, hn, fun a b a0 ab b1 => hd a b a0 ab (by omega), _, by omega, w1⟩ h⟩
        rw [decide_eq_false hW]
        exact Ev.step (f := fun _ => some 0) (fun k => by rw [diffs_CheckClash.j2]; rfl) (Ev.now _)
  | succ q ih =>
    intro i s hq hi0 hs hz hdd
    have hlt : i < (l.length : Int) := by omega
    have hx := hi i hi0 hlt
    have hd := hE _ hx.1 hx.2
    have d1 := hd.a
    have d2 := hd.b
    by_cases hc : rdOf false s (st L l i) = true
    · refine ⟨43, Ev.step (f := fun _ => some 43) (fun k => ?_) (Ev.now _), fun h => ?_, fun _ => rfl⟩
      · rw [diffs_CheckClash.l0, if_pos hlt, if_pos hi0, if_pos hlt, if_pos hx.1, if_pos hx.2, if_pos d1, if_pos (by omega), if_pos hc]
      · obtain ⟨j, j0, j1, j2⟩ := (hz _ d1 d2).1 hc
        exact absurd j2 (h.d j i j0 j1 hlt)
    · obtain ⟨e, g1, g2⟩ := ih (i + 1) (s.set (st L l i).toNat true) (by omega) (by omega) (by rw [List.length_set]; exact hs) (fun v v0 v1 => by
        rw [rdOf_set _ _ _ _ _ d1 (by omega) v0]
        by_cases ev : v = st L l i
        · rw [if_pos ev]
          exact ⟨fun _ => ⟨i, hi0, by omega, ev.symm⟩, fun _ => rfl⟩
        · rw [if_neg ev, hz v v0 v1]
          constructor
          · rintro ⟨j, j0, j1, j2⟩; exact ⟨j, j0, by omega, j2⟩
          · rintro ⟨j, j0, j1, j2⟩
            exact ⟨j, j0, by
              by_cases e : j = i
              · rw [e] at j2; exact absurd j2.symm ev
              · omega, j2⟩) (fun a b a0 ab b1 => by
        by_cases e : b = i
        · intro h2
          rw [e] at h2
          exact hc ((hz _ d1 d2).2 ⟨a, a0, by omega, h2⟩)
        · exact hdd a b a0 ab (by omega))
      refine ⟨e, Ev.step (fun k => ?_) g1, g2⟩
      rw [diffs_CheckClash.l0, if_pos hlt, if_pos hi0, if_pos hlt, if_pos hx.1, if_pos hx.2, if_pos d1, if_pos (by omega), if_neg hc, wrap_id (x := i + 1) (by omega) (by omega)]
theorem cclash_ev (hV : Valid n L) (l : List Int) : ∃ e, Ev (fun k => diffs_CheckClash.f k n L l) e ∧ Code (Idx L l) (ClashIs n L l) e := by
  have hn1 := hV.n1
  have hn2 := hV.n2
  obtain ⟨b, b1, b2⟩ := indices_iff (n := (n : Int)) (L := L) (l := l)
  have hask := asked_ev n L [b] (by simp)
  rw [if_pos (validB_iff.2 hV)] at hask
  unfold diffs_CheckClash.f
  rw [b1]
  simp only [Option.bind_some]
  cases b with
  | false => exact ⟨1, hask.bind (Ev.neg (by decide) (Ev.now _)), fun _ => rfl, fun h => absurd (b2.2 h) (by decide), fun h => absurd (b2.2 h) (by decide)⟩
  | true =>
    have hi := b2.1 rfl
    have hT : Ev (fun k => diffs_CheckClash.j0 k l true n L) 43 := Ev.step (f := fun _ => some 43) (fun k => by rw [diffs_CheckClash.j0]; rfl) (Ev.now _)
    by_cases c1 : (l.length : Int) = 0
    · exact ⟨43, hask.bind (Ev.pos (by decide) (Ev.pos c1 hT)), fun h => absurd hi h, fun _ _ => rfl, fun _ h => by have := h.n0; omega⟩
    by_cases c2 : (l.length : Int) > n
    · refine ⟨43, hask.bind (Ev.pos (by decide) (Ev.neg c1 ?_)), fun h => absurd hi h, fun _ _ => rfl, fun _ h => by have := h.n1; omega⟩
      rw [decide_eq_true c2]; exact hT
    · obtain ⟨e, g1, g2, g3⟩ := cclash_l0 hV.e hi (by omega) (by omega) (by omega) n l.length 0 (List.replicate (n : Int).toNat false) (by omega) (by omega) (by rw [List.length_replicate]; omega) (fun v v0 v1 => by
        constructor
        · intro h
          unfold rdOf at h
          rw [List.getD_eq_getElem?_getD, List.getElem?_replicate] at h
          split at h <;> simp at h
        · rintro ⟨j, j0, j1, _⟩; omega) (fun a b a0 ab b1 => by omega)
      refine ⟨e, hask.bind (Ev.pos (by decide) (Ev.neg c1 ?_)), fun h => absurd hi h, fun _ h => g3 h, fun _ h => g2 h⟩
      rw [decide_eq_false c2]
      exact Ev.step (fun k => by rw [diffs_CheckClash.j0, if_neg (by decide), if_pos (by omega), if_pos (by omega)]) g1
theorem cclash_bad {m : Int} (hv : ¬ validB m L = true) (l : List Int) : Ev (fun k => diffs_CheckClash.f k m L l) 40 := by
  obtain ⟨b, b1, _⟩ := indices_iff (n := m) (L := L) (l := l)
  have hask := asked_ev m L [b] (by simp)
  rw [if_neg hv] at hask
  unfold diffs_CheckClash.f
  rw [b1]
  simp only [Option.bind_some]
  exact hask.bind (Ev.neg (by decide) (Ev.now _))
theorem clash_bad {m : Int} (hv : ¬ validB m L = true) : Ev (fun k => diffs_Clash.f k m L) ([], false, 40) := by
  have hc := check_ev m L
  rw [if_neg hv] at hc
  unfold diffs_Clash.f
  exact hc.bind (Ev.neg (by decide) (Ev.now _))
theorem ClashIs.no {l : List Int} (h : ClashIs n L l) : ¬ Solv L := fun ⟨x, hx⟩ => by
  obtain ⟨W, w1, w2⟩ := h.w
  have := hx.walk w2
  omega
/-- The way back round, from a node on it. -/
theorem clash_l0 {la : List Int} (hla : la.length = n) (hn : n ≤ 256) {v : Int} {c : Nat} (hc : 0 < c) (hcn : (c : Int) ≤ n) (hg : Goes L la c v) (he : it L la c v = v) (hmin : ∀ d, 0 < d → d < c → it L la d v ≠ v) (hnode : ∀ i, i ≤ c → 0 ≤ it L la i v ∧ it L la i v < n) (hidx : ∀ i, i < c → 0 ≤ rd la (it L la i v) ∧ rd la (it L la i v) < (L.length : Int)) (N : Int) (lo : List Int) (ha : List Bool) : ∀ (q i : Nat), q + i + 1 = c →
    Ev (fun k => diffs_Clash.l0 k v (chain L la i v) (it L la i v) N L lo ha la) ((chain L la c v).reverse, true, 0) := by
  have hstep : ∀ i : Nat, i < c → ∀ {r : List Int × Bool × Int}, Ev (fun k => if it L la (i + 1) v = v then ((slices_Reverse_int_int.f k (chain L la (i + 1) v)).bind fun t => some (t, true, 0)) else diffs_Clash.l0 k v (chain L la (i + 1) v) (it L la (i + 1) v) N L lo ha la) r → Ev (fun k => diffs_Clash.l0 k v (chain L la i v) (it L la i v) N L lo ha la) r := fun i hi r h => by
    have hx := hidx i hi
    have hy := hnode i (by omega)
    refine Ev.step (fun k => ?_) h
    rw [diffs_Clash.l0, if_pos hy.1, if_pos (by omega), if_pos (by rw [chain_len L la]; omega), Option.bind_some, if_pos hx.1, if_pos hx.2, chain_snoc, it_succ]
    rfl
  intro q
  induction q with
  | zero =>
    intro i hi
    obtain rfl : c = i + 1 := by omega
    refine hstep i (by omega) (Ev.pos he ((reverse_ev _ (by rw [chain_len L la]; omega)).bind (Ev.now _)))
  | succ q ih =>
    intro i hi
    exact hstep i (by omega) (Ev.neg (hmin (i + 1) (by omega) (by omega)) (ih (i + 1) (by omega)))
theorem clash_ev (hV : Valid n L) (hs : ¬ Solv L) : ∃ r, Ev (fun k => diffs_Clash.f k n L) (r, true, 0) ∧ ClashIs n L r := by
  have hn0 : 0 < n := by have := hV.n1; omega
  have hn : n ≤ 256 := by have := hV.n2; omega
  have hc := check_ev n L
  rw [if_pos (validB_iff.2 hV)] at hc
  obtain ⟨x, s, bad, h1, h2, h3, h4, h5⟩ := solve_ev hn0 (by omega) hV.e (hmul hV)
  have hb : ¬ bad = -1 := fun e => hs ((h2.bad_iff hV.e (fun v a b => mem_allL.2 ⟨a, b⟩)).1 e)
  rcases h2.res with ⟨a, _⟩ | ⟨hbad, hr⟩
  · exact absurd a hb
  obtain ⟨v0, v1, hex⟩ := hr
  obtain ⟨c', hc'⟩ := hex
  obtain ⟨c, ⟨c0, cg, ce⟩, hmin⟩ := least (fun c => 0 < c ∧ Goes L s.la c bad ∧ it L s.la c bad = bad) c' hc'
  obtain ⟨b, T, _, _, hB⟩ := h2.bf
  have l3 := hB.l3
  obtain ⟨W, w1, w2⟩ := hB.round hV.e v0 v1 cg c0 ce
  have hnode : ∀ i, i ≤ c → 0 ≤ it L s.la i bad ∧ it L s.la i bad < n := fun i hi => hB.it_node hV.e i v0 v1 (goes_le cg hi)
  have hidx : ∀ i, i < c → 0 ≤ rd s.la (it L s.la i bad) ∧ rd s.la (it L s.la i bad) < (L.length : Int) := fun i hi => by
    have hg := (goes_add L s.la i 1 bad).1 (goes_le cg (by omega))
    have hp := hg.2.1
    have hy := hnode i (by omega)
    have := hB.p _ hy.1 hy.2 (hB.la_pos hy.1 hy.2 hp)
    exact ⟨this.1, this.2.1⟩
  have hmin' : ∀ d, 0 < d → d < c → it L s.la d bad ≠ bad := fun d d0 d1 e => hmin d d1 ⟨d0, goes_le cg (by omega), e⟩
  have hne : ∀ i j : Nat, 1 ≤ i → i < j → j ≤ c → it L s.la i bad ≠ it L s.la j bad := fun i j i1 ij jc e => by
    have e1 : it L s.la (j + (c - j)) bad = it L s.la (i + (c - j)) bad := by rw [it_add, it_add, e]
    rw [show j + (c - j) = c from by omega, ce] at e1
    exact hmin' (i + (c - j)) (by omega) (by omega) e1.symm
  have hcn : (c : Int) ≤ n := by
    by_cases h : c ≤ n
    · omega
    · obtain ⟨i, j, ij, jn, e⟩ := pigeon n (fun i => it L s.la (i + 1) bad) (fun i hi => hnode (i + 1) (by omega))
      exact absurd e (hne (i + 1) (j + 1) (by omega) (by omega) (by omega))
  have hlen : (chain L s.la c bad).reverse.length = c := by rw [List.length_reverse, chain_len L s.la]
  have hrd : ∀ i : Int, 0 ≤ i → i < c → rd (chain L s.la c bad).reverse i = rd s.la (it L s.la (c - 1 - i.toNat) bad) := fun i i0 i1 => by
    rw [rd_reverse _ i0 (by rw [chain_len L s.la]; omega), chain_len L s.la, show (c : Int) - 1 - i = ((c - 1 - i.toNat : Nat) : Int) from by omega, rd_chain L s.la c bad _ (by omega)]
  have hst : ∀ i : Int, 0 ≤ i → i < c → st L (chain L s.la c bad).reverse i = it L s.la (c - i.toNat) bad := fun i i0 i1 => by
    unfold st
    rw [hrd i i0 i1, show c - i.toNat = (c - 1 - i.toNat) + 1 from by omega, it_succ]
    rfl
  refine ⟨(chain L s.la c bad).reverse, ?_, fun i i0 i1 => ?_, by omega, by omega, fun i j i0 ij j1 => ?_, W, w1, ?_⟩
  · unfold diffs_Clash.f
    refine hc.bind (Ev.pos rfl (h3.bind (Ev.neg (by simp only; omega) ?_)))
    exact clash_l0 (by omega) hn c0 hcn cg ce hmin' hnode hidx n s.lo s.ha (c - 1) 0 (by omega)
  · rw [hlen] at i1
    rw [hrd i i0 i1]
    exact hidx _ (by omega)
  · rw [hlen] at j1
    rw [hst i i0 (by omega), hst j (by omega) j1]
    exact fun e => hne (c - j.toNat) (c - i.toNat) (by omega) (by omega) (by omega) e.symm
  · rw [hst 0 (by omega) (by omega), show c - (0 : Int).toNat = c from by simp, ce]
    exact w2
theorem clash_no (hV : Valid n L) (hs : Solv L) : Ev (fun k => diffs_Clash.f k n L) ([], false, 0) := by
  have hn0 : 0 < n := by have := hV.n1; omega
  have hn : n ≤ 256 := by have := hV.n2; omega
  have hc := check_ev n L
  rw [if_pos (validB_iff.2 hV)] at hc
  obtain ⟨x, s, bad, h1, h2, h3, h4, h5⟩ := solve_ev hn0 (by omega) hV.e (hmul hV)
  have hb := (h2.bad_iff hV.e (fun v a b => mem_allL.2 ⟨a, b⟩)).2 hs
  unfold diffs_Clash.f
  exact hc.bind (Ev.pos rfl (h3.bind (Ev.pos (by simp only; omega) (Ev.now _))))
end
end Go.Proofs.Ytpolojoeabmhdaa.A
namespace Go.Proofs.Ytpolojoeabmhdaa.A
open Go.RowKit Go.Proofs.YtpolojoeabmhdaaW.PrintWords Go.Proofs.YtpolojoeabmhdaaW.PrintLast Go.Proofs.YtpolojoeabmhdaaW.PrintMore
attribute [local go_sem] max2_int min2_int max_two min_two max_three min_three max_four min_four
def diffs_Solve.f (k : Nat) (a0_0 : Int) (l0_1 : List (S39)) : Option (List Int × Int) := (diffs_Check.f k a0_0 l0_1).bind fun t797 => (if t797 = 0 then ((diffs_solve.f k a0_0 l0_1).bind fun bt798 => (if bt798.2.2.2.2 ≥ 0 then (some (([] : List Int), 41)) else (some (bt798.1, 0)))) else (some (([] : List Int), t797)))
theorem diffs_Solve.mono : ∀ a0 a1 k, LeO (diffs_Solve.f k a0 a1) (diffs_Solve.f (k + 1) a0 a1) := by
  intro a0 a1 k; unfold diffs_Solve.f; repeat' first | (with_reducible first | exact diffs_Check.mono _ _ _ | exact diffs_solve.mono _ _ _ | exact LeO.refl _ | exact LeO.none _ | refine LeO.ite ?_ ?_ | refine LeO.bind ?_ (fun _ => ?_)) | exact diffs_Check.mono _ _ _ | exact diffs_solve.mono _ _ _ | exact LeO.none _ | refine LeO.ite ?_ ?_ | refine LeO.bind ?_ (fun _ => ?_)
set_option maxHeartbeats 8000000 in
set_option maxRecDepth 100000 in
theorem diffs_Solve.calls (k : Nat) (a0_0 : Int) (A0_1 : Option Addr) (c0_1 : Nat) (l0_1 : List (S39)) (r1 : List Int) (r2 : Int) (w : World) (hr0_1 : Kd.C k39 w A0_1 l0_1.length l0_1) (hc0_1 : l0_1.length ≤ c0_1) (h : diffs_Solve.f k a0_0 l0_1 = some (r1, r2)) :
    Calls Try.prog 39 #[.agg #[.int .i64 a0_0, .slice A0_1 l0_1.length c0_1]] w fun e w' => ∃ v0_ : Value, e = .returned (.tuple #[v0_, .int .i64 r2]) ∧ Kd.R (Kd.int .i64) 3 w' w.heap.size (fun _ => True) v0_ r1 ∧ Below w.heap.size w w' := by
  have hu24 := Try.underlying24; have hu88 := Try.underlying88; have HR0_1 := Z_ hr0_1; have HC0_1 := Z_ hc0_1; clear hr0_1 hc0_1; have HB := Z_ (Below.refl w.heap.size w); have H : ((diffs_Check.f k a0_0 l0_1).bind fun t797 => (if t797 = 0 then ((diffs_solve.f k a0_0 l0_1).bind fun bt798 => (if bt798.2.2.2.2 ≥ 0 then (some (([] : List Int), 41)) else (some (bt798.1, 0)))) else (some (([] : List Int), t797)))) = some (r1, r2) := h; clear h; replace H := oS_.mp H; obtain ⟨t797, A20, H⟩ := H; replace H : (if t797 = 0 then ((diffs_solve.f k a0_0 l0_1).bind fun bt798 => (if bt798.2.2.2.2 ≥ 0 then (some (([] : List Int), 41)) else (some (bt798.1, 0)))) else (some (([] : List Int), t797))) = some (r1, r2) := H; have A2 := Z_ A20; clear A20; have HF3 := Z_ H; clear H; go_enter Try.func39, Try.ntmps39; go_upto_if 11 with (first | ((with_reducible refine gate_dst (N := 1) rfl ?_); refine box_event ?hg (N := 1) ?hd (cs := #[.int .i64 a0_0, .slice A0_1 l0_1.length c0_1]) (t := 24) ?hr ?_; (case hd => rfl); (case hg => rfl); (case hr => first | (go_simp; done) | (go_simp; rfl)); intro gb796 hg w4 hbox hb; have n0_ := Z_ (fS_ (by repeat (first | (with_reducible first | exact HB.out | apply fA_ | apply pB_ | apply fD_) | exact HB.out)) hb); have n1_ := Z_ (hbox); have n2_ := Z_ ((by rw [hg]; exact (fZ_ (by repeat (first | (with_reducible first | exact HB.out | apply fA_ | apply pB_ | apply fD_) | exact HB.out))) : w.heap.size ≤ gb796)); have n3_ := Z_ ((by rw [hg]; exact (fZ_ (by repeat (first | (with_reducible first | exact HB.out | apply fA_ | apply pB_ | apply fD_) | exact HB.out))) : w.heap.size ≤ gb796)); clear HB; have HB := n0_; have BK796 := n1_; have GW796 := n2_; have GE796 := n3_; clear n0_ n1_ n2_ n3_; clear hb hbox hg; have hcz5_0 : w4.cell? ⟨gb796, 0, none⟩ = some (.int .i64 a0_0) := (bC_ BK796.out 0).trans rfl; have hcz5_1 : w4.cell? ⟨gb796, 1, none⟩ = some (.slice A0_1 l0_1.length c0_1) := (bC_ BK796.out 1).trans rfl; have hfz5_0 := bF_ BK796.out 0; have hfz5_1 := bF_ BK796.out 1) | ((with_reducible refine gate_callee (f := 29) rfl ?_); refine goesL_ (some 9) rfl rfl Try.func29 (by kernel_rfl) rfl #[.agg #[.int .i64 a0_0, .slice A0_1 l0_1.length c0_1]] rfl (by (try simp only [mT_, mC_, mN_]); first | done | rfl | (simp only [lD_, lT_]; rfl)) ?_; (with_reducible refine (diffs_Check.calls k a0_0 _ _ l0_1 t797 _ ?side1 ?side2 A2.out).mono ?_); (case side1 => repeat (first | exact (cB_ HR0_1.out HB.out) | (with_reducible refine Kd.C_alloc ?_ _) | (with_reducible refine Kd.C_drewN ?_ _) | (with_reducible refine Kd.C_drew ?_))); (case side2 => exact HC0_1.out); rintro e w6 ⟨rfl, hb⟩; refine ⟨_, rfl, ?_⟩; have n0_ := Z_ (bB_ (g := gb796) (o := .cells #[.int .i64 a0_0, .slice A0_1 l0_1.length c0_1] 24 (0, 0)) (by (with_reducible repeat (first | refine bN_ ?_ _ | refine bD_ ?_ | refine bA_ ?_ _)); exact BK796.out) hb); have n1_ := Z_ (fS_ (by repeat (first | (with_reducible first | exact HB.out | apply fA_ | apply pB_ | apply fD_ | refine fE_ ?_ GE796.out) | exact HB.out)) hb); clear BK796; clear HB; have BK796 := n0_; have HB := n1_; clear n0_ n1_; (try clear hb); (try clear hb2); (try clear hk); (try clear hi))); (try simp only [Act.put, sT_, sZ_, sS_])
  have H := HF3.out; clear HF3; by_cases c7 : t797 = 0
  · rw [if_pos c7] at H
    have c7b0 : (t797 == 0) = true := beq_iff_eq.mpr c7; have c7b1 : (t797 != 0) = false := bne_eq_false_iff_eq.mpr c7; clear c7; (first | rw [c7b0] | (simp only [i64_w, i32_w]; rw [c7b0]) | skip)
    replace H := oS_.mp H; obtain ⟨⟨t798, t801, t804, t807, t810⟩, A80, H⟩ := H; replace H : (if t810 ≥ 0 then (some (([] : List Int), 41)) else (some (t798, 0))) = some (r1, r2) := H; have A8 := Z_ A80; clear A80; have HF9 := Z_ H; clear H; have hcz10_0 : w6.cell? ⟨gb796, 0, none⟩ = some (.int .i64 a0_0) := (bC_ BK796.out 0).trans rfl; have hcz10_1 : w6.cell? ⟨gb796, 1, none⟩ = some (.slice A0_1 l0_1.length c0_1) := (bC_ BK796.out 1).trans rfl; have hfz10_0 := bF_ BK796.out 0; have hfz10_1 := bF_ BK796.out 1; go_upto_if 22 with (first | ((with_reducible refine gate_callee (f := 81) rfl ?_); refine goesL_ (some 17) rfl rfl Try.func81 (by kernel_rfl) rfl #[.iface 100 (.agg #[.int .i64 a0_0, .slice A0_1 l0_1.length c0_1])] rfl (by (try simp only [mT_, mC_, mN_]); first | done | rfl | (simp only [lD_, lT_]; rfl)) ?_; (with_reducible refine (diffs_solve.calls k a0_0 _ _ l0_1 t798 t801 t804 t807 t810 _ ?side1 ?side2 A8.out).mono ?_); (case side1 => repeat (first | exact (cB_ HR0_1.out HB.out) | (with_reducible refine Kd.C_alloc ?_ _) | (with_reducible refine Kd.C_drewN ?_ _) | (with_reducible refine Kd.C_drew ?_))); (case side2 => exact HC0_1.out); rintro e w11 ⟨v799, v802, v805, v808, rfl, ho0, ho1, ho2, ho3, hb⟩; refine ⟨_, rfl, ?_⟩; have n0_ := Z_ (rL_ ho0 (fZ_ (by repeat (first | (with_reducible first | exact HB.out | apply fA_ | apply pB_ | apply fD_ | refine fE_ ?_ GE796.out) | exact HB.out)))); have n1_ := Z_ (rL_ ho1 (fZ_ (by repeat (first | (with_reducible first | exact HB.out | apply fA_ | apply pB_ | apply fD_ | refine fE_ ?_ GE796.out) | exact HB.out)))); have n2_ := Z_ (rL_ ho2 (fZ_ (by repeat (first | (with_reducible first | exact HB.out | apply fA_ | apply pB_ | apply fD_ | refine fE_ ?_ GE796.out) | exact HB.out)))); have n3_ := Z_ (rL_ ho3 (fZ_ (by repeat (first | (with_reducible first | exact HB.out | apply fA_ | apply pB_ | apply fD_ | refine fE_ ?_ GE796.out) | exact HB.out)))); have n4_ := Z_ (bB_ (g := gb796) (o := .cells #[.int .i64 a0_0, .slice A0_1 l0_1.length c0_1] 24 (0, 0)) (by (with_reducible repeat (first | refine bN_ ?_ _ | refine bD_ ?_ | refine bA_ ?_ _)); exact BK796.out) hb); have n5_ := Z_ (fS_ (by repeat (first | (with_reducible first | exact HB.out | apply fA_ | apply pB_ | apply fD_ | refine fE_ ?_ GE796.out) | exact HB.out)) hb); clear BK796; clear HB; have HO800 := n0_; have HO803 := n1_; have HO806 := n2_; have HO809 := n3_; have BK796 := n4_; have HB := n5_; clear n0_ n1_ n2_ n3_ n4_ n5_; (try clear hb); (try clear hb2); (try clear hk); (try clear hi); (try clear ho0); (try clear ho1); (try clear ho2); (try clear ho3)) | ((with_reducible refine gate_dst (N := 6) rfl ?_); refine box_event ?hg (N := 6) ?hd (cs := #[.slice none 0 0, .slice none 0 0, .slice none 0 0]) (t := 88) ?hr ?_; (case hd => rfl); (case hg => rfl); (case hr => first | (go_simp; done) | (go_simp; rfl)); intro gb811 hg w12 hbox hb; have n0_ := Z_ (rB_ (by (with_reducible repeat (first | apply rA_ | apply rN_ | apply rD_)); exact HO800.out) hb); have n1_ := Z_ (rB_ (by (with_reducible repeat (first | apply rA_ | apply rN_ | apply rD_)); exact HO803.out) hb); have n2_ := Z_ (rB_ (by (with_reducible repeat (first | apply rA_ | apply rN_ | apply rD_)); exact HO806.out) hb); have n3_ := Z_ (rB_ (by (with_reducible repeat (first | apply rA_ | apply rN_ | apply rD_)); exact HO809.out) hb); have n4_ := Z_ (bB_ (g := gb796) (o := .cells #[.int .i64 a0_0, .slice A0_1 l0_1.length c0_1] 24 (0, 0)) (by (with_reducible repeat (first | refine bN_ ?_ _ | refine bD_ ?_ | refine bA_ ?_ _)); exact BK796.out) hb); have n5_ := Z_ (fS_ (by repeat (first | (with_reducible first | exact HB.out | apply fA_ | apply pB_ | apply fD_ | refine fE_ ?_ GE796.out) | exact HB.out)) hb); have n6_ := Z_ (hbox); have n7_ := Z_ ((by rw [hg]; exact (fZ_ (by repeat (first | (with_reducible first | exact HB.out | apply fA_ | apply pB_ | apply fD_ | refine fE_ ?_ GE796.out) | exact HB.out))) : w.heap.size ≤ gb811)); have n8_ := Z_ ((by rw [hg]; exact (fZ_ (by repeat (first | (with_reducible first | exact HB.out | apply fA_ | apply pB_ | apply fD_ | refine fE_ ?_ GE796.out) | exact HB.out))) : w.heap.size ≤ gb811)); have n9_ := Z_ ((by rw [hg]; exact Nat.ne_of_lt (blk_lt (g := gb796) (o := .cells #[.int .i64 a0_0, .slice A0_1 l0_1.length c0_1] 24 (0, 0)) (by (with_reducible repeat (first | refine bN_ ?_ _ | refine bD_ ?_ | refine bA_ ?_ _)); exact BK796.out)) : gb796 ≠ gb811)); have n10_ := Z_ ((by rw [hg]; exact Nat.ne_of_gt (blk_lt (g := gb796) (o := .cells #[.int .i64 a0_0, .slice A0_1 l0_1.length c0_1] 24 (0, 0)) (by (with_reducible repeat (first | refine bN_ ?_ _ | refine bD_ ?_ | refine bA_ ?_ _)); exact BK796.out)) : gb811 ≠ gb796)); clear HO800; clear HO803; clear HO806; clear HO809; clear BK796; clear HB; have HO800 := n0_; have HO803 := n1_; have HO806 := n2_; have HO809 := n3_; have BK796 := n4_; have HB := n5_; have BK811 := n6_; have GW811 := n7_; have GE811 := n8_; have NB796_811 := n9_; have NB811_796 := n10_; clear n0_ n1_ n2_ n3_ n4_ n5_ n6_ n7_ n8_ n9_ n10_; clear hb hbox hg; obtain ⟨Ao13, co13, eo13⟩ := rS_ HO803.out; subst eo13; have hnb14 := NB811_796.out; have hnc14 := NB796_811.out; have hcz15_0 : w12.cell? ⟨gb811, 0, none⟩ = some (.slice none 0 0) := (bC_ BK811.out 0).trans rfl; have hcz15_1 : w12.cell? ⟨gb811, 1, none⟩ = some (.slice none 0 0) := (bC_ BK811.out 1).trans rfl; have hcz15_2 : w12.cell? ⟨gb811, 2, none⟩ = some (.slice none 0 0) := (bC_ BK811.out 2).trans rfl; have hfz15_0 := bF_ BK811.out 0; have hfz15_1 := bF_ BK811.out 1; have hfz15_2 := bF_ BK811.out 2; obtain ⟨Ao16, co16, eo16⟩ := rS_ HO806.out; subst eo16; obtain ⟨Ao17, co17, eo17⟩ := rS_ HO809.out; subst eo17)); (try simp only [Act.put, sT_, sZ_, sS_])
    have H := HF9.out; clear HF9; by_cases c18 : t810 ≥ 0
    · rw [if_pos c18] at H
      have c18b0 : decide (0 ≤ t810) = true := eT_ c18; clear c18; (first | rw [c18b0] | (simp only [i64_w, i32_w]; rw [c18b0]) | skip)
      simp only [oJ_, pI_] at H; obtain ⟨rfl, rfl⟩ := H; go_wp2; go_ret2; exact ⟨_, by first | rfl | (simp [errW_none, errW_some] <;> rfl) | (simp [*, errW_none, errW_some] <;> rfl), by first | exact Kd.R_nil _ _ _ _ _ | exact Kd.N_nil _ _ _ _ _ | exact Kd.V_nil _ _ _ _ _ | exact Kd.Q_nil _ _ _ _ _ | exact Kd.S_nil _ _ _ _ _, by repeat (first | (with_reducible first | exact HB.out | apply fA_ | apply pB_ | apply fD_ | refine fE_ ?_ GE796.out | refine fE_ ?_ GE811.out) | exact HB.out)⟩
    rw [if_neg c18] at H; have c18b0 : decide (0 ≤ t810) = false := eF_ c18; clear c18; (first | rw [c18b0] | (simp only [i64_w, i32_w]; rw [c18b0]) | skip)
    simp only [oJ_, pI_] at H; obtain ⟨rfl, rfl⟩ := H; go_wp2; go_ret2; exact ⟨_, by first | rfl | (simp [errW_none, errW_some] <;> rfl) | (simp [*, errW_none, errW_some] <;> rfl), by (with_reducible repeat (first | apply rA_ | apply rN_ | apply rD_)); exact rM_ (rF_ (p := ⟨gb811, 2, none⟩) (rF_ (p := ⟨gb811, 1, none⟩) (rF_ (p := ⟨gb811, 0, none⟩) (Kd.R_types HO800.out BK811.out (by decide)) (fun _ hk => hk.2) (.slice Ao13 t801.length co13)) (fun _ hk => hk.2) (.slice Ao16 t804.length co16)) (fun _ hk => hk.2) (.slice Ao17 t807.length co17)) (fun _ hk => trivial), by repeat (first | (with_reducible first | exact HB.out | apply fA_ | apply pB_ | apply fD_ | refine fE_ ?_ GE796.out | refine fE_ ?_ GE811.out) | exact HB.out)⟩
  rw [if_neg c7] at H; have c7b0 : (t797 == 0) = false := beq_eq_false_iff_ne.mpr c7; have c7b1 : (t797 != 0) = true := bne_iff_ne.mpr c7; (first | rw [c7b0] | (simp only [i64_w, i32_w]; rw [c7b0]) | skip)
  simp only [oJ_, pI_] at H; obtain ⟨rfl, rfl⟩ := H; go_wp2; go_ret2; exact ⟨_, by first | rfl | (simp [errW_none, errW_some] <;> rfl) | (simp [*, errW_none, errW_some] <;> rfl), by first | exact Kd.R_nil _ _ _ _ _ | exact Kd.N_nil _ _ _ _ _ | exact Kd.V_nil _ _ _ _ _ | exact Kd.Q_nil _ _ _ _ _ | exact Kd.S_nil _ _ _ _ _, by repeat (first | (with_reducible first | exact HB.out | apply fA_ | apply pB_ | apply fD_ | refine fE_ ?_ GE796.out) | exact HB.out)⟩
def diffs_numbers.f (a0 : Int) (l1 : List Int) : Option (Bool) := if (l1.length : Int) = a0 then ((cf122.f l1).bind fun t1126 => (some (!t1126))) else (some false)
set_option maxHeartbeats 8000000 in
set_option maxRecDepth 100000 in
theorem diffs_numbers.calls (a0 : Int) (A1 : Option Addr) (c1 : Nat) (l1 : List Int) (r : Bool) (w : World) (hr1 : Kd.C (Kd.int .i64) w A1 l1.length l1) (hc1 : l1.length ≤ c1) (h : diffs_numbers.f a0 l1 = some r) :
    Calls Try.prog 104 #[.int .i64 a0, .slice A1 l1.length c1] w fun e w' => e = .returned (.bool r) ∧ Below w.heap.size w w' := by
  have HR1 := Z_ hr1; have HC1 := Z_ hc1; clear hr1 hc1; have HB := Z_ (Below.refl w.heap.size w); have H : (if (l1.length : Int) = a0 then ((cf122.f l1).bind fun t1126 => (some (!t1126))) else (some false)) = some r := h; clear h; by_cases c3 : (l1.length : Int) = a0
  · rw [if_pos c3] at H
    have c3b0 : ((l1.length : Int) == a0) = true := beq_iff_eq.mpr c3; have c3b1 : ((l1.length : Int) != a0) = false := bne_eq_false_iff_eq.mpr c3; clear c3; replace H := oS_.mp H; obtain ⟨t1126, A40, H⟩ := H; replace H : (some (!t1126)) = some r := H; have A4 := Z_ A40; clear A40; obtain rfl := oI_ H; go_enter Try.func104, Try.ntmps104; go_wp2_with (first | (go_at_call 57; (with_reducible refine (cf122.calls _ _ l1 t1126 _ ?side1 ?side2 A4.out).mono ?_); (case side1 => repeat (first | exact HR1.out | (with_reducible refine Kd.C_alloc ?_ _) | (with_reducible refine Kd.C_drewN ?_ _) | (with_reducible refine Kd.C_drew ?_))); (case side2 => exact HC1.out); rintro e w5 ⟨rfl, hb⟩; have n0_ := Z_ (fS_ (by repeat (first | (with_reducible first | exact HB.out | apply fA_ | apply pB_ | apply fD_) | exact HB.out)) hb); clear HB; have HB := n0_; clear n0_; (try clear hb); (try clear hb2); (try clear hk); (try clear hi))); go_ret; exact ⟨by first | rfl | (simp [errW_none, errW_some] <;> rfl) | (simp [*, errW_none, errW_some] <;> rfl), by repeat (first | (with_reducible first | exact HB.out | apply fA_ | apply pB_ | apply fD_) | exact HB.out)⟩
  rw [if_neg c3] at H; have c3b0 : ((l1.length : Int) == a0) = false := beq_eq_false_iff_ne.mpr c3; have c3b1 : ((l1.length : Int) != a0) = true := bne_iff_ne.mpr c3; obtain rfl := oI_ H; go_enter Try.func104, Try.ntmps104; go_wp2; go_ret; exact ⟨by first | rfl | (simp [errW_none, errW_some] <;> rfl) | (simp [*, errW_none, errW_some] <;> rfl), by repeat (first | (with_reducible first | exact HB.out | apply fA_ | apply pB_ | apply fD_) | exact HB.out)⟩
def diffs_Holds.f (k : Nat) (a0_0 : Int) (l0_1 : List (S39)) (l1 : List Int) : Option (Bool × Int) := (diffs_numbers.f a0_0 l1).bind fun t1175 => ((diffs_asked.f k a0_0 l0_1 (([t1175] : List Bool))).bind fun t1179 => (if t1179 = 0 then ((diffs_holds.f a0_0 l0_1 l1).bind fun t1180 => (some (t1180, 0))) else (some (false, t1179))))
theorem diffs_Holds.mono : ∀ a0 a1 a2 k, LeO (diffs_Holds.f k a0 a1 a2) (diffs_Holds.f (k + 1) a0 a1 a2) := by
  intro a0 a1 a2 k; unfold diffs_Holds.f; repeat' first | (with_reducible first | exact diffs_asked.mono _ _ _ _ | exact LeO.refl _ | exact LeO.none _ | refine LeO.ite ?_ ?_ | refine LeO.bind ?_ (fun _ => ?_)) | exact diffs_asked.mono _ _ _ _ | exact LeO.none _ | refine LeO.ite ?_ ?_ | refine LeO.bind ?_ (fun _ => ?_)
def diffs_Holds.T1 : Bool × List (List Nat × List Nat) := (true, [([], []), ([], []), ([1], [1]), ([], []), ([2, 3], [2, 3]), ([4], [4]), ([0, 5, 4], [0, 5]), ([6, 6, 0, 1, 2, 3, 4, 5, 6], [6])])
def diffs_Holds.B1 : List Nat := [0, 0, 2, 0, 14, 30, 63, 127]
theorem diffs_Holds.tab1 : rtab .any (opsOf Try.f56 1) = diffs_Holds.T1 := by kernel_rfl
theorem diffs_Holds.bits1 : waitsOk diffs_Holds.T1.2 diffs_Holds.B1 = true := by kernel_rfl
set_option maxHeartbeats 8000000 in
set_option maxRecDepth 100000 in
theorem diffs_Holds.calls (k : Nat) (a0_0 : Int) (A0_1 : Option Addr) (c0_1 : Nat) (l0_1 : List (S39)) (A1 : Option Addr) (c1 : Nat) (l1 : List Int) (r1 : Bool) (r2 : Int) (w : World) (hr0_1 : Kd.C k39 w A0_1 l0_1.length l0_1) (hc0_1 : l0_1.length ≤ c0_1) (hr1 : Kd.C (Kd.int .i64) w A1 l1.length l1) (hc1 : l1.length ≤ c1) (h : diffs_Holds.f k a0_0 l0_1 l1 = some (r1, r2)) :
    Calls Try.prog 56 #[.agg #[.int .i64 a0_0, .slice A0_1 l0_1.length c0_1], .slice A1 l1.length c1] w fun e w' => e = .returned (.tuple #[.bool r1, .int .i64 r2]) ∧ Below w.heap.size w w' := by
  have hu24 := Try.underlying24; have HR0_1 := Z_ hr0_1; have HC0_1 := Z_ hc0_1; clear hr0_1 hc0_1; have HR1 := Z_ hr1; have HC1 := Z_ hc1; clear hr1 hc1; have HB := Z_ (Below.refl w.heap.size w); have H : ((diffs_numbers.f a0_0 l1).bind fun t1175 => ((diffs_asked.f k a0_0 l0_1 (([t1175] : List Bool))).bind fun t1179 => (if t1179 = 0 then ((diffs_holds.f a0_0 l0_1 l1).bind fun t1180 => (some (t1180, 0))) else (some (false, t1179))))) = some (r1, r2) := h; clear h; replace H := oS_.mp H; obtain ⟨t1175, A30, H⟩ := H; replace H : ((diffs_asked.f k a0_0 l0_1 (([t1175] : List Bool))).bind fun t1179 => (if t1179 = 0 then ((diffs_holds.f a0_0 l0_1 l1).bind fun t1180 => (some (t1180, 0))) else (some (false, t1179)))) = some (r1, r2) := H; have A3 := Z_ A30; clear A30; obtain ⟨y1176, hy1176⟩ : ∃ y_ : List Bool, y_ = (([t1175] : List Bool)) := ⟨_, rfl⟩; replace H : ((diffs_asked.f k a0_0 l0_1 y1176).bind fun t1179 => (if t1179 = 0 then ((diffs_holds.f a0_0 l0_1 l1).bind fun t1180 => (some (t1180, 0))) else (some (false, t1179)))) = some (r1, r2) := by first | (rw [hy1176]; with_reducible exact H) | (have H2_ := (oB_ _ _).symm.trans H; rw [hy1176]; with_reducible exact H2_) | (have H2_ := (oB_ _ _).symm.trans H; with_reducible exact H2_) | with_reducible exact H | (rw [hy1176]; exact H) | exact H
  have Ny1176 := Z_ hy1176; clear hy1176; replace H := oS_.mp H; obtain ⟨t1179, A40, H⟩ := H; replace H : (if t1179 = 0 then ((diffs_holds.f a0_0 l0_1 l1).bind fun t1180 => (some (t1180, 0))) else (some (false, t1179))) = some (r1, r2) := H; have A4 := Z_ A40; clear A40; have HF5 := Z_ H; clear H; go_enter Try.func56, Try.ntmps56; try go_wp2_with (first | ((with_reducible refine gate_dst (N := 2) rfl ?_); refine box_event ?hg (N := 2) ?hd (cs := #[.int .i64 a0_0, .slice A0_1 l0_1.length c0_1]) (t := 24) ?hr ?_; (case hd => rfl); (case hg => rfl); (case hr => first | (go_simp; done) | (go_simp; rfl)); intro gb1174 hg w6 hbox hb; have n0_ := Z_ (fS_ (by repeat (first | (with_reducible first | exact HB.out | apply fA_ | apply pB_ | apply fD_) | exact HB.out)) hb); have n1_ := Z_ (hbox); have n2_ := Z_ ((by rw [hg]; exact (fZ_ (by repeat (first | (with_reducible first | exact HB.out | apply fA_ | apply pB_ | apply fD_) | exact HB.out))) : w.heap.size ≤ gb1174)); have n3_ := Z_ ((by rw [hg]; exact (fZ_ (by repeat (first | (with_reducible first | exact HB.out | apply fA_ | apply pB_ | apply fD_) | exact HB.out))) : w.heap.size ≤ gb1174)); clear HB; have HB := n0_; have BK1174 := n1_; have GW1174 := n2_; have GE1174 := n3_; clear n0_ n1_ n2_ n3_; clear hb hbox hg))
  have n0_ := Z_ (bD_ BK1174.out); have n1_ := Z_ (fD_ HB.out); clear BK1174; clear HB; have BK1174 := n0_; have HB := n1_; clear n0_ n1_; refine start_ (n := 8) (S := fun w' => w'.cell? ⟨gb1174, 0, none⟩ = some (.int .i64 a0_0) ∧ w'.cell? ⟨gb1174, 1, none⟩ = some (.slice A0_1 l0_1.length c0_1)) (ds := []) #[false, false, false, false, false, false, false, false] (by kernel_rfl) rfl rfl ⟨(bC_ BK1174.out 0).trans rfl, (bC_ BK1174.out 1).trans rfl⟩ (fun hHeld => ?_); refine with_tabW diffs_Holds.tab1 diffs_Holds.bits1 (fun HT_ HW_ => ?_); generalize w6.drew = w7 at BK1174 HB hHeld ⊢; refine pure_ (i := 1) (N := some 8) (v := ?_) (a' := ?_) (mB_ 8 2) rfl rfl (any_of HT_.out (by kernel_rfl)) (fun _ _ _ h => h) (Or.inl ⟨by rfl, ?_⟩) ?_ ?_; rotate_left
  · intro w'
    go_simp; with_reducible rfl
  rotate_left
  · simp only [Act.put, sT_, sZ_, sS_, i64_w, i32_w]
    rfl
  refine pure_ (i := 3) (N := some 10) (v := ?_) (a' := ?_) (mB_ 8 10) rfl rfl (any_of HT_.out (by kernel_rfl)) (fun _ _ _ h => h) (Or.inl ⟨by rfl, ?_⟩) ?_ ?_; rotate_left
  · intro w'
    go_simp; with_reducible rfl
  rotate_left
  · simp only [Act.put, sT_, sZ_, sS_, i64_w, i32_w]
    rfl
  refine take_ (i := 0) (N := some 7) (v := ?_) (a' := ?_) (mB_ 8 11) rfl rfl (take_ofW HT_.out HW_.out (by kernel_rfl)) (fun _ _ _ h => h) (Or.inl ⟨by rfl, ?_⟩) hHeld ?_ ?_; rotate_left
  · rintro w' ⟨s0, s1⟩
    go_simp; with_reducible rfl
  rotate_left
  · simp only [Act.put, sT_, sZ_, sS_, i64_w, i32_w]
    rfl
  refine take_ (i := 2) (N := some 9) (v := ?_) (a' := ?_) (mB_ 8 15) rfl rfl (take_ofW HT_.out HW_.out (by kernel_rfl)) (fun _ _ _ h => h) (Or.inl ⟨by rfl, ?_⟩) hHeld ?_ ?_; rotate_left
  · rintro w' ⟨s0, s1⟩
    go_simp; with_reducible rfl
  rotate_left
  · simp only [Act.put, sT_, sZ_, sS_, i64_w, i32_w]
    rfl
  refine one_ (i := 4) (N := some 11) (mB_ 8 31) rfl rfl (one_of HT_.out (by kernel_rfl)) (by decide) (fun K hK => ?_); refine goes_ Try.func104 (by kernel_rfl) rfl #[.int .i64 a0_0, .slice A1 l1.length c1] (by rfl) rfl rfl (by (try simp only [mT_, mC_, mN_]); first | done | rfl | (simp only [lD_, lT_]; rfl)) ?_; with_reducible refine (diffs_numbers.calls a0_0 _ _ l1 t1175 _ ?side1 ?side2 A3.out).mono ?_
  (case side1 => repeat (first | exact (cB_ HR1.out HB.out) | (with_reducible refine Kd.C_alloc ?_ _) | (with_reducible refine Kd.C_drewN ?_ _) | (with_reducible refine Kd.C_drew ?_)))
  (case side2 => exact HC1.out)
  rintro e w8 ⟨rfl, hb⟩; refine ⟨_, rfl, ?_⟩; have n0_ := Z_ (bB_ (g := gb1174) (o := .cells #[.int .i64 a0_0, .slice A0_1 l0_1.length c0_1] 24 (0, 0)) (by (with_reducible repeat (first | refine bN_ ?_ _ | refine bD_ ?_ | refine bA_ ?_ _)); exact BK1174.out) hb); have n1_ := Z_ (fS_ (by repeat (first | (with_reducible first | exact HB.out | apply fA_ | apply pB_ | apply fD_ | refine fE_ ?_ GE1174.out) | exact HB.out)) hb); clear BK1174; clear HB; have BK1174 := n0_; have HB := n1_; clear n0_ n1_; (try clear hb)
  (try clear hb2)
  (try clear hk)
  (try clear hi)
  refine hK.out _ _ ⟨(bC_ BK1174.out 0).trans rfl, (bC_ BK1174.out 1).trans rfl⟩ (fun hHeld => ?_); clear hK K; refine norm_ (a' := ?_) ?_ ?_; rotate_left
  · show Act.put _ (some 11) _ = _
    simp only [Act.put, sT_, sZ_, sS_, i64_w, i32_w]; rfl
  refine one_ (i := 5) (N := some 12) (mB_ 8 63) rfl rfl (one_of HT_.out (by kernel_rfl)) (by decide) (fun K hK => ?_); refine Kd.R_lit_step Kd.bool _ 4 ?hg (N := 12) ?hd (xs := ([t1175] : List Bool)) (inner := [.bool t1175]) (ok := fun _ => True) (okp := fun _ => True) ?hr ?hp (fun _ hk => hk) trivial (Below.refl _ _) (nR_ _) (by simp) ?_; (case hd => rfl); (case hg => rfl); (case hr => first | (go_simp; done) | (go_simp; rfl)); (case hp => exact (Reps.one (show Kd.M Kd.bool _ _ _ t1175 [.bool t1175] from rfl) (Reps.none _ _))); intro v1177 w9 ho10 hb hg_ hnew_; clear hg_ hnew_; (first | rw [← Ny1176.out] at ho10 | (simp only [Int.reduceToNat] at ho10; rw [← Ny1176.out] at ho10))
  have n0_ := Z_ (rL_ ho10 (fZ_ (by repeat (first | (with_reducible first | exact HB.out | apply fA_ | apply pB_ | apply fD_ | refine fE_ ?_ GE1174.out) | exact HB.out)))); have n1_ := Z_ (bB_ (g := gb1174) (o := .cells #[.int .i64 a0_0, .slice A0_1 l0_1.length c0_1] 24 (0, 0)) (by (with_reducible repeat (first | refine bN_ ?_ _ | refine bD_ ?_ | refine bA_ ?_ _)); exact BK1174.out) hb); have n2_ := Z_ (fS_ (by repeat (first | (with_reducible first | exact HB.out | apply fA_ | apply pB_ | apply fD_ | refine fE_ ?_ GE1174.out) | exact HB.out)) hb); clear BK1174; clear HB; have HO1178 := n0_; have BK1174 := n1_; have HB := n2_; clear n0_ n1_ n2_; clear hb ho10; obtain ⟨Ao11, co11, eo11⟩ := rS_ HO1178.out; (first | subst eo11 | (injection eo11 with f1_ f2_ f3_; have f4_ := f1_.symm; have f5_ := f3_.symm; clear f1_ f2_ f3_; subst f4_; subst f5_))
  refine hK.out _ _ ⟨(bC_ BK1174.out 0).trans rfl, (bC_ BK1174.out 1).trans rfl⟩ (fun hHeld => ?_); clear hK K; refine norm_ (a' := ?_) ?_ ?_; rotate_left
  · show Act.put _ (some 12) _ = _
    simp only [Act.put, sT_, sZ_, sS_, i64_w, i32_w]; rfl
  refine one_ (i := 6) (N := some 13) (mB_ 8 127) rfl rfl (one_of HT_.out (by kernel_rfl)) (by decide) (fun K hK => ?_); refine goes_ Try.func77 (by kernel_rfl) rfl #[.agg #[.int .i64 a0_0, .slice A0_1 l0_1.length c0_1], .slice Ao11 y1176.length co11] (by rfl) rfl rfl (by (try simp only [mT_, mC_, mN_]); first | done | rfl | (simp only [lD_, lT_]; rfl)) ?_; with_reducible refine (diffs_asked.calls k a0_0 _ _ l0_1 _ _ y1176 t1179 _ ?side1 ?side2 ?side3 ?side4 A4.out).mono ?_
  (case side1 => repeat (first | exact (cB_ HR0_1.out HB.out) | (with_reducible refine Kd.C_alloc ?_ _) | (with_reducible refine Kd.C_drewN ?_ _) | (with_reducible refine Kd.C_drew ?_)))
  (case side2 => exact HC0_1.out)
  (case side3 => repeat (first | exact (rR_ HO1178.out).2.2 | (with_reducible refine Kd.C_alloc ?_ _) | (with_reducible refine Kd.C_drewN ?_ _) | (with_reducible refine Kd.C_drew ?_)))
  (case side4 => exact (rR_ HO1178.out).2.1)
  rintro e w12 ⟨rfl, hb⟩; refine ⟨_, rfl, ?_⟩; have n0_ := Z_ (rB_ (by (with_reducible repeat (first | apply rA_ | apply rN_ | apply rD_)); exact HO1178.out) hb); have n1_ := Z_ (bB_ (g := gb1174) (o := .cells #[.int .i64 a0_0, .slice A0_1 l0_1.length c0_1] 24 (0, 0)) (by (with_reducible repeat (first | refine bN_ ?_ _ | refine bD_ ?_ | refine bA_ ?_ _)); exact BK1174.out) hb); have n2_ := Z_ (fS_ (by repeat (first | (with_reducible first | exact HB.out | apply fA_ | apply pB_ | apply fD_ | refine fE_ ?_ GE1174.out) | exact HB.out)) hb); clear HO1178; clear BK1174; clear HB; have HO1178 := n0_; have BK1174 := n1_; have HB := n2_; clear n0_ n1_ n2_; (try clear hb)
  (try clear hb2)
  (try clear hk)
  (try clear hi)
  refine hK.out _ _ ⟨(bC_ BK1174.out 0).trans rfl, (bC_ BK1174.out 1).trans rfl⟩ (fun hHeld => ?_); clear hK K; refine norm_ (a' := ?_) ?_ ?_; rotate_left
  · show Act.put _ (some 13) _ = _
    simp only [Act.put, sT_, sZ_, sS_, i64_w, i32_w]; rfl
  refine pure_ (i := 7) (N := some 6) (v := ?_) (a' := ?_) (mB_ 8 255) rfl rfl (any_of HT_.out (by kernel_rfl)) (fun _ _ _ h => h) (Or.inl ⟨by rfl, ?_⟩) ?_ ?_; rotate_left
  · intro w'
    go_simp; with_reducible rfl
  rotate_left
  · simp only [Act.put, sT_, sZ_, sS_, i64_w, i32_w]
    rfl
  refine done_ (done_of HT_.out (by kernel_rfl)) ?_; go_upto_if 15 with (fail); have H := HF5.out; clear HF5; by_cases c13 : t1179 = 0
  · rw [if_pos c13] at H
    have c13b0 : (t1179 == 0) = true := beq_iff_eq.mpr c13; have c13b1 : (t1179 != 0) = false := bne_eq_false_iff_eq.mpr c13; clear c13; (first | rw [c13b0] | (simp only [i64_w, i32_w]; rw [c13b0]) | skip)
    replace H := oS_.mp H; obtain ⟨t1180, A140, H⟩ := H; replace H : (some (t1180, 0)) = some (r1, r2) := H; have A14 := Z_ A140; clear A140; simp only [oJ_, pI_] at H; obtain ⟨rfl, rfl⟩ := H; have hcz15_0 : w12.cell? ⟨gb1174, 0, none⟩ = some (.int .i64 a0_0) := (bC_ BK1174.out 0).trans rfl; have hcz15_1 : w12.cell? ⟨gb1174, 1, none⟩ = some (.slice A0_1 l0_1.length c0_1) := (bC_ BK1174.out 1).trans rfl; have hfz15_0 := bF_ BK1174.out 0; have hfz15_1 := bF_ BK1174.out 1; go_wp2_with (first | ((with_reducible refine gate_callee (f := 105) rfl ?_); refine goesL_ (some 19) rfl rfl Try.func105 (by kernel_rfl) rfl #[.agg #[.int .i64 a0_0, .slice A0_1 l0_1.length c0_1], .slice A1 l1.length c1] rfl (by (try simp only [mT_, mC_, mN_]); first | done | rfl | (simp only [lD_, lT_]; rfl)) ?_; (with_reducible refine (diffs_holds.calls a0_0 _ _ l0_1 _ _ l1 t1180 _ ?side1 ?side2 ?side3 ?side4 A14.out).mono ?_); (case side1 => repeat (first | exact (cB_ HR0_1.out HB.out) | (with_reducible refine Kd.C_alloc ?_ _) | (with_reducible refine Kd.C_drewN ?_ _) | (with_reducible refine Kd.C_drew ?_))); (case side2 => exact HC0_1.out); (case side3 => repeat (first | exact (cB_ HR1.out HB.out) | (with_reducible refine Kd.C_alloc ?_ _) | (with_reducible refine Kd.C_drewN ?_ _) | (with_reducible refine Kd.C_drew ?_))); (case side4 => exact HC1.out); rintro e w16 ⟨rfl, hb⟩; refine ⟨_, rfl, ?_⟩; have n0_ := Z_ (rB_ (by (with_reducible repeat (first | apply rA_ | apply rN_ | apply rD_)); exact HO1178.out) hb); have n1_ := Z_ (bB_ (g := gb1174) (o := .cells #[.int .i64 a0_0, .slice A0_1 l0_1.length c0_1] 24 (0, 0)) (by (with_reducible repeat (first | refine bN_ ?_ _ | refine bD_ ?_ | refine bA_ ?_ _)); exact BK1174.out) hb); have n2_ := Z_ (fS_ (by repeat (first | (with_reducible first | exact HB.out | apply fA_ | apply pB_ | apply fD_ | refine fE_ ?_ GE1174.out) | exact HB.out)) hb); clear HO1178; clear BK1174; clear HB; have HO1178 := n0_; have BK1174 := n1_; have HB := n2_; clear n0_ n1_ n2_; (try clear hb); (try clear hb2); (try clear hk); (try clear hi))); go_ret2; exact ⟨by first | rfl | (simp [errW_none, errW_some] <;> rfl) | (simp [*, errW_none, errW_some] <;> rfl), by repeat (first | (with_reducible first | exact HB.out | apply fA_ | apply pB_ | apply fD_ | refine fE_ ?_ GE1174.out) | exact HB.out)⟩
  rw [if_neg c13] at H; have c13b0 : (t1179 == 0) = false := beq_eq_false_iff_ne.mpr c13; have c13b1 : (t1179 != 0) = true := bne_iff_ne.mpr c13; (first | rw [c13b0] | (simp only [i64_w, i32_w]; rw [c13b0]) | skip)
  simp only [oJ_, pI_] at H; obtain ⟨rfl, rfl⟩ := H; go_wp2; go_ret2; exact ⟨by first | rfl | (simp [errW_none, errW_some] <;> rfl) | (simp [*, errW_none, errW_some] <;> rfl), by repeat (first | (with_reducible first | exact HB.out | apply fA_ | apply pB_ | apply fD_ | refine fE_ ?_ GE1174.out) | exact HB.out)⟩
end Go.Proofs.Ytpolojoeabmhdaa.A
