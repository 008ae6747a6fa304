import Derived.Test.YtpolojoeabmhdaaMZcoreb
import Derived.Test.YtpolojoeabmhdaaMZcoreh
import Derived.Test.YtpolojoeabmhdaaMZflowa
set_option linter.unusedVariables false
set_option linter.unusedSimpArgs false
namespace Go.Proofs.Ytpolojoeabmhdaa.A
open Go.RowKit Go.Proofs.YtpolojoeabmhdaaW.PrintWords Go.Proofs.YtpolojoeabmhdaaW.PrintLast Go.Proofs.YtpolojoeabmhdaaW.PrintMore
attribute [local go_sem] max2_int min2_int max_two min_two max_three min_three max_four min_four
mutual
def snowlinelaw04_fulfils.j0 : Nat → List Int → Bool → Int → List (S39) → Option (Bool)
  | 0, _, _, _, _ => none
  | k + 1, x1, x24, x922000, x922001 => if x24 = true then (some false) else (snowlinelaw04_fulfils.l0 k x1 x1 (x1.length : Int) 0 x922000 x922001)
def snowlinelaw04_fulfils.l0 : Nat → List Int → List Int → Int → Int → Int → List (S39) → Option (Bool)
  | 0, _, _, _, _, _, _ => none
  | k + 1, x1, x25, x26, x27, x922000, x922001 => if x27 < x26 then (if 0 ≤ x27 then (if x27 < (x25.length : Int) then (if (rd x25 x27) < (-1099511627776) then (snowlinelaw04_fulfils.j2 k x1 x25 x26 x27 true x922000 x922001) else (snowlinelaw04_fulfils.j2 k x1 x25 x26 x27 (decide ((rd x25 x27) > 1099511627776)) x922000 x922001)) else (none)) else (none)) else (snowlinelaw04_fulfils.l1 k x1 x922001 (x922001.length : Int) 0)
def snowlinelaw04_fulfils.j2 : Nat → List Int → List Int → Int → Int → Bool → Int → List (S39) → Option (Bool)
  | 0, _, _, _, _, _, _, _ => none
  | k + 1, x1, x25, x26, x27, x36, x922000, x922001 => if x36 = true then (some false) else (snowlinelaw04_fulfils.l0 k x1 x25 x26 (wrap64 (x27 + 1)) x922000 x922001)
def snowlinelaw04_fulfils.l1 : Nat → List Int → List (S39) → Int → Int → Option (Bool)
  | 0, _, _, _, _ => none
  | k + 1, x1, x39, x40, x41 => if x41 < x40 then (if 0 ≤ x41 then (if x41 < (x39.length : Int) then (if ((rd_T39 x39 x41).f0) < 0 then (snowlinelaw04_fulfils.j4 k x1 x39 x40 x41 true) else (if ((rd_T39 x39 x41).f0) ≥ (x1.length : Int) then (snowlinelaw04_fulfils.j4 k x1 x39 x40 x41 true) else (if ((rd_T39 x39 x41).f1) < 0 then (snowlinelaw04_fulfils.j4 k x1 x39 x40 x41 true) else (if ((rd_T39 x39 x41).f1) ≥ (x1.length : Int) then (snowlinelaw04_fulfils.j4 k x1 x39 x40 x41 true) else (if 0 ≤ ((rd_T39 x39 x41).f1) then (if ((rd_T39 x39 x41).f1) < (x1.length : Int) then (if 0 ≤ ((rd_T39 x39 x41).f0) then (if ((rd_T39 x39 x41).f0) < (x1.length : Int) then (snowlinelaw04_fulfils.j4 k x1 x39 x40 x41 (decide ((wrap64 ((rd x1 ((rd_T39 x39 x41).f1)) - (rd x1 ((rd_T39 x39 x41).f0)))) > ((rd_T39 x39 x41).f2)))) else (none)) else (none)) else (none)) else (none)))))) else (none)) else (none)) else (some true)
def snowlinelaw04_fulfils.j4 : Nat → List Int → List (S39) → Int → Int → Bool → Option (Bool)
  | 0, _, _, _, _, _ => none
  | k + 1, x1, x39, x40, x41, x82 => if x82 = true then (some false) else (snowlinelaw04_fulfils.l1 k x1 x39 x40 (wrap64 (x41 + 1)))
end
def snowlinelaw04_fulfils.f (k : Nat) (a0_0 : Int) (l0_1 : List (S39)) (l1 : List Int) : Option (Bool) := if (l1.length : Int) = a0_0 then (if (l1.length : Int) = 0 then (snowlinelaw04_fulfils.j0 k l1 true a0_0 l0_1) else (if 0 < (l1.length : Int) then (snowlinelaw04_fulfils.j0 k l1 ((rd l1 0) != 0) a0_0 l0_1) else (none))) else (snowlinelaw04_fulfils.j0 k l1 true a0_0 l0_1)
theorem snowlinelaw04_fulfils.mono_l : ∀ k, (∀ y0 y1 y2 y3, LeO (snowlinelaw04_fulfils.j0 k y0 y1 y2 y3) (snowlinelaw04_fulfils.j0 (k + 1) y0 y1 y2 y3)) ∧ (∀ y0 y1 y2 y3 y4 y5, LeO (snowlinelaw04_fulfils.l0 k y0 y1 y2 y3 y4 y5) (snowlinelaw04_fulfils.l0 (k + 1) y0 y1 y2 y3 y4 y5)) ∧ (∀ y0 y1 y2 y3 y4 y5 y6, LeO (snowlinelaw04_fulfils.j2 k y0 y1 y2 y3 y4 y5 y6) (snowlinelaw04_fulfils.j2 (k + 1) y0 y1 y2 y3 y4 y5 y6)) ∧ (∀ y0 y1 y2 y3, LeO (snowlinelaw04_fulfils.l1 k y0 y1 y2 y3) (snowlinelaw04_fulfils.l1 (k + 1) y0 y1 y2 y3)) ∧ (∀ y0 y1 y2 y3 y4, LeO (snowlinelaw04_fulfils.j4 k y0 y1 y2 y3 y4) (snowlinelaw04_fulfils.j4 (k + 1) y0 y1 y2 y3 y4))
  | 0 => ⟨fun _ _ _ _ r h => by simp [snowlinelaw04_fulfils.j0] at h, fun _ _ _ _ _ _ r h => by simp [snowlinelaw04_fulfils.l0] at h, fun _ _ _ _ _ _ _ r h => by simp [snowlinelaw04_fulfils.j2] at h, fun _ _ _ _ r h => by simp [snowlinelaw04_fulfils.l1] at h, fun _ _ _ _ _ r h => by simp [snowlinelaw04_fulfils.j4] at h⟩
  | k + 1 => by
    obtain ⟨ih0, ih1, ih2, ih3, ih4⟩ := snowlinelaw04_fulfils.mono_l k; refine ⟨?_, ?_, ?_, ?_, ?_⟩ <;> intros <;> (first | unfold snowlinelaw04_fulfils.j0 | unfold snowlinelaw04_fulfils.l0 | unfold snowlinelaw04_fulfils.j2 | unfold snowlinelaw04_fulfils.l1 | unfold snowlinelaw04_fulfils.j4) <;> repeat' first | (with_reducible first | exact ih0 _ _ _ _ | exact ih1 _ _ _ _ _ _ | exact ih2 _ _ _ _ _ _ _ | exact ih3 _ _ _ _ | exact ih4 _ _ _ _ _ | exact LeO.refl _ | exact LeO.none _ | refine LeO.ite ?_ ?_ | refine LeO.bind ?_ (fun _ => ?_)) | exact ih0 _ _ _ _ | exact ih1 _ _ _ _ _ _ | exact ih2 _ _ _ _ _ _ _ | exact ih3 _ _ _ _ | exact ih4 _ _ _ _ _ | exact LeO.none _ | refine LeO.ite ?_ ?_ | refine LeO.bind ?_ (fun _ => ?_)
theorem snowlinelaw04_fulfils.mono : ∀ a0 a1 a2 k, LeO (snowlinelaw04_fulfils.f k a0 a1 a2) (snowlinelaw04_fulfils.f (k + 1) a0 a1 a2) := by
  intro a0 a1 a2 k; obtain ⟨ih0, ih1, ih2, ih3, ih4⟩ := snowlinelaw04_fulfils.mono_l k; unfold snowlinelaw04_fulfils.f; repeat' first | (with_reducible first | exact ih0 _ _ _ _ | exact ih1 _ _ _ _ _ _ | exact ih2 _ _ _ _ _ _ _ | exact ih3 _ _ _ _ | exact ih4 _ _ _ _ _ | exact LeO.refl _ | exact LeO.none _ | refine LeO.ite ?_ ?_ | refine LeO.bind ?_ (fun _ => ?_)) | exact ih0 _ _ _ _ | exact ih1 _ _ _ _ _ _ | exact ih2 _ _ _ _ _ _ _ | exact ih3 _ _ _ _ | exact ih4 _ _ _ _ _ | exact LeO.none _ | refine LeO.ite ?_ ?_ | refine LeO.bind ?_ (fun _ => ?_)
set_option maxHeartbeats 8000000 in
set_option maxRecDepth 100000 in
theorem snowlinelaw04_fulfils.calls (k : Nat) (a0_0 : Int) (A0_1 : Option Addr) (c0_1 : Nat) (l0_1 : List (S39)) (A1 : Option Addr) (c1 : Nat) (l1 : List Int) (r : Bool) (w : World) (hr0_1 : Kd.C k39 w A0_1 l0_1.length l0_1) (hc0_1 : l0_1.length ≤ c0_1) (hr1 : Kd.C (Kd.int .i64) w A1 l1.length l1) (hc1 : l1.length ≤ c1) (h : snowlinelaw04_fulfils.f k a0_0 l0_1 l1 = some r) :
    Calls Try.prog 48 #[.agg #[.int .i64 a0_0, .slice A0_1 l0_1.length c0_1], .slice A1 l1.length c1] w fun e w' => e = .returned (.bool r) ∧ Below w.heap.size w w' := by
  have hu24 := Try.underlying24; have hu39 := Try.underlying39; have HR0_1 := Z_ hr0_1; have HC0_1 := Z_ hc0_1; clear hr0_1 hc0_1; have HR1 := Z_ hr1; have HC1 := Z_ hc1; clear hr1 hc1; have HB := Z_ (Below.refl w.heap.size w); have H : (if (l1.length : Int) = a0_0 then (if (l1.length : Int) = 0 then (snowlinelaw04_fulfils.j0 k l1 true a0_0 l0_1) else (if 0 < (l1.length : Int) then (snowlinelaw04_fulfils.j0 k l1 ((rd l1 0) != 0) a0_0 l0_1) else (none))) else (snowlinelaw04_fulfils.j0 k l1 true a0_0 l0_1)) = some r := h; clear h; have HC3 := Z_ H; clear H; go_enter Try.func48, Try.ntmps48; go_upto_region 1 with (first | ((with_reducible refine gate_dst (N := 2) rfl ?_); (try (refine gate_guard (by rfl) ?_; dsimp only)); refine box_event ?hg (N := 2) ?hd (cs := #[.int .i64 a0_0, .slice A0_1 l0_1.length c0_1]) (t := 24) ?hr ?_; (case hd => rfl); (case hg => rfl); (case hr => first | (go_simp; done) | (go_simp; rfl)); intro gb921 hg w4 hbox hb; have n0_ := Z_ (fS_ (by repeat (first | (with_reducible first | exact HB.out | apply fA_ | apply pB_ | apply fD_) | exact HB.out)) hb); have n1_ := Z_ (hbox); have n2_ := Z_ ((by rw [hg]; exact (fZ_ (by repeat (first | (with_reducible first | exact HB.out | apply fA_ | apply pB_ | apply fD_) | exact HB.out))) : w.heap.size ≤ gb921)); have n3_ := Z_ ((by rw [hg]; exact (fZ_ (by repeat (first | (with_reducible first | exact HB.out | apply fA_ | apply pB_ | apply fD_) | exact HB.out))) : w.heap.size ≤ gb921)); clear HB; have HB := n0_; have BK921 := n1_; have GW921 := n2_; have GE921 := n3_; clear n0_ n1_ n2_ n3_; clear hb hbox hg)); repeat (go_quiet (first | ((with_reducible refine gate_dst (N := 2) rfl ?_); (try (refine gate_guard (by rfl) ?_; dsimp only)); refine box_event ?hg (N := 2) ?hd (cs := #[.int .i64 a0_0, .slice A0_1 l0_1.length c0_1]) (t := 24) ?hr ?_; (case hd => rfl); (case hg => rfl); (case hr => first | (go_simp; done) | (go_simp; rfl)); intro gb921 hg w4 hbox hb; have n0_ := Z_ (fS_ (by repeat (first | (with_reducible first | exact HB.out | apply fA_ | apply pB_ | apply fD_) | exact HB.out)) hb); have n1_ := Z_ (hbox); have n2_ := Z_ ((by rw [hg]; exact (fZ_ (by repeat (first | (with_reducible first | exact HB.out | apply fA_ | apply pB_ | apply fD_) | exact HB.out))) : w.heap.size ≤ gb921)); have n3_ := Z_ ((by rw [hg]; exact (fZ_ (by repeat (first | (with_reducible first | exact HB.out | apply fA_ | apply pB_ | apply fD_) | exact HB.out))) : w.heap.size ≤ gb921)); clear HB; have HB := n0_; have BK921 := n1_; have GW921 := n2_; have GE921 := n3_; clear n0_ n1_ n2_ n3_; clear hb hbox hg)); go_upto_region 1 with (first | ((with_reducible refine gate_dst (N := 2) rfl ?_); (try (refine gate_guard (by rfl) ?_; dsimp only)); refine box_event ?hg (N := 2) ?hd (cs := #[.int .i64 a0_0, .slice A0_1 l0_1.length c0_1]) (t := 24) ?hr ?_; (case hd => rfl); (case hg => rfl); (case hr => first | (go_simp; done) | (go_simp; rfl)); intro gb921 hg w4 hbox hb; have n0_ := Z_ (fS_ (by repeat (first | (with_reducible first | exact HB.out | apply fA_ | apply pB_ | apply fD_) | exact HB.out)) hb); have n1_ := Z_ (hbox); have n2_ := Z_ ((by rw [hg]; exact (fZ_ (by repeat (first | (with_reducible first | exact HB.out | apply fA_ | apply pB_ | apply fD_) | exact HB.out))) : w.heap.size ≤ gb921)); have n3_ := Z_ ((by rw [hg]; exact (fZ_ (by repeat (first | (with_reducible first | exact HB.out | apply fA_ | apply pB_ | apply fD_) | exact HB.out))) : w.heap.size ≤ gb921)); clear HB; have HB := n0_; have BK921 := n1_; have GW921 := n2_; have GE921 := n3_; clear n0_ n1_ n2_ n3_; clear hb hbox hg)))
  (try simp only [Act.put, sT_, sZ_, sS_])
  go_cut [24] (fun v24 wc => ∃ (kq : Nat) (x24_2 : Bool), v24 = .bool x24_2 ∧ Aside0 (snowlinelaw04_fulfils.j0 kq l1 x24_2 a0_0 l0_1 = some r) ∧ Aside0 (kq ≤ k) ∧ Aside0 (wc.heap[gb921]? = some (.cells #[.int .i64 a0_0, (.slice A0_1 l0_1.length c0_1)] 24 (0, 0))) ∧ Aside0 (Below w.heap.size w wc))
  case first =>
    have H := HC3.out; clear HC3; by_cases c5 : (l1.length : Int) = a0_0
    · rw [if_pos c5] at H
      have c5b0 : ((l1.length : Int) == a0_0) = true := beq_iff_eq.mpr c5; have c5b1 : ((l1.length : Int) != a0_0) = false := bne_eq_false_iff_eq.mpr c5; clear c5; (first | rw [c5b0] | (simp only [i64_w, i32_w]; rw [c5b0]) | skip)
      by_cases c6 : (l1.length : Int) = 0
      · rw [if_pos c6] at H
        have c6b0 : ((l1.length : Int) == 0) = true := beq_iff_eq.mpr c6; have c6b1 : ((l1.length : Int) != 0) = false := bne_eq_false_iff_eq.mpr c6; clear c6; have H' := Z_ H; clear H; have hcz7_0 : w4.cell? ⟨gb921, 0, none⟩ = some (.int .i64 a0_0) := (bC_ BK921.out 0).trans rfl; have hcz7_1 : w4.cell? ⟨gb921, 1, none⟩ = some (.slice A0_1 l0_1.length c0_1) := (bC_ BK921.out 1).trans rfl; have hfz7_0 := bF_ BK921.out 0; have hfz7_1 := bF_ BK921.out 1; go_wp2; repeat (go_quiet (fail); try go_wp2)
        go_meet
        case rel => exact ⟨_, (true), (by first | rfl | (simp; done) | (simp [*]; done)), H', ⟨by first | omega | exact nR_ _⟩, ⟨by (with_reducible repeat (first | refine bN_ ?_ _ | refine bD_ ?_ | refine bA_ ?_ _)); exact BK921.out⟩, ⟨by repeat (first | (with_reducible first | exact HB.out | apply fA_ | apply pB_ | apply fD_ | refine fE_ ?_ GE921.out) | exact HB.out)⟩⟩
      rw [if_neg c6] at H; have c6b0 : ((l1.length : Int) == 0) = false := beq_eq_false_iff_ne.mpr c6; have c6b1 : ((l1.length : Int) != 0) = true := bne_iff_ne.mpr c6; have c6b2 : ¬ (l1 = []) := fun h_ => c6 (by rw [h_]; rfl)
      by_cases c8 : 0 < (l1.length : Int)
      · rw [if_pos c8] at H
        have c8b0 : decide (0 < (l1.length : Int)) = true := eT_ c8; have c8b1 : decide (0 < l1.length) = true := eT_ (by omega); clear c8; have H' := Z_ H; clear H; have hcz9_0 : w4.cell? ⟨gb921, 0, none⟩ = some (.int .i64 a0_0) := (bC_ BK921.out 0).trans rfl; have hcz9_1 : w4.cell? ⟨gb921, 1, none⟩ = some (.slice A0_1 l0_1.length c0_1) := (bC_ BK921.out 1).trans rfl; have hfz9_0 := bF_ BK921.out 0; have hfz9_1 := bF_ BK921.out 1; have p922 : 0 ≤ (0 : Int) := (by omega); have q922 : 0 < (l1.length : Int) := dT_ (by first | (with_reducible assumption) | assumption); obtain ⟨ad922, e922, hx922_0⟩ := Kd.at_int HR1.out 0 p922 q922; cases e922
        have qi922 : (0 < l1.length) = True := eq_true (by omega); (try rw [show ((0 : Int)).toNat = 0 from rfl] at hx922_0)
        (try rw [Addr.add_zero'] at hx922_0)
        replace hx922_0 := (HB.out.cell (World.block_lt_of_cell? w _ hx922_0)).trans hx922_0; replace p922 := eq_true p922; replace q922 := eq_true q922; go_wp2; repeat (go_quiet (fail); try go_wp2)
        go_meet
        case rel => exact ⟨_, (((rd l1 0) != 0)), (by first | rfl | (simp; done) | (simp [*]; done)), H', ⟨by first | omega | exact nR_ _⟩, ⟨by (with_reducible repeat (first | refine bN_ ?_ _ | refine bD_ ?_ | refine bA_ ?_ _)); exact BK921.out⟩, ⟨by repeat (first | (with_reducible first | exact HB.out | apply fA_ | apply pB_ | apply fD_ | refine fE_ ?_ GE921.out) | exact HB.out)⟩⟩
      rw [if_neg c8] at H; exact absurd H (by simp)
    rw [if_neg c5] at H; have c5b0 : ((l1.length : Int) == a0_0) = false := beq_eq_false_iff_ne.mpr c5; have c5b1 : ((l1.length : Int) != a0_0) = true := bne_iff_ne.mpr c5; (first | rw [c5b0] | (simp only [i64_w, i32_w]; rw [c5b0]) | skip)
    have H' := Z_ H; clear H; have hcz10_0 : w4.cell? ⟨gb921, 0, none⟩ = some (.int .i64 a0_0) := (bC_ BK921.out 0).trans rfl; have hcz10_1 : w4.cell? ⟨gb921, 1, none⟩ = some (.slice A0_1 l0_1.length c0_1) := (bC_ BK921.out 1).trans rfl; have hfz10_0 := bF_ BK921.out 0; have hfz10_1 := bF_ BK921.out 1; go_wp2; repeat (go_quiet (fail); try go_wp2)
    go_meet
    case rel => exact ⟨_, (true), (by first | rfl | (simp; done) | (simp [*]; done)), H', ⟨by first | omega | exact nR_ _⟩, ⟨by (with_reducible repeat (first | refine bN_ ?_ _ | refine bD_ ?_ | refine bA_ ?_ _)); exact BK921.out⟩, ⟨by repeat (first | (with_reducible first | exact HB.out | apply fA_ | apply pB_ | apply fD_ | refine fE_ ?_ GE921.out) | exact HB.out)⟩⟩
  case rest =>
    clear HC3; try clear c1
    try clear p2
    try clear c4
    try clear c5
    try clear c5b0
    try clear c5b1
    try clear c6
    try clear c6b0
    try clear c6b1
    try clear c6b2
    try clear c8
    try clear c8b0
    try clear c8b1
    try clear p9
    try clear q9
    try clear hx9
    try clear qi9
    try clear hcz10_0
    try clear hcz10_1
    try clear hcz7_0
    try clear hcz7_1
    try clear hcz9_0
    try clear hcz9_1
    try clear hfz10_0
    try clear hfz10_1
    try clear hfz7_0
    try clear hfz7_1
    try clear hfz9_0
    try clear hfz9_1
    try clear hx922_0
    try clear p922
    try clear q922
    obtain ⟨kq, x24_2, rfl, HA, HJ2, BK921, HB⟩ := hcut
    cases kq with
    | zero => exact absurd HA.out (by simp [snowlinelaw04_fulfils.j0])
    | succ kj2 =>
      have H := HA.out; clear HA; simp only [snowlinelaw04_fulfils.j0] at H; by_cases c11 : x24_2 = true
      · subst c11
        have H1 : (some false) = some r := by rw [if_pos rfl] at H; exact H
        clear H; have H := H1; clear H1; obtain rfl := oI_ H; go_wp2; repeat (go_quiet (fail); try go_wp2)
        go_ret; exact ⟨by first | rfl | (simp [errW_none, errW_some] <;> rfl) | (simp [*, errW_none, errW_some] <;> rfl), by repeat (first | (with_reducible first | exact HB.out | apply fA_ | apply pB_ | apply fD_ | refine fE_ ?_ GE921.out) | exact HB.out)⟩
      replace c11 := bE_.mpr c11; subst c11; have H1 : (snowlinelaw04_fulfils.l0 kj2 l1 l1 (l1.length : Int) 0 a0_0 l0_1) = some r := by rw [if_neg (show ¬ (false = true) by decide)] at H; exact H
      clear H; have H := H1; clear H1; have H' := Z_ H; clear H; go_wp2; repeat (go_quiet (fail); try go_wp2)
      go_loopg [27] kj2 (fun kq v27 w' => ∃ (x27_2 : Int), v27 = .int .i64 x27_2 ∧ Aside0 (snowlinelaw04_fulfils.l0 kq l1 l1 (l1.length : Int) x27_2 a0_0 l0_1 = some r) ∧ Aside0 (kq ≤ kj2) ∧ Aside0 (w'.heap[gb921]? = some (.cells #[.int .i64 a0_0, (.slice A0_1 l0_1.length c0_1)] 24 (0, 0))) ∧ Aside0 (Below w.heap.size w w'))
      case atStart => exact ⟨(0), (by first | rfl | (simp; done) | (simp [*]; done)), H', ⟨nR_ _⟩, ⟨by (with_reducible repeat (first | refine bN_ ?_ _ | refine bD_ ?_ | refine bA_ ?_ _)); exact BK921.out⟩, ⟨by repeat (first | (with_reducible first | exact HB.out | apply fA_ | apply pB_ | apply fD_ | refine fE_ ?_ GE921.out) | exact HB.out)⟩⟩
      case round =>
        clear H'; try clear c1
        try clear p2
        try clear c4
        try clear c5
        try clear c5b0
        try clear c5b1
        try clear c6
        try clear c6b0
        try clear c6b1
        try clear c6b2
        try clear c8
        try clear c8b0
        try clear c8b1
        try clear p9
        try clear q9
        try clear hx9
        try clear qi9
        try clear c11
        try clear hcz10_0
        try clear hcz10_1
        try clear hcz7_0
        try clear hcz7_1
        try clear hcz9_0
        try clear hcz9_1
        try clear hfz10_0
        try clear hfz10_1
        try clear hfz7_0
        try clear hfz7_1
        try clear hfz9_0
        try clear hfz9_1
        try clear hx922_0
        try clear p2
        try clear p9
        try clear p922
        try clear q9
        try clear q922
        obtain ⟨x27_2, rfl, HA, HK2, BK921, HB⟩ := hrel
        cases gk with
        | zero => exact absurd HA.out (by simp [snowlinelaw04_fulfils.l0])
        | succ k2 =>
          have H := HA.out; clear HA; simp only [snowlinelaw04_fulfils.l0] at H; by_cases c12 : x27_2 < (l1.length : Int)
          · rw [if_pos c12] at H
            have c12b0 : decide (x27_2 < (l1.length : Int)) = true := eT_ c12; clear c12; by_cases c13 : 0 ≤ x27_2
            · rw [if_pos c13] at H
              have c13b0 : decide (0 ≤ x27_2) = true := eT_ c13; clear c13; by_cases c14 : x27_2 < (l1.length : Int)
              · rw [if_pos c14] at H
                have c14b0 : decide (x27_2 < (l1.length : Int)) = true := eT_ c14; clear c14; have HC15 := Z_ H; clear H; have p923 : 0 ≤ (x27_2 : Int) := dT_ (by first | (with_reducible assumption) | assumption); have q923 : x27_2 < (l1.length : Int) := dT_ (by first | (with_reducible assumption) | assumption); obtain ⟨ad923, e923, hx923_0⟩ := Kd.at_int HR1.out x27_2 p923 q923; cases e923
                replace hx923_0 := (HB.out.cell (World.block_lt_of_cell? w _ hx923_0)).trans hx923_0; replace p923 := eq_true p923; replace q923 := eq_true q923; go_upto_region 6 with (fail); repeat (go_quiet (fail); go_upto_region 6 with (fail))
                go_cut [36] (fun v36 wc => ∃ (kq : Nat) (x36_14 : Bool), v36 = .bool x36_14 ∧ Aside0 (snowlinelaw04_fulfils.j2 kq l1 l1 (l1.length : Int) x27_2 x36_14 a0_0 l0_1 = some r) ∧ Aside0 (kq ≤ k2) ∧ Aside0 (wc.heap[gb921]? = some (.cells #[.int .i64 a0_0, (.slice A0_1 l0_1.length c0_1)] 24 (0, 0))) ∧ Aside0 (Below w.heap.size w wc))
                case first =>
                  have H := HC15.out; clear HC15; by_cases c16 : (rd l1 x27_2) < (-1099511627776)
                  · rw [if_pos c16] at H
                    have c16b0 : decide ((rd l1 x27_2) < (-1099511627776)) = true := eT_ c16; clear c16; (first | rw [c16b0] | (simp only [i64_w, i32_w]; rw [c16b0]) | skip)
                    have H' := Z_ H; clear H; go_wp2; repeat (go_quiet (fail); try go_wp2)
                    go_meet
                    case rel => exact ⟨_, (true), (by first | rfl | (simp; done) | (simp [*]; done)), H', ⟨by have := HJ2.out; have := HK2.out; first | omega | exact nR_ _⟩, ⟨by (with_reducible repeat (first | refine bN_ ?_ _ | refine bD_ ?_ | refine bA_ ?_ _)); exact BK921.out⟩, ⟨by repeat (first | (with_reducible first | exact HB.out | apply fA_ | apply pB_ | apply fD_ | refine fE_ ?_ GE921.out) | exact HB.out)⟩⟩
                  rw [if_neg c16] at H; have c16b0 : decide ((rd l1 x27_2) < (-1099511627776)) = false := eF_ c16; clear c16; (first | rw [c16b0] | (simp only [i64_w, i32_w]; rw [c16b0]) | skip)
                  have H' := Z_ H; clear H; go_wp2; repeat (go_quiet (fail); try go_wp2)
                  go_meet
                  case rel => exact ⟨_, (decide ((rd l1 x27_2) > 1099511627776)), (by first | rfl | (simp; done) | (simp [*]; done)), H', ⟨by have := HJ2.out; have := HK2.out; first | omega | exact nR_ _⟩, ⟨by (with_reducible repeat (first | refine bN_ ?_ _ | refine bD_ ?_ | refine bA_ ?_ _)); exact BK921.out⟩, ⟨by repeat (first | (with_reducible first | exact HB.out | apply fA_ | apply pB_ | apply fD_ | refine fE_ ?_ GE921.out) | exact HB.out)⟩⟩
                case rest =>
                  clear HC15; try clear c1
                  try clear p2
                  try clear c4
                  try clear c5
                  try clear c5b0
                  try clear c5b1
                  try clear c6
                  try clear c6b0
                  try clear c6b1
                  try clear c6b2
                  try clear c8
                  try clear c8b0
                  try clear c8b1
                  try clear p9
                  try clear q9
                  try clear hx9
                  try clear qi9
                  try clear c11
                  try clear c12
                  try clear c12b0
                  try clear c13
                  try clear c13b0
                  try clear c14
                  try clear c14b0
                  try clear c16
                  try clear c16b0
                  try clear hcz10_0
                  try clear hcz10_1
                  try clear hcz7_0
                  try clear hcz7_1
                  try clear hcz9_0
                  try clear hcz9_1
                  try clear hfz10_0
                  try clear hfz10_1
                  try clear hfz7_0
                  try clear hfz7_1
                  try clear hfz9_0
                  try clear hfz9_1
                  try clear hx922_0
                  try clear hx923_0
                  try clear p2
                  try clear p9
                  try clear p922
                  try clear p923
                  try clear q9
                  try clear q922
                  try clear q923
                  obtain ⟨kq, x36_14, rfl, HA, HJ14, BK921, HB⟩ := hcut
                  cases kq with
                  | zero => exact absurd HA.out (by simp [snowlinelaw04_fulfils.j2])
                  | succ kj14 =>
                    have H := HA.out; clear HA; simp only [snowlinelaw04_fulfils.j2] at H; by_cases c17 : x36_14 = true
                    · subst c17
                      have H1 : (some false) = some r := by rw [if_pos rfl] at H; exact H
                      clear H; have H := H1; clear H1; obtain rfl := oI_ H; go_wp2; repeat (go_quiet (fail); try go_wp2)
                      go_ret; exact ⟨by first | rfl | (simp [errW_none, errW_some] <;> rfl) | (simp [*, errW_none, errW_some] <;> rfl), by repeat (first | (with_reducible first | exact HB.out | apply fA_ | apply pB_ | apply fD_ | refine fE_ ?_ GE921.out) | exact HB.out)⟩
                    replace c17 := bE_.mpr c17; subst c17; have H1 : (snowlinelaw04_fulfils.l0 kj14 l1 l1 (l1.length : Int) (wrap64 (x27_2 + 1)) a0_0 l0_1) = some r := by rw [if_neg (show ¬ (false = true) by decide)] at H; exact H
                    clear H; have H := H1; clear H1; have H' := Z_ H; clear H; go_wp2; repeat (go_quiet (fail); try go_wp2)
                    go_roundg kj14
                    case measure => have := HJ2.out; have := HK2.out; have := HJ14.out; omega
                    case rel => exact ⟨(wrap64 (x27_2 + 1)), (by first | rfl | (simp; done) | (simp [*]; done)), H', ⟨by have := HJ2.out; have := HK2.out; have := HJ14.out; omega⟩, ⟨by (with_reducible repeat (first | refine bN_ ?_ _ | refine bD_ ?_ | refine bA_ ?_ _)); exact BK921.out⟩, ⟨by repeat (first | (with_reducible first | exact HB.out | apply fA_ | apply pB_ | apply fD_ | refine fE_ ?_ GE921.out) | exact HB.out)⟩⟩
              rw [if_neg c14] at H; exact absurd H (by simp)
            rw [if_neg c13] at H; exact absurd H (by simp)
          rw [if_neg c12] at H; have c12b0 : decide (x27_2 < (l1.length : Int)) = false := eF_ c12; clear c12; have H' := Z_ H; clear H; have hcz18_0 : wr.cell? ⟨gb921, 0, none⟩ = some (.int .i64 a0_0) := (bC_ BK921.out 0).trans rfl; have hcz18_1 : wr.cell? ⟨gb921, 1, none⟩ = some (.slice A0_1 l0_1.length c0_1) := (bC_ BK921.out 1).trans rfl; have hfz18_0 := bF_ BK921.out 0; have hfz18_1 := bF_ BK921.out 1; go_wp2; repeat (go_quiet (fail); try go_wp2)
          go_loopg [41] k2 (fun kq v41 w' => ∃ (x41_3 : Int), v41 = .int .i64 x41_3 ∧ Aside0 (snowlinelaw04_fulfils.l1 kq l1 l0_1 (l0_1.length : Int) x41_3 = some r) ∧ Aside0 (kq ≤ k2) ∧ Aside0 (w'.heap[gb921]? = some (.cells #[.int .i64 a0_0, (.slice A0_1 l0_1.length c0_1)] 24 (0, 0))) ∧ Aside0 (Below w.heap.size w w'))
          case atStart => exact ⟨(0), (by first | rfl | (simp; done) | (simp [*]; done)), H', ⟨nR_ _⟩, ⟨by (with_reducible repeat (first | refine bN_ ?_ _ | refine bD_ ?_ | refine bA_ ?_ _)); exact BK921.out⟩, ⟨by repeat (first | (with_reducible first | exact HB.out | apply fA_ | apply pB_ | apply fD_ | refine fE_ ?_ GE921.out) | exact HB.out)⟩⟩
          case round =>
            clear H'; try clear c1
            try clear p2
            try clear c4
            try clear c5
            try clear c5b0
            try clear c5b1
            try clear c6
            try clear c6b0
            try clear c6b1
            try clear c6b2
            try clear p6
            try clear c8
            try clear c8b0
            try clear c8b1
            try clear p9
            try clear q9
            try clear hx9
            try clear qi9
            try clear c11
            try clear c12
            try clear c12b0
            try clear c13
            try clear c13b0
            try clear c14
            try clear c14b0
            try clear c16
            try clear c16b0
            try clear c17
            try clear hcz10_0
            try clear hcz10_1
            try clear hcz18_0
            try clear hcz18_1
            try clear hcz7_0
            try clear hcz7_1
            try clear hcz9_0
            try clear hcz9_1
            try clear hfz10_0
            try clear hfz10_1
            try clear hfz18_0
            try clear hfz18_1
            try clear hfz7_0
            try clear hfz7_1
            try clear hfz9_0
            try clear hfz9_1
            try clear hx922_0
            try clear hx923_0
            try clear p2
            try clear p9
            try clear p922
            try clear p923
            try clear q9
            try clear q922
            try clear q923
            obtain ⟨x41_3, rfl, HA, HK3, BK921, HB⟩ := hrel
            cases gk with
            | zero => exact absurd HA.out (by simp [snowlinelaw04_fulfils.l1])
            | succ k3 =>
              have H := HA.out; clear HA; simp only [snowlinelaw04_fulfils.l1] at H; by_cases c19 : x41_3 < (l0_1.length : Int)
              · rw [if_pos c19] at H
                have c19b0 : decide (x41_3 < (l0_1.length : Int)) = true := eT_ c19; clear c19; by_cases c20 : 0 ≤ x41_3
                · rw [if_pos c20] at H
                  have c20b0 : decide (0 ≤ x41_3) = true := eT_ c20; clear c20; by_cases c21 : x41_3 < (l0_1.length : Int)
                  · rw [if_pos c21] at H
                    have c21b0 : decide (x41_3 < (l0_1.length : Int)) = true := eT_ c21; clear c21; have HC22 := Z_ H; clear H; have p924 : 0 ≤ (x41_3 : Int) := dT_ (by first | (with_reducible assumption) | assumption); have q924 : x41_3 < (l0_1.length : Int) := dT_ (by first | (with_reducible assumption) | assumption); obtain ⟨ad924, e924, hx924_0, hx924_1, hx924_2⟩ := at_T39 HR0_1.out x41_3 p924 q924; cases e924
                    replace hx924_0 := (HB.out.cell (World.block_lt_of_cell? w _ hx924_0)).trans hx924_0; replace hx924_1 := (HB.out.cell (World.block_lt_of_cell? w _ hx924_1)).trans hx924_1; replace hx924_2 := (HB.out.cell (World.block_lt_of_cell? w _ hx924_2)).trans hx924_2; replace p924 := eq_true p924; replace q924 := eq_true q924; go_upto_region 12 with (first | ((with_reducible refine gate_dst (N := 8) rfl ?_); (try (refine gate_guard (by rfl) ?_; dsimp only)); refine box_event ?hg (N := 8) ?hd (cs := #[.int .i64 0, .int .i64 0, .int .i64 0]) (t := 39) ?hr ?_; (case hd => rfl); (case hg => rfl); (case hr => first | (go_simp; done) | (go_simp; rfl)); intro gb925 hg w23 hbox hb; have n0_ := Z_ (bB_ (g := gb921) (o := .cells #[.int .i64 a0_0, .slice (some ad924) l0_1.length c0_1] 24 (0, 0)) (by (with_reducible repeat (first | refine bN_ ?_ _ | refine bD_ ?_ | refine bA_ ?_ _)); exact BK921.out) hb); have n1_ := Z_ (fS_ (by repeat (first | (with_reducible first | exact HB.out | apply fA_ | apply pB_ | apply fD_ | refine fE_ ?_ GE921.out) | exact HB.out)) hb); have n2_ := Z_ (hbox); have n3_ := Z_ ((by rw [hg]; exact (fZ_ (by repeat (first | (with_reducible first | exact HB.out | apply fA_ | apply pB_ | apply fD_ | refine fE_ ?_ GE921.out) | exact HB.out))) : w.heap.size ≤ gb925)); have n4_ := Z_ ((by rw [hg]; exact (fZ_ (by repeat (first | (with_reducible first | exact HB.out | apply fA_ | apply pB_ | apply fD_ | refine fE_ ?_ GE921.out) | exact HB.out))) : w.heap.size ≤ gb925)); have n5_ := Z_ ((by rw [hg]; exact Nat.ne_of_lt (blk_lt (g := gb921) (o := .cells #[.int .i64 a0_0, .slice (some ad924) l0_1.length c0_1] 24 (0, 0)) (by (with_reducible repeat (first | refine bN_ ?_ _ | refine bD_ ?_ | refine bA_ ?_ _)); exact BK921.out)) : gb921 ≠ gb925)); have n6_ := Z_ ((by rw [hg]; exact Nat.ne_of_gt (blk_lt (g := gb921) (o := .cells #[.int .i64 a0_0, .slice (some ad924) l0_1.length c0_1] 24 (0, 0)) (by (with_reducible repeat (first | refine bN_ ?_ _ | refine bD_ ?_ | refine bA_ ?_ _)); exact BK921.out)) : gb925 ≠ gb921)); clear BK921; clear HB; have BK921 := n0_; have HB := n1_; have BK925 := n2_; have GW925 := n3_; have GE925 := n4_; have NB921_925 := n5_; have NB925_921 := n6_; clear n0_ n1_ n2_ n3_ n4_ n5_ n6_; clear hb hbox hg; have hnb24 := NB925_921.out; have hnc24 := NB921_925.out; have hcz25_0 : w23.cell? ⟨gb925, 0, none⟩ = some (.int .i64 0) := (bC_ BK925.out 0).trans rfl; have hcz25_1 : w23.cell? ⟨gb925, 1, none⟩ = some (.int .i64 0) := (bC_ BK925.out 1).trans rfl; have hcz25_2 : w23.cell? ⟨gb925, 2, none⟩ = some (.int .i64 0) := (bC_ BK925.out 2).trans rfl; have hfz25_0 := bF_ BK925.out 0; have hfz25_1 := bF_ BK925.out 1; have hfz25_2 := bF_ BK925.out 2)); repeat (go_quiet (first | ((with_reducible refine gate_dst (N := 8) rfl ?_); (try (refine gate_guard (by rfl) ?_; dsimp only)); refine box_event ?hg (N := 8) ?hd (cs := #[.int .i64 0, .int .i64 0, .int .i64 0]) (t := 39) ?hr ?_; (case hd => rfl); (case hg => rfl); (case hr => first | (go_simp; done) | (go_simp; rfl)); intro gb925 hg w23 hbox hb; have n0_ := Z_ (bB_ (g := gb921) (o := .cells #[.int .i64 a0_0, .slice (some ad924) l0_1.length c0_1] 24 (0, 0)) (by (with_reducible repeat (first | refine bN_ ?_ _ | refine bD_ ?_ | refine bA_ ?_ _)); exact BK921.out) hb); have n1_ := Z_ (fS_ (by repeat (first | (with_reducible first | exact HB.out | apply fA_ | apply pB_ | apply fD_ | refine fE_ ?_ GE921.out) | exact HB.out)) hb); have n2_ := Z_ (hbox); have n3_ := Z_ ((by rw [hg]; exact (fZ_ (by repeat (first | (with_reducible first | exact HB.out | apply fA_ | apply pB_ | apply fD_ | refine fE_ ?_ GE921.out) | exact HB.out))) : w.heap.size ≤ gb925)); have n4_ := Z_ ((by rw [hg]; exact (fZ_ (by repeat (first | (with_reducible first | exact HB.out | apply fA_ | apply pB_ | apply fD_ | refine fE_ ?_ GE921.out) | exact HB.out))) : w.heap.size ≤ gb925)); have n5_ := Z_ ((by rw [hg]; exact Nat.ne_of_lt (blk_lt (g := gb921) (o := .cells #[.int .i64 a0_0, .slice (some ad924) l0_1.length c0_1] 24 (0, 0)) (by (with_reducible repeat (first | refine bN_ ?_ _ | refine bD_ ?_ | refine bA_ ?_ _)); exact BK921.out)) : gb921 ≠ gb925)); have n6_ := Z_ ((by rw [hg]; exact Nat.ne_of_gt (blk_lt (g := gb921) (o := .cells #[.int .i64 a0_0, .slice (some ad924) l0_1.length c0_1] 24 (0, 0)) (by (with_reducible repeat (first | refine bN_ ?_ _ | refine bD_ ?_ | refine bA_ ?_ _)); exact BK921.out)) : gb925 ≠ gb921)); clear BK921; clear HB; have BK921 := n0_; have HB := n1_; have BK925 := n2_; have GW925 := n3_; have GE925 := n4_; have NB921_925 := n5_; have NB925_921 := n6_; clear n0_ n1_ n2_ n3_ n4_ n5_ n6_; clear hb hbox hg; have hnb24 := NB925_921.out; have hnc24 := NB921_925.out; have hcz25_0 : w23.cell? ⟨gb925, 0, none⟩ = some (.int .i64 0) := (bC_ BK925.out 0).trans rfl; have hcz25_1 : w23.cell? ⟨gb925, 1, none⟩ = some (.int .i64 0) := (bC_ BK925.out 1).trans rfl; have hcz25_2 : w23.cell? ⟨gb925, 2, none⟩ = some (.int .i64 0) := (bC_ BK925.out 2).trans rfl; have hfz25_0 := bF_ BK925.out 0; have hfz25_1 := bF_ BK925.out 1; have hfz25_2 := bF_ BK925.out 2)); go_upto_region 12 with (first | ((with_reducible refine gate_dst (N := 8) rfl ?_); (try (refine gate_guard (by rfl) ?_; dsimp only)); refine box_event ?hg (N := 8) ?hd (cs := #[.int .i64 0, .int .i64 0, .int .i64 0]) (t := 39) ?hr ?_; (case hd => rfl); (case hg => rfl); (case hr => first | (go_simp; done) | (go_simp; rfl)); intro gb925 hg w23 hbox hb; have n0_ := Z_ (bB_ (g := gb921) (o := .cells #[.int .i64 a0_0, .slice (some ad924) l0_1.length c0_1] 24 (0, 0)) (by (with_reducible repeat (first | refine bN_ ?_ _ | refine bD_ ?_ | refine bA_ ?_ _)); exact BK921.out) hb); have n1_ := Z_ (fS_ (by repeat (first | (with_reducible first | exact HB.out | apply fA_ | apply pB_ | apply fD_ | refine fE_ ?_ GE921.out) | exact HB.out)) hb); have n2_ := Z_ (hbox); have n3_ := Z_ ((by rw [hg]; exact (fZ_ (by repeat (first | (with_reducible first | exact HB.out | apply fA_ | apply pB_ | apply fD_ | refine fE_ ?_ GE921.out) | exact HB.out))) : w.heap.size ≤ gb925)); have n4_ := Z_ ((by rw [hg]; exact (fZ_ (by repeat (first | (with_reducible first | exact HB.out | apply fA_ | apply pB_ | apply fD_ | refine fE_ ?_ GE921.out) | exact HB.out))) : w.heap.size ≤ gb925)); have n5_ := Z_ ((by rw [hg]; exact Nat.ne_of_lt (blk_lt (g := gb921) (o := .cells #[.int .i64 a0_0, .slice (some ad924) l0_1.length c0_1] 24 (0, 0)) (by (with_reducible repeat (first | refine bN_ ?_ _ | refine bD_ ?_ | refine bA_ ?_ _)); exact BK921.out)) : gb921 ≠ gb925)); have n6_ := Z_ ((by rw [hg]; exact Nat.ne_of_gt (blk_lt (g := gb921) (o := .cells #[.int .i64 a0_0, .slice (some ad924) l0_1.length c0_1] 24 (0, 0)) (by (with_reducible repeat (first | refine bN_ ?_ _ | refine bD_ ?_ | refine bA_ ?_ _)); exact BK921.out)) : gb925 ≠ gb921)); clear BK921; clear HB; have BK921 := n0_; have HB := n1_; have BK925 := n2_; have GW925 := n3_; have GE925 := n4_; have NB921_925 := n5_; have NB925_921 := n6_; clear n0_ n1_ n2_ n3_ n4_ n5_ n6_; clear hb hbox hg; have hnb24 := NB925_921.out; have hnc24 := NB921_925.out; have hcz25_0 : w23.cell? ⟨gb925, 0, none⟩ = some (.int .i64 0) := (bC_ BK925.out 0).trans rfl; have hcz25_1 : w23.cell? ⟨gb925, 1, none⟩ = some (.int .i64 0) := (bC_ BK925.out 1).trans rfl; have hcz25_2 : w23.cell? ⟨gb925, 2, none⟩ = some (.int .i64 0) := (bC_ BK925.out 2).trans rfl; have hfz25_0 := bF_ BK925.out 0; have hfz25_1 := bF_ BK925.out 1; have hfz25_2 := bF_ BK925.out 2)))
                    (try simp only [Act.put, sT_, sZ_, sS_])
                    go_cut [82] (fun v82 wc => ∃ (kq : Nat) (x82_21 : Bool), v82 = .bool x82_21 ∧ Aside0 (snowlinelaw04_fulfils.j4 kq l1 l0_1 (l0_1.length : Int) x41_3 x82_21 = some r) ∧ Aside0 (kq ≤ k3) ∧ Aside0 (wc.heap[gb921]? = some (.cells #[.int .i64 a0_0, (.slice (some ad924) l0_1.length c0_1)] 24 (0, 0))) ∧ Aside0 (wc.heap[gb925]? = some (.cells #[.int .i64 ((rd_T39 l0_1 x41_3).f0), .int .i64 ((rd_T39 l0_1 x41_3).f1), .int .i64 ((rd_T39 l0_1 x41_3).f2)] 39 (0, 0))) ∧ Aside0 (Below w.heap.size w wc))
                    case first =>
                      have H := HC22.out; clear HC22; by_cases c26 : ((rd_T39 l0_1 x41_3).f0) < 0
                      · rw [if_pos c26] at H
                        have c26b0 : decide (((rd_T39 l0_1 x41_3).f0) < 0) = true := eT_ c26; clear c26; (first | rw [c26b0] | (simp only [i64_w, i32_w]; rw [c26b0]) | skip)
                        have H' := Z_ H; clear H; have hnb27 := NB925_921.out; have hnc27 := NB921_925.out; have hcz28_0 : w23.cell? ⟨gb925, 0, none⟩ = some (.int .i64 0) := (bC_ BK925.out 0).trans rfl; have hcz28_1 : w23.cell? ⟨gb925, 1, none⟩ = some (.int .i64 0) := (bC_ BK925.out 1).trans rfl; have hcz28_2 : w23.cell? ⟨gb925, 2, none⟩ = some (.int .i64 0) := (bC_ BK925.out 2).trans rfl; have hfz28_0 := bF_ BK925.out 0; have hfz28_1 := bF_ BK925.out 1; have hfz28_2 := bF_ BK925.out 2; go_wp2; repeat (go_quiet (fail); try go_wp2)
                        go_meet
                        case rel => exact ⟨_, (true), (by first | rfl | (simp; done) | (simp [*]; done)), H', ⟨by have := HJ2.out; have := HK2.out; have := HK3.out; first | omega | exact nR_ _⟩, ⟨by (with_reducible repeat (first | refine bN_ ?_ _ | refine bD_ ?_ | refine bA_ ?_ _)); refine blk_far ?_ NB921_925.out _; (with_reducible repeat (first | refine bN_ ?_ _ | refine bD_ ?_ | refine bA_ ?_ _)); refine blk_far ?_ NB921_925.out _; (with_reducible repeat (first | refine bN_ ?_ _ | refine bD_ ?_ | refine bA_ ?_ _)); refine blk_far ?_ NB921_925.out _; (with_reducible repeat (first | refine bN_ ?_ _ | refine bD_ ?_ | refine bA_ ?_ _)); exact BK921.out⟩, ⟨by (with_reducible repeat (first | refine bN_ ?_ _ | refine bD_ ?_ | refine bA_ ?_ _)); refine blk_put (cs := #[.int .i64 ((rd_T39 l0_1 x41_3).f0), .int .i64 ((rd_T39 l0_1 x41_3).f1), .int .i64 0]) ?_ 2 _ rfl; (with_reducible repeat (first | refine bN_ ?_ _ | refine bD_ ?_ | refine bA_ ?_ _)); refine blk_put (cs := #[.int .i64 ((rd_T39 l0_1 x41_3).f0), .int .i64 0, .int .i64 0]) ?_ 1 _ rfl; (with_reducible repeat (first | refine bN_ ?_ _ | refine bD_ ?_ | refine bA_ ?_ _)); refine blk_put (cs := #[.int .i64 0, .int .i64 0, .int .i64 0]) ?_ 0 _ rfl; (with_reducible repeat (first | refine bN_ ?_ _ | refine bD_ ?_ | refine bA_ ?_ _)); exact BK925.out⟩, ⟨by repeat (first | (with_reducible first | exact HB.out | apply fA_ | apply pB_ | apply fD_ | refine fE_ ?_ GE921.out | refine fE_ ?_ GE925.out) | exact HB.out)⟩⟩
                      rw [if_neg c26] at H; have c26b0 : decide (((rd_T39 l0_1 x41_3).f0) < 0) = false := eF_ c26; clear c26; (first | rw [c26b0] | (simp only [i64_w, i32_w]; rw [c26b0]) | skip)
                      by_cases c29 : ((rd_T39 l0_1 x41_3).f0) ≥ (l1.length : Int)
                      · rw [if_pos c29] at H
                        have c29b0 : decide ((l1.length : Int) ≤ ((rd_T39 l0_1 x41_3).f0)) = true := eT_ c29; clear c29; have H' := Z_ H; clear H; have hnb30 := NB925_921.out; have hnc30 := NB921_925.out; have hcz31_0 : w23.cell? ⟨gb925, 0, none⟩ = some (.int .i64 0) := (bC_ BK925.out 0).trans rfl; have hcz31_1 : w23.cell? ⟨gb925, 1, none⟩ = some (.int .i64 0) := (bC_ BK925.out 1).trans rfl; have hcz31_2 : w23.cell? ⟨gb925, 2, none⟩ = some (.int .i64 0) := (bC_ BK925.out 2).trans rfl; have hfz31_0 := bF_ BK925.out 0; have hfz31_1 := bF_ BK925.out 1; have hfz31_2 := bF_ BK925.out 2; go_wp2; repeat (go_quiet (fail); try go_wp2)
                        go_meet
                        case rel => exact ⟨_, (true), (by first | rfl | (simp; done) | (simp [*]; done)), H', ⟨by have := HJ2.out; have := HK2.out; have := HK3.out; first | omega | exact nR_ _⟩, ⟨by (with_reducible repeat (first | refine bN_ ?_ _ | refine bD_ ?_ | refine bA_ ?_ _)); refine blk_far ?_ NB921_925.out _; (with_reducible repeat (first | refine bN_ ?_ _ | refine bD_ ?_ | refine bA_ ?_ _)); refine blk_far ?_ NB921_925.out _; (with_reducible repeat (first | refine bN_ ?_ _ | refine bD_ ?_ | refine bA_ ?_ _)); refine blk_far ?_ NB921_925.out _; (with_reducible repeat (first | refine bN_ ?_ _ | refine bD_ ?_ | refine bA_ ?_ _)); exact BK921.out⟩, ⟨by (with_reducible repeat (first | refine bN_ ?_ _ | refine bD_ ?_ | refine bA_ ?_ _)); refine blk_put (cs := #[.int .i64 ((rd_T39 l0_1 x41_3).f0), .int .i64 ((rd_T39 l0_1 x41_3).f1), .int .i64 0]) ?_ 2 _ rfl; (with_reducible repeat (first | refine bN_ ?_ _ | refine bD_ ?_ | refine bA_ ?_ _)); refine blk_put (cs := #[.int .i64 ((rd_T39 l0_1 x41_3).f0), .int .i64 0, .int .i64 0]) ?_ 1 _ rfl; (with_reducible repeat (first | refine bN_ ?_ _ | refine bD_ ?_ | refine bA_ ?_ _)); refine blk_put (cs := #[.int .i64 0, .int .i64 0, .int .i64 0]) ?_ 0 _ rfl; (with_reducible repeat (first | refine bN_ ?_ _ | refine bD_ ?_ | refine bA_ ?_ _)); exact BK925.out⟩, ⟨by repeat (first | (with_reducible first | exact HB.out | apply fA_ | apply pB_ | apply fD_ | refine fE_ ?_ GE921.out | refine fE_ ?_ GE925.out) | exact HB.out)⟩⟩
                      rw [if_neg c29] at H; have c29b0 : decide ((l1.length : Int) ≤ ((rd_T39 l0_1 x41_3).f0)) = false := eF_ c29; clear c29; by_cases c32 : ((rd_T39 l0_1 x41_3).f1) < 0
                      · rw [if_pos c32] at H
                        have c32b0 : decide (((rd_T39 l0_1 x41_3).f1) < 0) = true := eT_ c32; clear c32; have H' := Z_ H; clear H; have hnb33 := NB925_921.out; have hnc33 := NB921_925.out; have hcz34_0 : w23.cell? ⟨gb925, 0, none⟩ = some (.int .i64 0) := (bC_ BK925.out 0).trans rfl; have hcz34_1 : w23.cell? ⟨gb925, 1, none⟩ = some (.int .i64 0) := (bC_ BK925.out 1).trans rfl; have hcz34_2 : w23.cell? ⟨gb925, 2, none⟩ = some (.int .i64 0) := (bC_ BK925.out 2).trans rfl; have hfz34_0 := bF_ BK925.out 0; have hfz34_1 := bF_ BK925.out 1; have hfz34_2 := bF_ BK925.out 2; go_wp2; repeat (go_quiet (fail); try go_wp2)
                        go_meet
                        case rel => exact ⟨_, (true), (by first | rfl | (simp; done) | (simp [*]; done)), H', ⟨by have := HJ2.out; have := HK2.out; have := HK3.out; first | omega | exact nR_ _⟩, ⟨by (with_reducible repeat (first | refine bN_ ?_ _ | refine bD_ ?_ | refine bA_ ?_ _)); refine blk_far ?_ NB921_925.out _; (with_reducible repeat (first | refine bN_ ?_ _ | refine bD_ ?_ | refine bA_ ?_ _)); refine blk_far ?_ NB921_925.out _; (with_reducible repeat (first | refine bN_ ?_ _ | refine bD_ ?_ | refine bA_ ?_ _)); refine blk_far ?_ NB921_925.out _; (with_reducible repeat (first | refine bN_ ?_ _ | refine bD_ ?_ | refine bA_ ?_ _)); exact BK921.out⟩, ⟨by (with_reducible repeat (first | refine bN_ ?_ _ | refine bD_ ?_ | refine bA_ ?_ _)); refine blk_put (cs := #[.int .i64 ((rd_T39 l0_1 x41_3).f0), .int .i64 ((rd_T39 l0_1 x41_3).f1), .int .i64 0]) ?_ 2 _ rfl; (with_reducible repeat (first | refine bN_ ?_ _ | refine bD_ ?_ | refine bA_ ?_ _)); refine blk_put (cs := #[.int .i64 ((rd_T39 l0_1 x41_3).f0), .int .i64 0, .int .i64 0]) ?_ 1 _ rfl; (with_reducible repeat (first | refine bN_ ?_ _ | refine bD_ ?_ | refine bA_ ?_ _)); refine blk_put (cs := #[.int .i64 0, .int .i64 0, .int .i64 0]) ?_ 0 _ rfl; (with_reducible repeat (first | refine bN_ ?_ _ | refine bD_ ?_ | refine bA_ ?_ _)); exact BK925.out⟩, ⟨by repeat (first | (with_reducible first | exact HB.out | apply fA_ | apply pB_ | apply fD_ | refine fE_ ?_ GE921.out | refine fE_ ?_ GE925.out) | exact HB.out)⟩⟩
                      rw [if_neg c32] at H; have c32b0 : decide (((rd_T39 l0_1 x41_3).f1) < 0) = false := eF_ c32; clear c32; by_cases c35 : ((rd_T39 l0_1 x41_3).f1) ≥ (l1.length : Int)
                      · rw [if_pos c35] at H
                        have c35b0 : decide ((l1.length : Int) ≤ ((rd_T39 l0_1 x41_3).f1)) = true := eT_ c35; clear c35; have H' := Z_ H; clear H; have hnb36 := NB925_921.out; have hnc36 := NB921_925.out; have hcz37_0 : w23.cell? ⟨gb925, 0, none⟩ = some (.int .i64 0) := (bC_ BK925.out 0).trans rfl; have hcz37_1 : w23.cell? ⟨gb925, 1, none⟩ = some (.int .i64 0) := (bC_ BK925.out 1).trans rfl; have hcz37_2 : w23.cell? ⟨gb925, 2, none⟩ = some (.int .i64 0) := (bC_ BK925.out 2).trans rfl; have hfz37_0 := bF_ BK925.out 0; have hfz37_1 := bF_ BK925.out 1; have hfz37_2 := bF_ BK925.out 2; go_wp2; repeat (go_quiet (fail); try go_wp2)
                        go_meet
                        case rel => exact ⟨_, (true), (by first | rfl | (simp; done) | (simp [*]; done)), H', ⟨by have := HJ2.out; have := HK2.out; have := HK3.out; first | omega | exact nR_ _⟩, ⟨by (with_reducible repeat (first | refine bN_ ?_ _ | refine bD_ ?_ | refine bA_ ?_ _)); refine blk_far ?_ NB921_925.out _; (with_reducible repeat (first | refine bN_ ?_ _ | refine bD_ ?_ | refine bA_ ?_ _)); refine blk_far ?_ NB921_925.out _; (with_reducible repeat (first | refine bN_ ?_ _ | refine bD_ ?_ | refine bA_ ?_ _)); refine blk_far ?_ NB921_925.out _; (with_reducible repeat (first | refine bN_ ?_ _ | refine bD_ ?_ | refine bA_ ?_ _)); exact BK921.out⟩, ⟨by (with_reducible repeat (first | refine bN_ ?_ _ | refine bD_ ?_ | refine bA_ ?_ _)); refine blk_put (cs := #[.int .i64 ((rd_T39 l0_1 x41_3).f0), .int .i64 ((rd_T39 l0_1 x41_3).f1), .int .i64 0]) ?_ 2 _ rfl; (with_reducible repeat (first | refine bN_ ?_ _ | refine bD_ ?_ | refine bA_ ?_ _)); refine blk_put (cs := #[.int .i64 ((rd_T39 l0_1 x41_3).f0), .int .i64 0, .int .i64 0]) ?_ 1 _ rfl; (with_reducible repeat (first | refine bN_ ?_ _ | refine bD_ ?_ | refine bA_ ?_ _)); refine blk_put (cs := #[.int .i64 0, .int .i64 0, .int .i64 0]) ?_ 0 _ rfl; (with_reducible repeat (first | refine bN_ ?_ _ | refine bD_ ?_ | refine bA_ ?_ _)); exact BK925.out⟩, ⟨by repeat (first | (with_reducible first | exact HB.out | apply fA_ | apply pB_ | apply fD_ | refine fE_ ?_ GE921.out | refine fE_ ?_ GE925.out) | exact HB.out)⟩⟩
                      rw [if_neg c35] at H; have c35b0 : decide ((l1.length : Int) ≤ ((rd_T39 l0_1 x41_3).f1)) = false := eF_ c35; clear c35; by_cases c38 : 0 ≤ ((rd_T39 l0_1 x41_3).f1)
                      · rw [if_pos c38] at H
                        have c38b0 : decide (0 ≤ ((rd_T39 l0_1 x41_3).f1)) = true := eT_ c38; clear c38; by_cases c39 : ((rd_T39 l0_1 x41_3).f1) < (l1.length : Int)
                        · rw [if_pos c39] at H
                          have c39b0 : decide (((rd_T39 l0_1 x41_3).f1) < (l1.length : Int)) = true := eT_ c39; clear c39; by_cases c40 : 0 ≤ ((rd_T39 l0_1 x41_3).f0)
                          · rw [if_pos c40] at H
                            have c40b0 : decide (0 ≤ ((rd_T39 l0_1 x41_3).f0)) = true := eT_ c40; clear c40; by_cases c41 : ((rd_T39 l0_1 x41_3).f0) < (l1.length : Int)
                            · rw [if_pos c41] at H
                              have c41b0 : decide (((rd_T39 l0_1 x41_3).f0) < (l1.length : Int)) = true := eT_ c41; clear c41; have H' := Z_ H; clear H; have hnb42 := NB925_921.out; have hnc42 := NB921_925.out; have hcz43_0 : w23.cell? ⟨gb925, 0, none⟩ = some (.int .i64 0) := (bC_ BK925.out 0).trans rfl; have hcz43_1 : w23.cell? ⟨gb925, 1, none⟩ = some (.int .i64 0) := (bC_ BK925.out 1).trans rfl; have hcz43_2 : w23.cell? ⟨gb925, 2, none⟩ = some (.int .i64 0) := (bC_ BK925.out 2).trans rfl; have hfz43_0 := bF_ BK925.out 0; have hfz43_1 := bF_ BK925.out 1; have hfz43_2 := bF_ BK925.out 2; have p926 : 0 ≤ (((rd_T39 l0_1 x41_3).f1) : Int) := dT_ (by first | (with_reducible assumption) | assumption); have q926 : ((rd_T39 l0_1 x41_3).f1) < (l1.length : Int) := dT_ (by first | (with_reducible assumption) | assumption); obtain ⟨ad926, e926, hx926_0⟩ := Kd.at_int HR1.out ((rd_T39 l0_1 x41_3).f1) p926 q926; cases e926
                              have hn926_0 : ad926.block ≠ gb925 := Nat.ne_of_lt (Nat.lt_of_lt_of_le (by have := World.block_lt_of_cell? _ _ hx926_0; first | rwa [add_block] at this | exact this) GW925.out); have hn926_1 : ad926.block ≠ gb925 := Nat.ne_of_lt (Nat.lt_of_lt_of_le (by have := World.block_lt_of_cell? _ _ hx926_0; first | rwa [add_block] at this | exact this) GW925.out); have hn926_2 : ad926.block ≠ gb925 := Nat.ne_of_lt (Nat.lt_of_lt_of_le (by have := World.block_lt_of_cell? _ _ hx926_0; first | rwa [add_block] at this | exact this) GW925.out); replace hx926_0 := (HB.out.cell (World.block_lt_of_cell? w _ hx926_0)).trans hx926_0; replace hx926_0 := (cell_far (p := ⟨gb925, 0, none⟩) (by first | (rw [add_block]; exact hn926_0) | (show (Addr.add _ _).block ≠ _; rw [add_block]; exact hn926_0) | exact hn926_0) (.int .i64 ((rd_T39 l0_1 x41_3).f0))).trans hx926_0; replace hx926_0 := (cell_far (p := ⟨gb925, 1, none⟩) (by first | (rw [add_block]; exact hn926_1) | (show (Addr.add _ _).block ≠ _; rw [add_block]; exact hn926_1) | exact hn926_1) (.int .i64 ((rd_T39 l0_1 x41_3).f1))).trans hx926_0; replace hx926_0 := (cell_far (p := ⟨gb925, 2, none⟩) (by first | (rw [add_block]; exact hn926_2) | (show (Addr.add _ _).block ≠ _; rw [add_block]; exact hn926_2) | exact hn926_2) (.int .i64 ((rd_T39 l0_1 x41_3).f2))).trans hx926_0; (try have hy926_0 := fun (n_ : Nat) => (show (((((w23.drewN n_).setCell ⟨gb925, 0, none⟩ (.int .i64 ((rd_T39 l0_1 x41_3).f0))).setCell ⟨gb925, 1, none⟩ (.int .i64 ((rd_T39 l0_1 x41_3).f1))).setCell ⟨gb925, 2, none⟩ (.int .i64 ((rd_T39 l0_1 x41_3).f2)))).cell? _ = some _ from hx926_0))
                              clear hn926_0; clear hn926_1; clear hn926_2; replace p926 := eq_true p926; replace q926 := eq_true q926; have p927 : 0 ≤ (((rd_T39 l0_1 x41_3).f0) : Int) := dT_ (by first | (with_reducible assumption) | assumption); have q927 : ((rd_T39 l0_1 x41_3).f0) < (l1.length : Int) := dT_ (by first | (with_reducible assumption) | assumption); obtain ⟨ad927, e927, hx927_0⟩ := Kd.at_int HR1.out ((rd_T39 l0_1 x41_3).f0) p927 q927; obtain rfl : ad926 = ad927 := (by injection e927); have hn927_0 : ad926.block ≠ gb925 := Nat.ne_of_lt (Nat.lt_of_lt_of_le (by have := World.block_lt_of_cell? _ _ hx927_0; first | rwa [add_block] at this | exact this) GW925.out); have hn927_1 : ad926.block ≠ gb925 := Nat.ne_of_lt (Nat.lt_of_lt_of_le (by have := World.block_lt_of_cell? _ _ hx927_0; first | rwa [add_block] at this | exact this) GW925.out); have hn927_2 : ad926.block ≠ gb925 := Nat.ne_of_lt (Nat.lt_of_lt_of_le (by have := World.block_lt_of_cell? _ _ hx927_0; first | rwa [add_block] at this | exact this) GW925.out); replace hx927_0 := (HB.out.cell (World.block_lt_of_cell? w _ hx927_0)).trans hx927_0; replace hx927_0 := (cell_far (p := ⟨gb925, 0, none⟩) (by first | (rw [add_block]; exact hn927_0) | (show (Addr.add _ _).block ≠ _; rw [add_block]; exact hn927_0) | exact hn927_0) (.int .i64 ((rd_T39 l0_1 x41_3).f0))).trans hx927_0; replace hx927_0 := (cell_far (p := ⟨gb925, 1, none⟩) (by first | (rw [add_block]; exact hn927_1) | (show (Addr.add _ _).block ≠ _; rw [add_block]; exact hn927_1) | exact hn927_1) (.int .i64 ((rd_T39 l0_1 x41_3).f1))).trans hx927_0; replace hx927_0 := (cell_far (p := ⟨gb925, 2, none⟩) (by first | (rw [add_block]; exact hn927_2) | (show (Addr.add _ _).block ≠ _; rw [add_block]; exact hn927_2) | exact hn927_2) (.int .i64 ((rd_T39 l0_1 x41_3).f2))).trans hx927_0; (try have hy927_0 := fun (n_ : Nat) => (show (((((w23.drewN n_).setCell ⟨gb925, 0, none⟩ (.int .i64 ((rd_T39 l0_1 x41_3).f0))).setCell ⟨gb925, 1, none⟩ (.int .i64 ((rd_T39 l0_1 x41_3).f1))).setCell ⟨gb925, 2, none⟩ (.int .i64 ((rd_T39 l0_1 x41_3).f2)))).cell? _ = some _ from hx927_0))
                              clear hn927_0; clear hn927_1; clear hn927_2; replace p927 := eq_true p927; replace q927 := eq_true q927; go_wp2; repeat (go_quiet (fail); try go_wp2)
                              go_meet
                              case rel => exact ⟨_, (decide ((wrap64 ((rd l1 ((rd_T39 l0_1 x41_3).f1)) - (rd l1 ((rd_T39 l0_1 x41_3).f0)))) > ((rd_T39 l0_1 x41_3).f2))), (by first | rfl | (simp; done) | (simp [*]; done)), H', ⟨by have := HJ2.out; have := HK2.out; have := HK3.out; first | omega | exact nR_ _⟩, ⟨by (with_reducible repeat (first | refine bN_ ?_ _ | refine bD_ ?_ | refine bA_ ?_ _)); refine blk_far ?_ NB921_925.out _; (with_reducible repeat (first | refine bN_ ?_ _ | refine bD_ ?_ | refine bA_ ?_ _)); refine blk_far ?_ NB921_925.out _; (with_reducible repeat (first | refine bN_ ?_ _ | refine bD_ ?_ | refine bA_ ?_ _)); refine blk_far ?_ NB921_925.out _; (with_reducible repeat (first | refine bN_ ?_ _ | refine bD_ ?_ | refine bA_ ?_ _)); exact BK921.out⟩, ⟨by (with_reducible repeat (first | refine bN_ ?_ _ | refine bD_ ?_ | refine bA_ ?_ _)); refine blk_put (cs := #[.int .i64 ((rd_T39 l0_1 x41_3).f0), .int .i64 ((rd_T39 l0_1 x41_3).f1), .int .i64 0]) ?_ 2 _ rfl; (with_reducible repeat (first | refine bN_ ?_ _ | refine bD_ ?_ | refine bA_ ?_ _)); refine blk_put (cs := #[.int .i64 ((rd_T39 l0_1 x41_3).f0), .int .i64 0, .int .i64 0]) ?_ 1 _ rfl; (with_reducible repeat (first | refine bN_ ?_ _ | refine bD_ ?_ | refine bA_ ?_ _)); refine blk_put (cs := #[.int .i64 0, .int .i64 0, .int .i64 0]) ?_ 0 _ rfl; (with_reducible repeat (first | refine bN_ ?_ _ | refine bD_ ?_ | refine bA_ ?_ _)); exact BK925.out⟩, ⟨by repeat (first | (with_reducible first | exact HB.out | apply fA_ | apply pB_ | apply fD_ | refine fE_ ?_ GE921.out | refine fE_ ?_ GE925.out) | exact HB.out)⟩⟩
                            rw [if_neg c41] at H; exact absurd H (by simp)
                          rw [if_neg c40] at H; exact absurd H (by simp)
                        rw [if_neg c39] at H; exact absurd H (by simp)
                      rw [if_neg c38] at H; exact absurd H (by simp)
                    case rest =>
                      clear HC22; try clear c1
                      try clear c2
                      try clear p2
                      try clear c3
                      try clear c4
                      try clear c5
                      try clear c5b0
                      try clear c5b1
                      try clear c6
                      try clear c6b0
                      try clear c6b1
                      try clear c6b2
                      try clear p6
                      try clear c8
                      try clear c8b0
                      try clear c8b1
                      try clear p9
                      try clear q9
                      try clear hx9
                      try clear qi9
                      try clear c11
                      try clear c12
                      try clear c12b0
                      try clear c13
                      try clear c13b0
                      try clear c14
                      try clear c14b0
                      try clear c16
                      try clear c16b0
                      try clear c17
                      try clear c19
                      try clear c19b0
                      try clear c20
                      try clear c20b0
                      try clear c21
                      try clear c21b0
                      try clear c24
                      try clear c26
                      try clear c26b0
                      try clear c27
                      try clear c29
                      try clear c29b0
                      try clear c30
                      try clear c32
                      try clear c32b0
                      try clear c33
                      try clear c35
                      try clear c35b0
                      try clear c36
                      try clear c38
                      try clear c38b0
                      try clear c39
                      try clear c39b0
                      try clear c40
                      try clear c40b0
                      try clear c41
                      try clear c41b0
                      try clear c42
                      try clear hcz10_0
                      try clear hcz10_1
                      try clear hcz18_0
                      try clear hcz18_1
                      try clear hcz25_0
                      try clear hcz25_1
                      try clear hcz25_2
                      try clear hcz28_0
                      try clear hcz28_1
                      try clear hcz28_2
                      try clear hcz31_0
                      try clear hcz31_1
                      try clear hcz31_2
                      try clear hcz34_0
                      try clear hcz34_1
                      try clear hcz34_2
                      try clear hcz37_0
                      try clear hcz37_1
                      try clear hcz37_2
                      try clear hcz43_0
                      try clear hcz43_1
                      try clear hcz43_2
                      try clear hcz7_0
                      try clear hcz7_1
                      try clear hcz9_0
                      try clear hcz9_1
                      try clear hfz10_0
                      try clear hfz10_1
                      try clear hfz18_0
                      try clear hfz18_1
                      try clear hfz25_0
                      try clear hfz25_1
                      try clear hfz25_2
                      try clear hfz28_0
                      try clear hfz28_1
                      try clear hfz28_2
                      try clear hfz31_0
                      try clear hfz31_1
                      try clear hfz31_2
                      try clear hfz34_0
                      try clear hfz34_1
                      try clear hfz34_2
                      try clear hfz37_0
                      try clear hfz37_1
                      try clear hfz37_2
                      try clear hfz43_0
                      try clear hfz43_1
                      try clear hfz43_2
                      try clear hfz7_0
                      try clear hfz7_1
                      try clear hfz9_0
                      try clear hfz9_1
                      try clear hx922_0
                      try clear hx923_0
                      try clear hx924_0
                      try clear hx924_1
                      try clear hx924_2
                      try clear hx926_0
                      try clear hx927_0
                      try clear p2
                      try clear p6
                      try clear p9
                      try clear p922
                      try clear p923
                      try clear p924
                      try clear p926
                      try clear p927
                      try clear q9
                      try clear q922
                      try clear q923
                      try clear q924
                      try clear q926
                      try clear q927
                      obtain ⟨kq, x82_21, rfl, HA, HJ21, BK921, BK925, HB⟩ := hcut
                      cases kq with
                      | zero => exact absurd HA.out (by simp [snowlinelaw04_fulfils.j4])
                      | succ kj21 =>
                        have H := HA.out; clear HA; simp only [snowlinelaw04_fulfils.j4] at H; by_cases c44 : x82_21 = true
                        · subst c44
                          have H1 : (some false) = some r := by rw [if_pos rfl] at H; exact H
                          clear H; have H := H1; clear H1; obtain rfl := oI_ H; go_wp2; repeat (go_quiet (fail); try go_wp2)
                          go_ret; exact ⟨by first | rfl | (simp [errW_none, errW_some] <;> rfl) | (simp [*, errW_none, errW_some] <;> rfl), by repeat (first | (with_reducible first | exact HB.out | apply fA_ | apply pB_ | apply fD_ | refine fE_ ?_ GE921.out | refine fE_ ?_ GE925.out) | exact HB.out)⟩
                        replace c44 := bE_.mpr c44; subst c44; have H1 : (snowlinelaw04_fulfils.l1 kj21 l1 l0_1 (l0_1.length : Int) (wrap64 (x41_3 + 1))) = some r := by rw [if_neg (show ¬ (false = true) by decide)] at H; exact H
                        clear H; have H := H1; clear H1; have H' := Z_ H; clear H; go_wp2; repeat (go_quiet (fail); try go_wp2)
                        go_roundg kj21
                        case measure => have := HJ2.out; have := HK2.out; have := HK3.out; have := HJ21.out; omega
                        case rel => exact ⟨(wrap64 (x41_3 + 1)), (by first | rfl | (simp; done) | (simp [*]; done)), H', ⟨by have := HJ2.out; have := HK2.out; have := HK3.out; have := HJ21.out; omega⟩, ⟨by (with_reducible repeat (first | refine bN_ ?_ _ | refine bD_ ?_ | refine bA_ ?_ _)); exact BK921.out⟩, ⟨by repeat (first | (with_reducible first | exact HB.out | apply fA_ | apply pB_ | apply fD_ | refine fE_ ?_ GE921.out | refine fE_ ?_ GE925.out) | exact HB.out)⟩⟩
                  rw [if_neg c21] at H; exact absurd H (by simp)
                rw [if_neg c20] at H; exact absurd H (by simp)
              rw [if_neg c19] at H; have c19b0 : decide (x41_3 < (l0_1.length : Int)) = false := eF_ c19; clear c19; obtain rfl := oI_ H; go_wp2; repeat (go_quiet (fail); try go_wp2)
              go_ret; exact ⟨by first | rfl | (simp [errW_none, errW_some] <;> rfl) | (simp [*, errW_none, errW_some] <;> rfl), by repeat (first | (with_reducible first | exact HB.out | apply fA_ | apply pB_ | apply fD_ | refine fE_ ?_ GE921.out) | exact HB.out)⟩
end Go.Proofs.Ytpolojoeabmhdaa.A
/- fulfils: what it answers. -/
namespace Go.Proofs.Ytpolojoeabmhdaa.A
open Go.RowKit Go.Proofs.YtpolojoeabmhdaaW.PrintWords Go.Proofs.YtpolojoeabmhdaaW.PrintLast Go.Proofs.YtpolojoeabmhdaaW.PrintMore
/-- One difference, asked of numbers. -/
def EC (n : Int) (x : List Int) (d : S39) : Prop := 0 ≤ d.f0 ∧ d.f0 < n ∧ 0 ≤ d.f1 ∧ d.f1 < n ∧ rd x d.f1 - rd x d.f0 ≤ d.f2
structure Ful (n : Int) (L : List S39) (x : List Int) : Prop where
  l : (x.length : Int) = n
  n0 : 0 < n
  z : rd x 0 = 0
  b : ∀ v, 0 ≤ v → v < n → -1099511627776 ≤ rd x v ∧ rd x v ≤ 1099511627776
  e : ∀ k, 0 ≤ k → k < (L.length : Int) → EC n x (rd_T39 L k)
theorem ful_l1 {n : Int} {L : List S39} {x : List Int} (hx : (x.length : Int) = n) (hL : L.length ≤ 65536) (hb : ∀ v, 0 ≤ v → v < n → -1099511627776 ≤ rd x v ∧ rd x v ≤ 1099511627776) : ∀ (q : Nat) (i : Int), (q : Int) + i = L.length → 0 ≤ i →
    ∃ b, Ev (fun k => snowlinelaw04_fulfils.l1 k x L L.length i) b ∧ (b = true ↔ ∀ k, i ≤ k → k < (L.length : Int) → EC n x (rd_T39 L k))
  | 0, i, hq, hi => ⟨true, Ev.step (f := fun _ => some true) (fun k => by rw [snowlinelaw04_fulfils.l1, if_neg (by omega)]) (Ev.now _), by simp; intro k h1 h2; omega⟩
  | q + 1, i, hq, hi => by
    have hlt : i < (L.length : Int) := by omega
    have hT : Ev (fun k => snowlinelaw04_fulfils.j4 k x L L.length i true) false := Ev.step (f := fun _ => some false) (fun k => by rw [snowlinelaw04_fulfils.j4]; rfl) (Ev.now _)
    have no : ¬ EC n x (rd_T39 L i) → (false = true ↔ ∀ k, i ≤ k → k < (L.length : Int) → EC n x (rd_T39 L k)) := fun h => ⟨fun h => (by cases h), fun h2 => absurd (h2 i (Int.le_refl _) hlt) h⟩
    have hst : ∀ {b}, Ev (fun k => if (rd_T39 L i).f0 < 0 then snowlinelaw04_fulfils.j4 k x L L.length i true else if (rd_T39 L i).f0 ≥ (x.length : Int) then snowlinelaw04_fulfils.j4 k x L L.length i true else if (rd_T39 L i).f1 < 0 then snowlinelaw04_fulfils.j4 k x L L.length i true else if (rd_T39 L i).f1 ≥ (x.length : Int) then snowlinelaw04_fulfils.j4 k x L L.length i true else if 0 ≤ (rd_T39 L i).f1 then (if (rd_T39 L i).f1 < (x.length : Int) then (if 0 ≤ (rd_T39 L i).f0 then (if (rd_T39 L i).f0 < (x.length : Int) then snowlinelaw04_fulfils.j4 k x L L.length i (decide (wrap64 (rd x (rd_T39 L i).f1 - rd x (rd_T39 L i).f0) > (rd_T39 L i).f2)) else none) else none) else none) else none) b → Ev (fun k => snowlinelaw04_fulfils.l1 k x L L.length i) b := fun h =>
      Ev.step (fun k => by rw [snowlinelaw04_fulfils.l1, if_pos hlt, if_pos hi, if_pos hlt]) h
    by_cases c1 : (rd_T39 L i).f0 < 0
    · exact ⟨false, hst (Ev.pos c1 hT), no fun h => by have := h.1; omega⟩
    by_cases c2 : (rd_T39 L i).f0 ≥ (x.length : Int)
    · exact ⟨false, hst (Ev.neg c1 (Ev.pos c2 hT)), no fun h => by have := h.2.1; omega⟩
    by_cases c3 : (rd_T39 L i).f1 < 0
    · exact ⟨false, hst (Ev.neg c1 (Ev.neg c2 (Ev.pos c3 hT))), no fun h => by have := h.2.2.1; omega⟩
    by_cases c4 : (rd_T39 L i).f1 ≥ (x.length : Int)
    · exact ⟨false, hst (Ev.neg c1 (Ev.neg c2 (Ev.neg c3 (Ev.pos c4 hT)))), no fun h => by have := h.2.2.2.1; omega⟩
    have b0 := hb (rd_T39 L i).f0 (by omega) (by omega)
    have b1 := hb (rd_T39 L i).f1 (by omega) (by omega)
    have hin : ∀ {b}, Ev (fun k => snowlinelaw04_fulfils.j4 k x L L.length i (decide (wrap64 (rd x (rd_T39 L i).f1 - rd x (rd_T39 L i).f0) > (rd_T39 L i).f2))) b → Ev (fun k => snowlinelaw04_fulfils.l1 k x L L.length i) b := fun h =>
      hst (Ev.neg c1 (Ev.neg c2 (Ev.neg c3 (Ev.neg c4 (Ev.pos (by omega) (Ev.pos (by omega) (Ev.pos (by omega) (Ev.pos (by omega) h))))))))
    rw [wrap_id (by omega) (by omega)] at hin
    by_cases c5 : rd x (rd_T39 L i).f1 - rd x (rd_T39 L i).f0 > (rd_T39 L i).f2
    · rw [decide_eq_true c5] at hin
      exact ⟨false, hin hT, no fun h => by have := h.2.2.2.2; omega⟩
    rw [decide_eq_false c5] at hin
    obtain ⟨b, h1, h2⟩ := ful_l1 hx hL hb q (i + 1) (by omega) (by omega)
    refine ⟨b, hin (Ev.step (f := fun k => snowlinelaw04_fulfils.l1 k x L L.length (i + 1)) (fun k => by rw [snowlinelaw04_fulfils.j4, if_neg (by decide), wrap_id (x := i + 1) (by omega) (by omega)]) h1), h2.trans ⟨fun h k k0 k1 => ?_, fun h k k0 k1 => h k (by omega) k1⟩⟩
    by_cases e : k = i
    · rw [e]; exact ⟨by omega, by omega, by omega, by omega, by omega⟩
    · exact h k (by omega) k1
theorem ful_l0 {n : Int} {L : List S39} {x : List Int} (N : Int) (hx : (x.length : Int) = n) (hn : n ≤ 65536) (hL : L.length ≤ 65536) : ∀ (q : Nat) (i : Int), (q : Int) + i = n → 0 ≤ i → (∀ v, 0 ≤ v → v < i → -1099511627776 ≤ rd x v ∧ rd x v ≤ 1099511627776) →
    ∃ b, Ev (fun k => snowlinelaw04_fulfils.l0 k x x x.length i N L) b ∧ (b = true ↔ (∀ v, 0 ≤ v → v < n → -1099511627776 ≤ rd x v ∧ rd x v ≤ 1099511627776) ∧ ∀ k, 0 ≤ k → k < (L.length : Int) → EC n x (rd_T39 L k))
  | 0, i, hq, hi, hb => by
    have hb' : ∀ v, 0 ≤ v → v < n → -1099511627776 ≤ rd x v ∧ rd x v ≤ 1099511627776 := fun v v0 v1 => hb v v0 (by omega)
    obtain ⟨b, h1, h2⟩ := ful_l1 hx hL hb' L.length 0 (by omega) (by omega)
    exact ⟨b, Ev.step (fun k => by rw [snowlinelaw04_fulfils.l0, if_neg (by omega)]) h1, h2.trans ⟨fun h => ⟨hb', h⟩, fun h => h.2⟩⟩
  | q + 1, i, hq, hi, hb => by
    have hlt : i < (x.length : Int) := by omega
    have hT : Ev (fun k => snowlinelaw04_fulfils.j2 k x x x.length i true N L) false := Ev.step (f := fun _ => some false) (fun k => by rw [snowlinelaw04_fulfils.j2]; rfl) (Ev.now _)
    by_cases c1 : rd x i < -1099511627776
    · exact ⟨false, Ev.step (f := fun k => snowlinelaw04_fulfils.j2 k x x x.length i true N L) (fun k => by rw [snowlinelaw04_fulfils.l0, if_pos hlt, if_pos hi, if_pos hlt, if_pos c1]) hT, fun h => (by cases h), fun h => by have := h.1 i hi (by omega); omega⟩
    have hin : ∀ {b}, Ev (fun k => snowlinelaw04_fulfils.j2 k x x x.length i (decide (rd x i > 1099511627776)) N L) b → Ev (fun k => snowlinelaw04_fulfils.l0 k x x x.length i N L) b := fun h =>
      Ev.step (fun k => by rw [snowlinelaw04_fulfils.l0, if_pos hlt, if_pos hi, if_pos hlt, if_neg c1]) h
    by_cases c2 : rd x i > 1099511627776
    · rw [decide_eq_true c2] at hin
      exact ⟨false, hin hT, fun h => (by cases h), fun h => by have := h.1 i hi (by omega); omega⟩
    rw [decide_eq_false c2] at hin
    obtain ⟨b, h1, h2⟩ := ful_l0 N hx hn hL q (i + 1) (by omega) (by omega) (fun v v0 v1 => by
      by_cases e : v = i
      · rw [e]; omega
      · exact hb v v0 (by omega))
    exact ⟨b, hin (Ev.step (fun k => by rw [snowlinelaw04_fulfils.j2, if_neg (by decide), wrap_id (x := i + 1) (by omega) (by omega)]) h1), h2⟩
theorem fulfils_ev (n : Int) (L : List S39) (x : List Int) (hn : n ≤ 65536) (hL : L.length ≤ 65536) : ∃ b, Ev (fun k => snowlinelaw04_fulfils.f k n L x) b ∧ (b = true ↔ Ful n L x) := by
  unfold snowlinelaw04_fulfils.f
  have hT : Ev (fun k => snowlinelaw04_fulfils.j0 k x true n L) false := Ev.step (f := fun _ => some false) (fun k => by rw [snowlinelaw04_fulfils.j0]; rfl) (Ev.now _)
  by_cases c1 : (x.length : Int) = n
  case neg => exact ⟨false, Ev.neg c1 hT, fun h => (by cases h), fun h => absurd h.l c1⟩
  by_cases c2 : (x.length : Int) = 0
  · exact ⟨false, Ev.pos c1 (Ev.pos c2 hT), fun h => (by cases h), fun h => by have := h.n0; omega⟩
  by_cases c3 : rd x 0 = 0
  case neg =>
    refine ⟨false, Ev.pos c1 (Ev.neg c2 (Ev.pos (by omega) ?_)), fun h => (by cases h), fun h => absurd h.z c3⟩
    rw [show (rd x 0 != 0) = true from bne_iff_ne.mpr c3]
    exact hT
  obtain ⟨b, h1, h2⟩ := ful_l0 n c1 hn hL x.length 0 (by omega) (by omega) (fun v v0 v1 => by omega)
  refine ⟨b, Ev.pos c1 (Ev.neg c2 (Ev.pos (by omega) ?_)), h2.trans ⟨fun h => ⟨c1, by omega, c3, h.1, h.2⟩, fun h => ⟨h.b, h.e⟩⟩⟩
  rw [show (rd x 0 != 0) = false from bne_eq_false_iff_eq.mpr c3]
  exact Ev.step (fun k => by rw [snowlinelaw04_fulfils.j0, if_neg (by decide)]) h1
theorem Ful.asg {n : Int} {L : List S39} {x : List Int} (h : Ful n L x) : Asg L (rd x) := ⟨h.z, fun k k0 k1 => (h.e k k0 k1).2.2.2.2⟩
end Go.Proofs.Ytpolojoeabmhdaa.A
namespace Go.Proofs.Ytpolojoeabmhdaa.A
open Go.RowKit Go.Proofs.YtpolojoeabmhdaaW.PrintWords Go.Proofs.YtpolojoeabmhdaaW.PrintLast Go.Proofs.YtpolojoeabmhdaaW.PrintMore
attribute [local go_sem] max2_int min2_int max_two min_two max_three min_three max_four min_four
def snowlineref04_Sum.l0 : Nat → List Int → List Int → Int → Int → Option (Int)
  | 0, _, _, _, _ => none
  | k + 1, x0, x1, x5, x6 => if x6 < (x0.length : Int) then (if 0 ≤ x6 then (if x6 < (x1.length : Int) then (snowlineref04_Sum.l0 k x0 x1 (wrap64 (x5 + (wrap64 ((rd x0 x6) * (rd x1 x6))))) (wrap64 (x6 + 1))) else (none)) else (none)) else (some x5)
def snowlineref04_Sum.f (k : Nat) (l0 : List Int) (l1 : List Int) : Option (Int) := snowlineref04_Sum.l0 k l0 l1 0 1
theorem snowlineref04_Sum.mono_l : ∀ k, (∀ y0 y1 y2 y3, LeO (snowlineref04_Sum.l0 k y0 y1 y2 y3) (snowlineref04_Sum.l0 (k + 1) y0 y1 y2 y3))
  | 0 => fun _ _ _ _ r h => by simp [snowlineref04_Sum.l0] at h
  | k + 1 => by
    have ih0 := snowlineref04_Sum.mono_l k; intro y0 y1 y2 y3; unfold snowlineref04_Sum.l0; repeat' first | (with_reducible first | exact ih0 _ _ _ _ | exact LeO.refl _ | exact LeO.none _ | refine LeO.ite ?_ ?_ | refine LeO.bind ?_ (fun _ => ?_)) | exact ih0 _ _ _ _ | exact LeO.none _ | refine LeO.ite ?_ ?_ | refine LeO.bind ?_ (fun _ => ?_)
theorem snowlineref04_Sum.mono : ∀ a0 a1 k, LeO (snowlineref04_Sum.f k a0 a1) (snowlineref04_Sum.f (k + 1) a0 a1) := by
  intro a0 a1 k; have ih0 := snowlineref04_Sum.mono_l k; unfold snowlineref04_Sum.f; repeat' first | (with_reducible first | exact ih0 _ _ _ _ | exact LeO.refl _ | exact LeO.none _ | refine LeO.ite ?_ ?_ | refine LeO.bind ?_ (fun _ => ?_)) | exact ih0 _ _ _ _ | exact LeO.none _ | refine LeO.ite ?_ ?_ | refine LeO.bind ?_ (fun _ => ?_)
set_option maxHeartbeats 8000000 in
set_option maxRecDepth 100000 in
theorem snowlineref04_Sum.calls (k : Nat) (A0 : Option Addr) (c0 : Nat) (l0 : List Int) (A1 : Option Addr) (c1 : Nat) (l1 : List Int) (r : Int) (w : World) (hr0 : Kd.C (Kd.int .i64) w A0 l0.length l0) (hc0 : l0.length ≤ c0) (hr1 : Kd.C (Kd.int .i64) w A1 l1.length l1) (hc1 : l1.length ≤ c1) (h : snowlineref04_Sum.f k l0 l1 = some r) :
    Calls Try.prog 54 #[.slice A0 l0.length c0, .slice A1 l1.length c1] w fun e w' => e = .returned (.int .i64 r) ∧ Drawn0 w w' := by
  have HR0 := Z_ hr0; have HC0 := Z_ hc0; clear hr0 hc0; have HR1 := Z_ hr1; have HC1 := Z_ hc1; clear hr1 hc1; have H : (snowlineref04_Sum.l0 k l0 l1 0 1) = some r := h; clear h; have H' := Z_ H; clear H; go_enter Try.func54, Try.ntmps54; go_wp2; repeat (go_quiet (fail); try go_wp2)
  go_loopg [5, 6] k (fun kq v5 v6 w' => ∃ (x5_1 : Int) (x6_1 : Int), v5 = .int .i64 x5_1 ∧ v6 = .int .i64 x6_1 ∧ Aside0 (snowlineref04_Sum.l0 kq l0 l1 x5_1 x6_1 = some r) ∧ Aside0 (kq ≤ k) ∧ Drawn0 w w')
  case atStart => exact ⟨(0), (1), (by first | rfl | (simp; done) | (simp [*]; done)), (by first | rfl | (simp; done) | (simp [*]; done)), H', ⟨nR_ _⟩, by repeat (first | exact Drawn0.refl _ | apply Drawn0.step)⟩
  case round =>
    clear H'; try clear c1
    try clear p2
    obtain ⟨x5_1, x6_1, rfl, rfl, HA, HK1, ⟨m1, rfl⟩⟩ := hrel
    cases gk with
    | zero => exact absurd HA.out (by simp [snowlineref04_Sum.l0])
    | succ k1 =>
      have H := HA.out; clear HA; simp only [snowlineref04_Sum.l0] at H; by_cases c3 : x6_1 < (l0.length : Int)
      · rw [if_pos c3] at H
        have c3b0 : decide (x6_1 < (l0.length : Int)) = true := eT_ c3; clear c3; by_cases c4 : 0 ≤ x6_1
        · rw [if_pos c4] at H
          have c4b0 : decide (0 ≤ x6_1) = true := eT_ c4; clear c4; by_cases c5 : x6_1 < (l1.length : Int)
          · rw [if_pos c5] at H
            have c5b0 : decide (x6_1 < (l1.length : Int)) = true := eT_ c5; clear c5; have H' := Z_ H; clear H; have p1072 : 0 ≤ (x6_1 : Int) := dT_ (by first | (with_reducible assumption) | assumption); have q1072 : x6_1 < (l0.length : Int) := dT_ (by first | (with_reducible assumption) | assumption); obtain ⟨ad1072, e1072, hx1072_0⟩ := Kd.at_int HR0.out x6_1 p1072 q1072; cases e1072
            replace p1072 := eq_true p1072; replace q1072 := eq_true q1072; have p1073 : 0 ≤ (x6_1 : Int) := dT_ (by first | (with_reducible assumption) | assumption); have q1073 : x6_1 < (l1.length : Int) := dT_ (by first | (with_reducible assumption) | assumption); obtain ⟨ad1073, e1073, hx1073_0⟩ := Kd.at_int HR1.out x6_1 p1073 q1073; cases e1073
            replace p1073 := eq_true p1073; replace q1073 := eq_true q1073; go_wp2; repeat (go_quiet (fail); try go_wp2)
            go_roundg k1
            case measure => have := HK1.out; omega
            case rel => exact ⟨(wrap64 (x5_1 + (wrap64 ((rd l0 x6_1) * (rd l1 x6_1))))), (wrap64 (x6_1 + 1)), (by first | rfl | (simp; done) | (simp [*]; done)), (by first | rfl | (simp; done) | (simp [*]; done)), H', ⟨by have := HK1.out; omega⟩, by repeat (first | exact Drawn0.refl _ | apply Drawn0.step)⟩
          rw [if_neg c5] at H; exact absurd H (by simp)
        rw [if_neg c4] at H; exact absurd H (by simp)
      rw [if_neg c3] at H; have c3b0 : decide (x6_1 < (l0.length : Int)) = false := eF_ c3; clear c3; obtain rfl := oI_ H; go_wp2; repeat (go_quiet (fail); try go_wp2)
      go_ret; exact ⟨by first | rfl | (simp; done) | (simp [*]; done), by repeat (first | exact Drawn0.refl _ | apply Drawn0.step)⟩
end Go.Proofs.Ytpolojoeabmhdaa.A
/- CheckFlow, Sum: what they answer. -/
namespace Go.Proofs.Ytpolojoeabmhdaa.A
open Go.RowKit Go.Proofs.YtpolojoeabmhdaaW.PrintWords Go.Proofs.YtpolojoeabmhdaaW.PrintLast Go.Proofs.YtpolojoeabmhdaaW.PrintMore
theorem netF_snoc : ∀ (D : List S39) (F : List Int) (d : S39) (f v : Int), F.length = D.length → netF (D ++ [d]) (F ++ [f]) v = netF D F v + f * ind d.f0 d.f1 v
  | [], [], d, f, v, _ => by
    simp only [List.nil_append, netF, ind]
    split <;> split <;> omega
  | [], _ :: _, _, _, _, h => by simp at h
  | _ :: _, [], _, _, _, h => by simp at h
  | e :: es, g :: gs, d, f, v, h => by
    have ih := netF_snoc es gs d f v (by simpa using h)
    simp only [List.cons_append, netF]
    rw [ih]; omega
theorem take_snoc {α : Type} (l : List α) (i : Nat) (h : i < l.length) : l.take (i + 1) = l.take i ++ [l[i]] := by
  rw [List.take_add_one, List.getElem?_eq_getElem h]; rfl
section
variable {n : Nat} {D : List S39} {w F : List Int}
theorem netF_take (hl : F.length = D.length) {i : Int} (h0 : 0 ≤ i) (h1 : i < D.length) (v : Int) : netF (D.take (i + 1).toNat) (F.take (i + 1).toNat) v = netF (D.take i.toNat) (F.take i.toNat) v + rd F i * ind (rd_T39 D i).f0 (rd_T39 D i).f1 v := by
  have e1 : rd_T39 D i = D[i.toNat]'(by omega) := by
    unfold rd_T39
    rw [List.getD_eq_getElem?_getD, List.getElem?_eq_getElem (by omega)]; rfl
  have e2 : rd F i = F[i.toNat]'(by omega) := by
    unfold rd
    rw [List.getD_eq_getElem?_getD, List.getElem?_eq_getElem (by omega)]; rfl
  rw [show (i + 1).toNat = i.toNat + 1 from by omega, take_snoc D _ (by omega), take_snoc F _ (by omega), netF_snoc _ _ _ _ _ (by rw [List.length_take, List.length_take]; omega), e1, e2]
structure FlowIs (n : Nat) (D : List S39) (w F : List Int) (a : Int) : Prop where
  hw : Weighty n w
  f : Feas n D w F
  u : ∀ k, 0 ≤ k → k < (D.length : Int) → rd F k ≤ 1048576
  c : costF D F ≤ a
theorem cflow_l0 (hV : Valid n D) (hw : Weighty n w) (hl : F.length = D.length) (hF : ∀ k, 0 ≤ k → k < (D.length : Int) → 0 ≤ rd F k ∧ rd F k ≤ 1048576) (a : Int) : ∀ (q : Nat) (i : Int) (s : List Int), (q : Int) + i = D.length → 0 ≤ i → s.length = n → (∀ v, 0 ≤ v → v < (n : Int) → rd s v = rd w v - netF (D.take i.toNat) (F.take i.toNat) v ∧ -(4096 + i * 1048576) ≤ rd s v ∧ rd s v ≤ 4096 + i * 1048576) →
    ∃ e, Ev (fun k => diffs_CheckFlow.l0 k a F s D D.length i n D) e ∧ (e = 0 ∨ e = 43) ∧ (e = 0 ↔ FlowIs n D w F a)
  | 0, i, s, hq, hi, hs, hz => by
    have hn := hV.n1
    have hD := hV.l
    have hT : Ev (fun k => diffs_CheckFlow.j2 k true) 43 := Ev.step (f := fun _ => some 43) (fun k => by rw [diffs_CheckFlow.j2]; rfl) (Ev.now _)
    have hend : ∀ {b e}, ((s.set (0 : Int).toNat 0).any fun x => x != 0) = b → Ev (fun k => if b = true then diffs_CheckFlow.j2 k true else ((diffs_cost.f k n D F).bind fun t313 => diffs_CheckFlow.j2 k (decide (t313 > a)))) e → Ev (fun k => diffs_CheckFlow.l0 k a F s D D.length i n D) e := fun hb h =>
      Ev.step (fun k => by rw [diffs_CheckFlow.l0, if_neg (by omega), if_pos (by omega)]; unfold cf100.f; rw [Option.bind_some, hb]) h
    have hrd : ∀ v, 0 ≤ v → v < (n : Int) → rd (s.set (0 : Int).toNat 0) v = if v = 0 then 0 else rd w v - netF D F v := fun v v0 v1 => by
      rw [rd_set _ _ _ _ (by omega) (by omega) v0, (hz v v0 v1).1, List.take_of_length_le (by omega), List.take_of_length_le (by omega)]
    cases hb : ((s.set (0 : Int).toNat 0).any fun x => x != 0) with
    | true =>
      refine ⟨43, hend hb (Ev.pos rfl hT), Or.inr rfl, fun h => absurd h (by decide), fun h => ?_⟩
      obtain ⟨x, hx, hx2⟩ := List.any_eq_true.1 hb
      obtain ⟨v, v0, v1, rfl⟩ := mem_rd hx
      rw [List.length_set] at v1
      have := hrd v v0 (by omega)
      by_cases e : v = 0
      · rw [if_pos e] at this; rw [this] at hx2; exact absurd hx2 (by decide)
      · rw [if_neg e, h.f.bal v (by omega) (by omega)] at this
        rw [show rd (s.set (0 : Int).toNat 0) v = 0 from by omega] at hx2
        exact absurd hx2 (by decide)
    | false =>
      have hfe : Feas n D w F := ⟨hl, fun k k0 k1 => (hF k k0 k1).1, fun v v0 v1 => by
        have h1 := hrd v (by omega) v1
        rw [if_neg (by omega)] at h1
        have h2 := List.any_eq_false.1 hb (rd (s.set (0 : Int).toNat 0) v) (rd_mem (by omega) (by rw [List.length_set]; omega))
        have h3 : rd (s.set (0 : Int).toNat 0) v = 0 := by simpa using h2
        omega⟩
      obtain ⟨c1, _⟩ := cost_ev hV.e hl hD hF (n : Int)
      by_cases hc : costF D F > a
      · refine ⟨43, hend hb (Ev.neg (by decide) (c1.bind ?_)), Or.inr rfl, fun h => absurd h (by decide), fun h => by have := h.c; omega⟩
        rw [decide_eq_true hc]; exact hT
      · refine ⟨0, hend hb (Ev.neg (by decide) (c1.bind ?_)), Or.inl rfl, fun _ => ⟨hw, hfe, fun k k0 k1 => (hF k k0 k1).2, by omega⟩, fun _ => rfl⟩
        rw [decide_eq_false hc]
        exact Ev.step (f := fun _ => some 0) (fun k => by rw [diffs_CheckFlow.j2]; rfl) (Ev.now _)
  | q + 1, i, s, hq, hi, hs, hz => by
    have hlt : i < (D.length : Int) := by omega
    have hD := hV.l
    have he := hV.e i hi hlt
    have d0 := he.a
    have d1 := he.b
    have d2 := he.c
    have d3 := he.g
    obtain ⟨f0, f1⟩ := hF i hi hlt
    have z1 := hz (rd_T39 D i).f1 d2 d3
    have z0 := hz (rd_T39 D i).f0 d0 d1
    have r1 : ∀ v, 0 ≤ v → v < (n : Int) → rd (s.set (rd_T39 D i).f1.toNat (rd s (rd_T39 D i).f1 - rd F i)) v = if v = (rd_T39 D i).f1 then rd s (rd_T39 D i).f1 - rd F i else rd s v := fun v v0 v1 => rd_set _ _ _ _ d2 (by omega) v0
    have r0 := r1 (rd_T39 D i).f0 d0 d1
    have hb0 : -9223372036854775808 ≤ rd (s.set (rd_T39 D i).f1.toNat (rd s (rd_T39 D i).f1 - rd F i)) (rd_T39 D i).f0 + rd F i ∧ rd (s.set (rd_T39 D i).f1.toNat (rd s (rd_T39 D i).f1 - rd F i)) (rd_T39 D i).f0 + rd F i < 9223372036854775808 := by
      rw [r0]; split <;> omega
    have l1 : (s.set (rd_T39 D i).f1.toNat (rd s (rd_T39 D i).f1 - rd F i)).length = n := by rw [List.length_set]; exact hs
    obtain ⟨e, h1, h2, h3⟩ := cflow_l0 hV hw hl hF a q (i + 1) ((s.set (rd_T39 D i).f1.toNat (rd s (rd_T39 D i).f1 - rd F i)).set (rd_T39 D i).f0.toNat (rd (s.set (rd_T39 D i).f1.toNat (rd s (rd_T39 D i).f1 - rd F i)) (rd_T39 D i).f0 + rd F i)) (by omega) (by omega) (by rw [List.length_set]; exact l1) (fun v v0 v1 => by
      have zv := hz v v0 v1
      rw [rd_set _ _ _ _ d0 (by omega) v0, netF_take hl hi hlt, r0, r1 v v0 v1]
      unfold ind
      by_cases e0 : v = (rd_T39 D i).f0
      · by_cases e1 : (rd_T39 D i).f0 = (rd_T39 D i).f1
        · rw [if_pos e0, if_pos e1, if_pos (by omega), if_pos (by omega)]
          have e3 : v = (rd_T39 D i).f1 := by omega
          rw [← e3] at z1 ⊢
          omega
        · rw [if_pos e0, if_neg e1, if_neg (by omega), if_pos e0.symm, ← e0]
          omega
      · rw [if_neg e0]
        by_cases e1 : v = (rd_T39 D i).f1
        · rw [if_pos e1, if_pos e1.symm, if_neg (fun h => e0 h.symm), ← e1]
          omega
        · rw [if_neg e1, if_neg (fun h => e1 h.symm), if_neg (fun h => e0 h.symm)]
          omega)
    refine ⟨e, Ev.step (fun k => ?_) h1, h2, h3⟩
    rw [diffs_CheckFlow.l0, if_pos hlt, if_pos hi, if_pos hlt, if_pos d2, if_pos (by omega), if_pos (by omega), wrap_id (x := rd s _ - _) (by omega) (by omega), Option.bind_some, if_pos d0, if_pos (by omega), wrap_id hb0.1 hb0.2, wrap_id (x := i + 1) (by omega) (by omega)]
theorem cflow_ev (hV : Valid n D) (w F : List Int) (a : Int) : ∃ e, Ev (fun k => diffs_CheckFlow.f k n D w a F) e ∧ (e = 0 ↔ FlowIs n D w F a) := by
  have hask := fun p q : Bool => asked_ev n D [p, q] (by simp)
  simp only [if_pos (validB_iff.2 hV)] at hask
  have hbad : ∀ p q : Bool, (p && q) = false → Ev (fun k => diffs_asked.f k n D [p, q]) 1 := fun p q h => by
    have := hask p q
    rw [if_pos (by cases p <;> cases q <;> first | rfl | exact absurd h (by decide))] at this
    exact this
  -- what j0 answers, the flow's own bit being known
  have hj : ∀ b : Bool, (b = true → F.length = D.length ∧ ∀ k, 0 ≤ k → k < (D.length : Int) → 0 ≤ rd F k ∧ rd F k ≤ 1048576) → (b = false → ¬ FlowIs n D w F a) → ∃ e, Ev (fun k => diffs_CheckFlow.j0 k w a F b n D) e ∧ (e = 0 ↔ FlowIs n D w F a) := fun b hb hb2 => by
    have hin : ∀ {e}, Ev (fun k => (diffs_asked.f k n D [weightyB n w, b]).bind fun t299 => (if t299 = 0 then ((slices_Clone_int_int.f w).bind fun t300 => (diffs_CheckFlow.l0 k a F t300 D D.length 0 n D)) else some t299)) e → Ev (fun k => diffs_CheckFlow.j0 k w a F b n D) e := fun h =>
      Ev.step (fun k => by rw [diffs_CheckFlow.j0, weighty_some, Option.bind_some]) h
    cases hwb : weightyB n w with
    | false =>
      rw [hwb] at hin
      exact ⟨1, hin ((hbad false b rfl).bind (Ev.neg (by decide) (Ev.now _))), fun h => absurd h (by decide), fun h => by rw [weightyB_iff.2 h.hw] at hwb; cases hwb⟩
    | true =>
      rw [hwb] at hin
      cases b with
      | false => exact ⟨1, hin ((hbad true false rfl).bind (Ev.neg (by decide) (Ev.now _))), fun h => absurd h (by decide), fun h => absurd h (hb2 rfl)⟩
      | true =>
        have hw := weightyB_iff.1 hwb
        have hwl := hw.l
        have hn2 := hV.n2
        obtain ⟨hl, hF⟩ := hb rfl
        have h0 : Ev (fun k => diffs_asked.f k n D [true, true]) 0 := by
          have := hask true true
          rw [if_neg (by decide)] at this
          exact this
        obtain ⟨e, h1, _, h3⟩ := cflow_l0 hV hw hl hF a D.length 0 w (by omega) (by omega) (by omega) (fun v v0 v1 => by
          have := hw.b v v0 v1
          simp only [show (0 : Int).toNat = 0 from rfl, List.take_zero, netF]
          omega)
        refine ⟨e, hin (h0.bind (Ev.pos rfl ?_)), h3⟩
        unfold slices_Clone_int_int.f
        rw [if_pos (by omega)]
        simp only [Option.bind_some]
        exact h1
  unfold diffs_CheckFlow.f
  by_cases hl : (F.length : Int) = (D.length : Int)
  case neg =>
    obtain ⟨e, h1, h2⟩ := hj false (fun h => by cases h) (fun _ h => hl (by rw [h.f.lf]))
    exact ⟨e, Ev.neg hl h1, h2⟩
  have hany : (F.any fun x => !in_ x 0 1048576) = false ↔ ∀ k, 0 ≤ k → k < (D.length : Int) → 0 ≤ rd F k ∧ rd F k ≤ 1048576 := by
    rw [List.any_eq_false]
    constructor
    · intro h k k0 k1
      have := h (rd F k) (rd_mem k0 (by omega))
      simpa [in_] using this
    · intro h x hx
      obtain ⟨v, v0, v1, rfl⟩ := mem_rd hx
      have := h v v0 (by omega)
      simp [in_, this.1, this.2]
  unfold cf97.f
  simp only [Option.bind_some]
  cases hA : (F.any fun x => !in_ x 0 1048576) with
  | true =>
    obtain ⟨e, h1, h2⟩ := hj false (fun h => by cases h) (fun _ h => by
      have := hany.2 (fun k k0 k1 => ⟨h.f.pos k k0 k1, h.u k k0 k1⟩)
      rw [hA] at this; cases this)
    exact ⟨e, Ev.pos hl h1, h2⟩
  | false =>
    obtain ⟨e, h1, h2⟩ := hj true (fun _ => ⟨by omega, hany.1 hA⟩) (fun h => by cases h)
    exact ⟨e, Ev.pos hl h1, h2⟩
theorem sum_l0 {x : List Int} (hw : Weighty n w) (hx : (x.length : Int) = n) (hn : n ≤ 256) (hb : ∀ v, 0 ≤ v → v < (n : Int) → -1099511627776 ≤ rd x v ∧ rd x v ≤ 1099511627776) : ∀ (q : Nat) (i : Nat) (acc : Int), q + i = n → acc = sumN (fun v => if v = 0 then 0 else rd w v * rd x v) i → -((i : Int) * 4503599627370496) ≤ acc → acc ≤ (i : Int) * 4503599627370496 → 1 ≤ i →
    Ev (fun k => snowlineref04_Sum.l0 k w x acc i) (sumN (fun v => if v = 0 then 0 else rd w v * rd x v) n) := by
  intro q
  induction q with
  | zero =>
    intro i acc hq ha h1 h2 hi
    have hwl := hw.l
    have e : i = n := by omega
    rw [e] at ha
    rw [← ha]
    exact Ev.step (f := fun _ => some acc) (fun k => by rw [snowlineref04_Sum.l0, if_neg (by omega)]) (Ev.now _)
  | succ q ihq =>
    intro i acc hq ha h1 h2 hi
    have hwl := hw.l
    have bw := hw.b i (by omega) (by omega)
    have bx := hb i (by omega) (by omega)
    have key : ∀ p r : Int, 0 ≤ p → p ≤ 4096 → 0 ≤ r → r ≤ 1099511627776 → 0 ≤ p * r ∧ p * r ≤ 4503599627370496 := fun p r p0 p1 r0 r1 => ⟨Int.mul_nonneg p0 r0, Int.mul_le_mul p1 r1 r0 (by omega)⟩
    have bp : -4503599627370496 ≤ rd w i * rd x i ∧ rd w i * rd x i ≤ 4503599627370496 := by
      by_cases s1 : 0 ≤ rd w i
      · by_cases s2 : 0 ≤ rd x i
        · have := key _ _ s1 bw.2 s2 bx.2; omega
        · have := key (rd w i) (-(rd x i)) s1 bw.2 (by omega) (by omega)
          rw [Int.mul_neg] at this; omega
      · by_cases s2 : 0 ≤ rd x i
        · have := key (-(rd w i)) (rd x i) (by omega) (by omega) s2 bx.2
          rw [Int.neg_mul] at this; omega
        · have := key (-(rd w i)) (-(rd x i)) (by omega) (by omega) (by omega) (by omega)
          rw [Int.neg_mul_neg] at this; omega
    have ih := ihq (i + 1) (acc + rd w i * rd x i) (by omega) (by simp only [sumN]; rw [if_neg (by omega), ha]) (by push_cast; omega) (by push_cast; omega) (by omega)
    refine Ev.step (fun k => ?_) ih
    rw [snowlineref04_Sum.l0, if_pos (by omega), if_pos (by omega), if_pos (by omega), wrap_id (x := rd w i * rd x i) (by omega) (by omega), wrap_id (by omega) (by omega), wrap_id (x := (i : Int) + 1) (by omega) (by omega)]
    rfl
theorem sum_ev {x : List Int} (hw : Weighty n w) (hx : (x.length : Int) = n) (hn0 : 0 < n) (hn : n ≤ 256) (hb : ∀ v, 0 ≤ v → v < (n : Int) → -1099511627776 ≤ rd x v ∧ rd x v ≤ 1099511627776) : Ev (fun k => snowlineref04_Sum.f k w x) (sumW n w (rd x)) :=
  sum_l0 hw hx hn hb (n - 1) 1 0 (by omega) (by simp [sumN]) (by omega) (by omega) (by omega)
end
end Go.Proofs.Ytpolojoeabmhdaa.A
/- Most, Best and Flow together. -/
namespace Go.Proofs.Ytpolojoeabmhdaa.A
open Go.RowKit Go.Proofs.YtpolojoeabmhdaaW.PrintWords Go.Proofs.YtpolojoeabmhdaaW.PrintLast Go.Proofs.YtpolojoeabmhdaaW.PrintMore
theorem wk_bound {n : Int} {L : List S39} (hE : EdgesOk n L) : ∀ {u : Int} {l : List Int} {v W : Int}, Wk L u l v W → -(l.length * 1073741824) ≤ W ∧ W ≤ l.length * 1073741824
  | u, [], v, W, h => by
    obtain ⟨_, rfl⟩ := h
    simp
  | u, i :: is, v, W, h => by
    obtain ⟨⟨i0, i1⟩, _, h2⟩ := h
    have := wk_bound hE h2
    have hd := hE i i0 i1
    have := hd.e
    have := hd.f
    rw [List.length_cons]
    push_cast
    omega
theorem chain_len' (L : List S39) (la : List Int) (c : Nat) (v : Int) : (chain L la c v).length = c := chain_len L la c v
section
variable {n : Nat} {D : List S39} {w F : List Int}
theorem solve_ful {L : List S39} (hn0 : 0 < n) (hn : n ≤ 256) (hE : EdgesOk n L) (hm : (n : Int) * L.length ≤ 1048576) (hs : Solv L) : ∃ (x : List Int) (s : Sg), Ev (fun k => diffs_solve.f k n L) (x, s.lo, s.ha, s.la, -1) ∧ Ful n L x := by
  obtain ⟨x, s, bad, h1, h2, h3, h4, h5⟩ := solve_ev hn0 (by omega) hE hm
  have ha : ∀ v, 0 ≤ v → v < (n : Int) → v ∈ allL n := fun v a b => mem_allL.2 ⟨a, b⟩
  have hb := (h2.bad_iff hE ha).2 hs
  subst hb
  obtain ⟨l1, l2⟩ := h4 rfl
  obtain ⟨y, hy⟩ := hs
  have hf := (h2.good hE hy).2
  have bd : ∀ v, 0 ≤ v → v < (n : Int) → -274877906944 ≤ rd s.lo v ∧ rd s.lo v ≤ 274877906944 := fun v v0 v1 => by
    obtain ⟨c, hc⟩ := h2.tree hE hf v0 v1 (h2.all_has ha v0 v1)
    have := wk_bound hE hc.walk
    rw [List.length_reverse, chain_len'] at this
    have := hc.few
    omega
  refine ⟨x, s, h3, by omega, by omega, ?_, fun v v0 v1 => ?_, fun k k0 k1 => ?_⟩
  · rw [l2 0 (by omega) (by omega)]; omega
  · rw [l2 v v0 v1]
    have := bd v v0 v1
    have := bd 0 (by omega) (by omega)
    omega
  · have he := hE k k0 k1
    have hp := h2.pot hE ha rfl k k0 k1
    refine ⟨he.a, he.b, he.c, he.g, ?_⟩
    rw [l2 _ he.c he.g, l2 _ he.a he.b]
    omega
theorem Ful.of_lines {x : List Int} (h : Ful n (linesL D F) x) : Ful n D x := ⟨h.l, h.n0, h.z, h.b, fun k k0 k1 => by
  have := h.e k k0 (by rw [lines_len]; omega)
  rw [lines_lo k0 k1] at this
  exact this⟩
/-- What Most, Best and Flow answer together. -/
structure Trio (n : Nat) (D : List S39) (w : List Int) (a : Int) (b : Bool) (e : Int) (x F : List Int) : Prop where
  m : MostIs n D w a b e
  yes : Weighty n w → Solv D → b = true → Ful n D x ∧ sumW n w (rd x) = a ∧ FlowIs n D w F a
  no : b = false → x = [] ∧ F = []
theorem trio_ev (hV : Valid n D) (hm : (n : Int) * (2 * D.length) ≤ 1048576) (w : List Int) : ∃ a b e x F, Ev (fun k => diffs_Most.f k n D w) (a, b, e) ∧ Ev (fun k => diffs_Best.f k n D w) (x, b, e) ∧ Ev (fun k => diffs_Flow.f k n D w) (F, b, e) ∧ Trio n D w a b e x F := by
  obtain ⟨is, F, W, e, h1, h2⟩ := best_ev hV w
  have hD := hV.l
  have hn0 : 0 < n := by have := hV.n1; omega
  have hn : n ≤ 256 := by have := hV.n2; omega
  unfold diffs_Most.f diffs_Best.f diffs_Flow.f
  by_cases hw : Weighty n w
  case neg =>
    obtain ⟨rfl, rfl, rfl⟩ := h2.arg hw
    exact ⟨0, false, 1, [], [], h1.bind (Ev.neg (by simp) (Ev.now _)), h1.bind (Ev.neg (by simp) (Ev.now _)), h1.bind (Ev.neg (by simp) (Ev.now _)), ⟨fun _ => ⟨rfl, rfl, rfl⟩, fun h => absurd h hw, fun h => absurd h hw, by omega⟩, fun h => absurd h hw, fun _ => ⟨rfl, rfl⟩⟩
  by_cases hs : Solv D
  case neg =>
    obtain ⟨rfl, rfl, rfl⟩ := h2.clash hw hs
    exact ⟨0, false, 41, [], [], h1.bind (Ev.neg (by simp) (Ev.now _)), h1.bind (Ev.neg (by simp) (Ev.now _)), h1.bind (Ev.neg (by simp) (Ev.now _)), ⟨fun h => absurd hw h, fun _ _ => ⟨rfl, rfl, rfl⟩, fun _ h => absurd h hs, by omega⟩, fun _ h => absurd h hs, fun _ => ⟨rfl, rfl⟩⟩
  obtain rfl := h2.ok hw hs
  cases is with
  | true =>
    obtain ⟨f1, f2, f3⟩ := h2.yes hw hs rfl
    obtain ⟨c1, c2⟩ := cost_ev hV.e f1.lf hD (fun k k0 k1 => ⟨f1.pos k k0 k1, f3 k k0 k1⟩) (n : Int)
    have hul := usedL_len F 0
    have hlf := f1.lf
    obtain ⟨x, s, s1, s2⟩ := solve_ful hn0 hn (lines_ok hV.e f1.lf) (by
      rw [lines_len]
      have := Int.mul_le_mul_of_nonneg_left (show ((D.length + (usedL F 0).length : Nat) : Int) ≤ 2 * D.length by push_cast; omega) (show (0 : Int) ≤ n by omega)
      omega) f2
    have hst := strong f1 hV.e s2.z (fun k k0 k1 => (s2.e k k0 k1).2.2.2.2)
    exact ⟨costF D F, true, 0, x, F, h1.bind (Ev.pos rfl (Ev.pos rfl (c1.bind (Ev.now _)))), h1.bind (Ev.pos rfl (Ev.pos rfl (s1.bind (Ev.now _)))), h1.bind (Ev.pos rfl (Ev.pos rfl (Ev.now _))), ⟨fun h => absurd hw h, fun _ h => absurd hs h, fun _ _ => ⟨rfl, fun _ => ⟨F, rd x, f1, hst.1, rfl, hst.2⟩, fun h => by cases h⟩, c2⟩, fun _ _ _ => ⟨s2.of_lines, hst.2, ⟨hw, f1, f3, Int.le_refl _⟩⟩, fun h => by cases h⟩
  | false =>
    have hno := h2.no hw hs rfl
    exact ⟨0, false, 0, [], [], h1.bind (Ev.pos rfl (Ev.neg (by simp) (Ev.now _))), h1.bind (Ev.pos rfl (Ev.neg (by simp) (Ev.now _))), h1.bind (Ev.pos rfl (Ev.neg (by simp) (Ev.now _))), ⟨fun h => absurd hw h, fun _ h => absurd hs h, fun _ _ => ⟨rfl, ⟨fun h => (by cases h), fun _ => ⟨rfl, hno⟩⟩⟩, by omega⟩, fun _ _ h => (by cases h), fun _ => ⟨rfl, rfl⟩⟩
end
end Go.Proofs.Ytpolojoeabmhdaa.A
namespace Go.Proofs.Ytpolojoeabmhdaa.A
open Go.RowKit Go.Proofs.YtpolojoeabmhdaaW.PrintWords Go.Proofs.YtpolojoeabmhdaaW.PrintLast Go.Proofs.YtpolojoeabmhdaaW.PrintMore
attribute [local go_sem] max2_int min2_int max_two min_two max_three min_three max_four min_four
def snowlinelaw04_small.f (a0_0 : Int) (l0_1 : List (S39)) : Option (Bool) := if a0_0 ≤ 16 then (some (decide ((l0_1.length : Int) ≤ 60))) else (some false)
set_option maxHeartbeats 8000000 in
set_option maxRecDepth 100000 in
theorem snowlinelaw04_small.calls (a0_0 : Int) (A0_1 : Option Addr) (c0_1 : Nat) (l0_1 : List (S39)) (r : Bool) (w : World) (hr0_1 : Kd.C k39 w A0_1 l0_1.length l0_1) (hc0_1 : l0_1.length ≤ c0_1) (h : snowlinelaw04_small.f a0_0 l0_1 = some r) :
    Calls Try.prog 23 #[.agg #[.int .i64 a0_0, .slice A0_1 l0_1.length c0_1]] w fun e w' => e = .returned (.bool r) ∧ Below w.heap.size w w' := by
  have hu24 := Try.underlying24; have HR0_1 := Z_ hr0_1; have HC0_1 := Z_ hc0_1; clear hr0_1 hc0_1; have HB := Z_ (Below.refl w.heap.size w); have H : (if a0_0 ≤ 16 then (some (decide ((l0_1.length : Int) ≤ 60))) else (some false)) = some r := h; clear h; by_cases c2 : a0_0 ≤ 16
  · rw [if_pos c2] at H
    have c2b0 : decide (a0_0 ≤ 16) = true := eT_ c2; clear c2; obtain rfl := oI_ H; go_enter Try.func23, Try.ntmps23; go_wp2_with (first | ((with_reducible refine gate_dst (N := 1) rfl ?_); (try (refine gate_guard (by rfl) ?_; dsimp only)); refine box_event ?hg (N := 1) ?hd (cs := #[.int .i64 a0_0, .slice A0_1 l0_1.length c0_1]) (t := 24) ?hr ?_; (case hd => rfl); (case hg => rfl); (case hr => first | (go_simp; done) | (go_simp; rfl)); intro gb338 hg w3 hbox hb; have n0_ := Z_ (fS_ (by repeat (first | (with_reducible first | exact HB.out | apply fA_ | apply pB_ | apply fD_) | exact HB.out)) hb); have n1_ := Z_ (hbox); have n2_ := Z_ ((by rw [hg]; exact (fZ_ (by repeat (first | (with_reducible first | exact HB.out | apply fA_ | apply pB_ | apply fD_) | exact HB.out))) : w.heap.size ≤ gb338)); have n3_ := Z_ ((by rw [hg]; exact (fZ_ (by repeat (first | (with_reducible first | exact HB.out | apply fA_ | apply pB_ | apply fD_) | exact HB.out))) : w.heap.size ≤ gb338)); clear HB; have HB := n0_; have BK338 := n1_; have GW338 := n2_; have GE338 := n3_; clear n0_ n1_ n2_ n3_; clear hb hbox hg; have hcz4_0 : w3.cell? ⟨gb338, 0, none⟩ = some (.int .i64 a0_0) := (bC_ BK338.out 0).trans rfl; have hcz4_1 : w3.cell? ⟨gb338, 1, none⟩ = some (.slice A0_1 l0_1.length c0_1) := (bC_ BK338.out 1).trans rfl; have hfz4_0 := bF_ BK338.out 0; have hfz4_1 := bF_ BK338.out 1)); go_ret; exact ⟨by first | rfl | (simp [errW_none, errW_some] <;> rfl) | (simp [*, errW_none, errW_some] <;> rfl), by repeat (first | (with_reducible first | exact HB.out | apply fA_ | apply pB_ | apply fD_ | refine fE_ ?_ GE338.out) | exact HB.out)⟩
  rw [if_neg c2] at H; have c2b0 : decide (a0_0 ≤ 16) = false := eF_ c2; clear c2; obtain rfl := oI_ H; go_enter Try.func23, Try.ntmps23; go_wp2_with (first | ((with_reducible refine gate_dst (N := 1) rfl ?_); (try (refine gate_guard (by rfl) ?_; dsimp only)); refine box_event ?hg (N := 1) ?hd (cs := #[.int .i64 a0_0, .slice A0_1 l0_1.length c0_1]) (t := 24) ?hr ?_; (case hd => rfl); (case hg => rfl); (case hr => first | (go_simp; done) | (go_simp; rfl)); intro gb338 hg w5 hbox hb; have n0_ := Z_ (fS_ (by repeat (first | (with_reducible first | exact HB.out | apply fA_ | apply pB_ | apply fD_) | exact HB.out)) hb); have n1_ := Z_ (hbox); have n2_ := Z_ ((by rw [hg]; exact (fZ_ (by repeat (first | (with_reducible first | exact HB.out | apply fA_ | apply pB_ | apply fD_) | exact HB.out))) : w.heap.size ≤ gb338)); have n3_ := Z_ ((by rw [hg]; exact (fZ_ (by repeat (first | (with_reducible first | exact HB.out | apply fA_ | apply pB_ | apply fD_) | exact HB.out))) : w.heap.size ≤ gb338)); clear HB; have HB := n0_; have BK338 := n1_; have GW338 := n2_; have GE338 := n3_; clear n0_ n1_ n2_ n3_; clear hb hbox hg; have hcz6_0 : w5.cell? ⟨gb338, 0, none⟩ = some (.int .i64 a0_0) := (bC_ BK338.out 0).trans rfl; have hcz6_1 : w5.cell? ⟨gb338, 1, none⟩ = some (.slice A0_1 l0_1.length c0_1) := (bC_ BK338.out 1).trans rfl; have hfz6_0 := bF_ BK338.out 0; have hfz6_1 := bF_ BK338.out 1)); go_ret; exact ⟨by first | rfl | (simp [errW_none, errW_some] <;> rfl) | (simp [*, errW_none, errW_some] <;> rfl), by repeat (first | (with_reducible first | exact HB.out | apply fA_ | apply pB_ | apply fD_ | refine fE_ ?_ GE338.out) | exact HB.out)⟩
end Go.Proofs.Ytpolojoeabmhdaa.A
