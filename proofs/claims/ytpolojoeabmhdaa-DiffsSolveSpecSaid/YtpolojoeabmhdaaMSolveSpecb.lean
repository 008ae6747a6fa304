import Derived.Test.YtpolojoeabmhdaaMSolveSpeca
import Derived.Test.YtpolojoeabmhdaaMZcoreb
import Derived.Test.YtpolojoeabmhdaaMZcored
import Derived.Test.YtpolojoeabmhdaaMZcoree
import Derived.Test.YtpolojoeabmhdaaMZcoref
set_option linter.unusedVariables false
set_option linter.unusedSimpArgs false
namespace Go.Proofs.Ytpolojoeabmhdaa.A
open Go.RowKit Go.Proofs.YtpolojoeabmhdaaW.PrintWords Go.Proofs.YtpolojoeabmhdaaW.PrintLast Go.Proofs.YtpolojoeabmhdaaW.PrintMore
attribute [local go_sem] max2_int min2_int max_two min_two max_three min_three max_four min_four
mutual
def snowlineref04_indices.l0 : Nat → List Int → Int → Int → List (S39) → Option (Bool)
 | 0, _, _, _, _ => none
 | k + 1, x1, x5, x779000, x779001 => if x5 < (x1.length : Int) then (if 0 ≤ x5 then (if (rd x1 x5) < 0 then (snowlineref04_indices.j1 k x1 x5 true x779000 x779001) else (snowlineref04_indices.j1 k x1 x5 (decide ((rd x1 x5) ≥ (x779001.length : Int))) x779000 x779001)) else (none)) else (some true)
def snowlineref04_indices.j1 : Nat → List Int → Int → Bool → Int → List (S39) → Option (Bool)
 | 0, _, _, _, _, _ => none
 | k + 1, x1, x5, x26, x779000, x779001 => if x26 = true then (some false) else (snowlineref04_indices.l0 k x1 (wrap64 (x5 + 1)) x779000 x779001)
end
def snowlineref04_indices.f (k : Nat) (a0_0 : Int) (l0_1 : List (S39)) (l1 : List Int) : Option (Bool) := snowlineref04_indices.l0 k l1 0 a0_0 l0_1
theorem snowlineref04_indices.mono_l : ∀ k, (∀ y0 y1 y2 y3, LeO (snowlineref04_indices.l0 k y0 y1 y2 y3) (snowlineref04_indices.l0 (k + 1) y0 y1 y2 y3)) ∧ (∀ y0 y1 y2 y3 y4, LeO (snowlineref04_indices.j1 k y0 y1 y2 y3 y4) (snowlineref04_indices.j1 (k + 1) y0 y1 y2 y3 y4))
 | 0 => ⟨fun _ _ _ _ r h => by simp [snowlineref04_indices.l0] at h, fun _ _ _ _ _ r h => by simp [snowlineref04_indices.j1] at h⟩
 | k + 1 => by
  obtain ⟨ih0, ih1⟩ := snowlineref04_indices.mono_l k; refine ⟨?_, ?_⟩ <;> intros <;> (first | unfold snowlineref04_indices.l0 | unfold snowlineref04_indices.j1) <;> repeat' first | (with_reducible first | exact ih0 _ _ _ _ | exact ih1 _ _ _ _ _ | exact LeO.refl _ | exact LeO.none _ | refine LeO.ite ?_ ?_ | refine LeO.bind ?_ (fun _ => ?_)) | exact ih0 _ _ _ _ | exact ih1 _ _ _ _ _ | exact LeO.none _ | refine LeO.ite ?_ ?_ | refine LeO.bind ?_ (fun _ => ?_)
theorem snowlineref04_indices.mono : ∀ a0 a1 a2 k, LeO (snowlineref04_indices.f k a0 a1 a2) (snowlineref04_indices.f (k + 1) a0 a1 a2) := by
 intro a0 a1 a2 k; obtain ⟨ih0, ih1⟩ := snowlineref04_indices.mono_l k; unfold snowlineref04_indices.f; repeat' first | (with_reducible first | exact ih0 _ _ _ _ | exact ih1 _ _ _ _ _ | exact LeO.refl _ | exact LeO.none _ | refine LeO.ite ?_ ?_ | refine LeO.bind ?_ (fun _ => ?_)) | exact ih0 _ _ _ _ | exact ih1 _ _ _ _ _ | exact LeO.none _ | refine LeO.ite ?_ ?_ | refine LeO.bind ?_ (fun _ => ?_)
set_option maxHeartbeats 8000000 in
set_option maxRecDepth 100000 in
theorem snowlineref04_indices.calls (k : Nat) (a0_0 : Int) (A0_1 : Option Addr) (c0_1 : Nat) (l0_1 : List (S39)) (A1 : Option Addr) (c1 : Nat) (l1 : List Int) (r : Bool) (w : World) (hr0_1 : Kd.C k39 w A0_1 l0_1.length l0_1) (hc0_1 : l0_1.length ≤ c0_1) (hr1 : Kd.C (Kd.int .i64) w A1 l1.length l1) (hc1 : l1.length ≤ c1) (h : snowlineref04_indices.f k a0_0 l0_1 l1 = some r) :
  Calls Try.prog 92 #[.agg #[.int .i64 a0_0, .slice A0_1 l0_1.length c0_1], .slice A1 l1.length c1] w fun e w' => e = .returned (.bool r) ∧ Below w.heap.size w w' := by
 have hu24 := Try.underlying24; have HR0_1 := Z_ hr0_1; have HC0_1 := Z_ hc0_1; clear hr0_1 hc0_1; have HR1 := Z_ hr1; have HC1 := Z_ hc1; clear hr1 hc1; have HB := Z_ (Below.refl w.heap.size w); have H : (snowlineref04_indices.l0 k l1 0 a0_0 l0_1) = some r := h; clear h; have H' := Z_ H; clear H; go_enter Try.func92, Try.ntmps92; go_wp2_with (first | ((with_reducible refine gate_dst (N := 2) rfl ?_); (try (refine gate_guard (by rfl) ?_; dsimp only)); refine bX_ 2 #[.int .i64 a0_0, .slice A0_1 l0_1.length c0_1] 24 ?_; intro gb778 hg w3 hbox hb; have BK778 := Z_ (hbox); have GW778 := Z_ ((by rw [hg]; exact (fZ_ hB_) : w.heap.size ≤ gb778)); have GE778 := Z_ ((by rw [hg]; exact (fZ_ hB_) : w.heap.size ≤ gb778)); replace HB := Z_ (fS_ hB_ hb); clear hb hbox hg)); repeat (go_quiet (first | ((with_reducible refine gate_dst (N := 2) rfl ?_); (try (refine gate_guard (by rfl) ?_; dsimp only)); refine bX_ 2 #[.int .i64 a0_0, .slice A0_1 l0_1.length c0_1] 24 ?_; intro gb778 hg w3 hbox hb; have BK778 := Z_ (hbox); have GW778 := Z_ ((by rw [hg]; exact (fZ_ hB_) : w.heap.size ≤ gb778)); have GE778 := Z_ ((by rw [hg]; exact (fZ_ hB_) : w.heap.size ≤ gb778)); replace HB := Z_ (fS_ hB_ hb); clear hb hbox hg)); try go_wp2_with (first | ((with_reducible refine gate_dst (N := 2) rfl ?_); (try (refine gate_guard (by rfl) ?_; dsimp only)); refine bX_ 2 #[.int .i64 a0_0, .slice A0_1 l0_1.length c0_1] 24 ?_; intro gb778 hg w3 hbox hb; have BK778 := Z_ (hbox); have GW778 := Z_ ((by rw [hg]; exact (fZ_ hB_) : w.heap.size ≤ gb778)); have GE778 := Z_ ((by rw [hg]; exact (fZ_ hB_) : w.heap.size ≤ gb778)); replace HB := Z_ (fS_ hB_ hb); clear hb hbox hg)))
 go_loopg [5] k (fun kq v5 w' => ∃ (x5_1 : Int), v5 = .int .i64 x5_1 ∧ Aside0 (snowlineref04_indices.l0 kq l1 x5_1 a0_0 l0_1 = some r) ∧ Aside0 (kq ≤ k) ∧ Aside0 (w'.heap[gb778]? = some (.cells #[.int .i64 a0_0, (.slice A0_1 l0_1.length c0_1)] 24 (0, 0))) ∧ Aside0 (Below w.heap.size w w'))
 case atStart => exact ⟨(0), rf_, H', ⟨nR_ _⟩, ⟨bR_ BK778.out⟩, ⟨hB_⟩⟩
 case round =>
  clear H'; (try clear c1); (try clear p2)
  obtain ⟨x5_1, rfl, HA, HK1, BK778, HB⟩ := hrel
  cases gk with
  | zero => exact absurd HA.out (by simp [snowlineref04_indices.l0])
  | succ k1 =>
   have H := HA.out; clear HA; simp only [snowlineref04_indices.l0] at H; by_cases c4 : x5_1 < (l1.length : Int)
   ·rw [if_pos c4] at H
    have c4b0 : decide (x5_1 < (l1.length : Int)) = true := eT_ c4; clear c4; have HC5 := Z_ H; clear H; go_upto_region 4 with (fail); repeat (go_quiet (fail); go_upto_region 4 with (fail))
    go_cut [26] (fun v26 wc => ∃ (kq : Nat) (x26_4 : Bool), v26 = .bool x26_4 ∧ Aside0 (snowlineref04_indices.j1 kq l1 x5_1 x26_4 a0_0 l0_1 = some r) ∧ Aside0 (kq ≤ k1) ∧ Aside0 (wc.heap[gb778]? = some (.cells #[.int .i64 a0_0, (.slice A0_1 l0_1.length c0_1)] 24 (0, 0))) ∧ Aside0 (Below w.heap.size w wc))
    case first =>
     have H := HC5.out; clear HC5; by_cases c6 : 0 ≤ x5_1
     ·rw [if_pos c6] at H
      have c6b0 : decide (0 ≤ x5_1) = true := eT_ c6; clear c6; (first | rw [c6b0] | (simp only [i64_w, i32_w]; rw [c6b0]) | skip)
      by_cases c7 : (rd l1 x5_1) < 0
      ·rw [if_pos c7] at H
       have c7b0 : decide ((rd l1 x5_1) < 0) = true := eT_ c7; clear c7; have H' := Z_ H; clear H; have p779 : 0 ≤ (x5_1 : Int) := dT_ as_; have q779 : x5_1 < (l1.length : Int) := dT_ as_; obtain ⟨ad779, e779, hx779_0⟩ := Kd.at_int HR1.out x5_1 p779 q779; cases e779
       replace hx779_0 := (HB.out.cell (World.block_lt_of_cell? w _ hx779_0)).trans hx779_0; replace p779 := eq_true p779; replace q779 := eq_true q779; go_wp2; repeat (go_quiet (fail); try go_wp2)
       go_meet
       case rel => exact ⟨_, (true), rf_, H', ⟨by have := HK1.out; first | omega | exact nR_ _⟩, ⟨bR_ BK778.out⟩, ⟨hB_⟩⟩
      rw [if_neg c7] at H; have c7b0 : decide ((rd l1 x5_1) < 0) = false := eF_ c7; clear c7; have H' := Z_ H; clear H; have p779 : 0 ≤ (x5_1 : Int) := dT_ as_; have q779 : x5_1 < (l1.length : Int) := dT_ as_; obtain ⟨ad779, e779, hx779_0⟩ := Kd.at_int HR1.out x5_1 p779 q779; cases e779
      replace hx779_0 := (HB.out.cell (World.block_lt_of_cell? w _ hx779_0)).trans hx779_0; replace p779 := eq_true p779; replace q779 := eq_true q779; have p780 : 0 ≤ (x5_1 : Int) := dT_ as_; have q780 : x5_1 < (l1.length : Int) := dT_ as_; obtain ⟨ad780, e780, hx780_0⟩ := Kd.at_int HR1.out x5_1 p780 q780; obtain rfl : ad779 = ad780 := (by injection e780); replace hx780_0 := (HB.out.cell (World.block_lt_of_cell? w _ hx780_0)).trans hx780_0; replace p780 := eq_true p780; replace q780 := eq_true q780; obtain ⟨⟨hcz8_0, hcz8_1⟩, hfz8_0, hfz8_1⟩ := f2_ BK778.out; go_wp2; repeat (go_quiet (fail); try go_wp2)
      go_meet
      case rel => exact ⟨_, (decide ((rd l1 x5_1) ≥ (l0_1.length : Int))), rf_, H', ⟨by have := HK1.out; first | omega | exact nR_ _⟩, ⟨bR_ BK778.out⟩, ⟨hB_⟩⟩
     rw [if_neg c6] at H; exact absurd H (by simp)
    case rest =>
     clear HC5; (try clear c1); (try clear p2); (try clear c4); (try clear c4b0); (try clear c6); (try clear c6b0); (try clear c7); (try clear c7b0); (try clear p7); (try clear q7); (try clear hx7); (try clear hcz8_0); (try clear hcz8_1); (try clear hfz8_0); (try clear hfz8_1); (try clear hx779_0); (try clear hx780_0); (try clear p2); (try clear p779); (try clear p780); (try clear q779); (try clear q780)
     obtain ⟨kq, x26_4, rfl, HA, HJ4, BK778, HB⟩ := hcut
     cases kq with
     | zero => exact absurd HA.out (by simp [snowlineref04_indices.j1])
     | succ kj4 =>
      have H := HA.out; clear HA; simp only [snowlineref04_indices.j1] at H; by_cases c9 : x26_4 = true
      ·subst c9
       rw [if_pos rfl] at H; obtain rfl := oI_ H; go_wp2; repeat (go_quiet (fail); try go_wp2)
       go_ret; exact ⟨eW_, hB_⟩
      replace c9 := bE_.mpr c9; subst c9; have H1 : (snowlineref04_indices.l0 kj4 l1 (wrap64 (x5_1 + 1)) a0_0 l0_1) = some r := by rw [if_neg (show ¬ (false = true) by decide)] at H; exact H
      clear H; have H := H1; clear H1; have H' := Z_ H; clear H; go_wp2; repeat (go_quiet (fail); try go_wp2)
      go_roundg kj4
      case measure => have := HK1.out; have := HJ4.out; omega
      case rel => exact ⟨(wrap64 (x5_1 + 1)), rf_, H', ⟨by have := HK1.out; have := HJ4.out; omega⟩, ⟨bR_ BK778.out⟩, ⟨hB_⟩⟩
   rw [if_neg c4] at H; have c4b0 : decide (x5_1 < (l1.length : Int)) = false := eF_ c4; clear c4; obtain rfl := oI_ H; go_wp2; repeat (go_quiet (fail); try go_wp2)
   go_ret; exact ⟨eW_, hB_⟩
def snowlineref04_walk.l0 : Nat → Int → List Int → Int → Int → Int → Int → List (S39) → Option (Int × Bool)
 | 0, _, _, _, _, _, _, _ => none
 | k + 1, x2, x3, x10, x11, x12, x782000, x782001 => if x12 < (x3.length : Int) then (if 0 ≤ x12 then (if 0 ≤ (rd x3 x12) then (if (rd x3 x12) < (x782001.length : Int) then (if ((rd_T39 x782001 (rd x3 x12)).f0) = x10 then (snowlineref04_walk.l0 k x2 x3 ((rd_T39 x782001 (rd x3 x12)).f1) (wrap64 (x11 + ((rd_T39 x782001 (rd x3 x12)).f2))) (wrap64 (x12 + 1)) x782000 x782001) else (some (0, false))) else (none)) else (none)) else (none)) else (some (x11, (x10 == x2)))
def snowlineref04_walk.f (k : Nat) (a0_0 : Int) (l0_1 : List (S39)) (a1 : Int) (a2 : Int) (l3 : List Int) : Option (Int × Bool) := snowlineref04_walk.l0 k a2 l3 a1 0 0 a0_0 l0_1
theorem snowlineref04_walk.mono_l : ∀ k, (∀ y0 y1 y2 y3 y4 y5 y6, LeO (snowlineref04_walk.l0 k y0 y1 y2 y3 y4 y5 y6) (snowlineref04_walk.l0 (k + 1) y0 y1 y2 y3 y4 y5 y6))
 | 0 => fun _ _ _ _ _ _ _ r h => by simp [snowlineref04_walk.l0] at h
 | k + 1 => by
  have ih0 := snowlineref04_walk.mono_l k; intro y0 y1 y2 y3 y4 y5 y6; unfold snowlineref04_walk.l0; repeat' first | (with_reducible first | exact ih0 _ _ _ _ _ _ _ | exact LeO.refl _ | exact LeO.none _ | refine LeO.ite ?_ ?_ | refine LeO.bind ?_ (fun _ => ?_)) | exact ih0 _ _ _ _ _ _ _ | exact LeO.none _ | refine LeO.ite ?_ ?_ | refine LeO.bind ?_ (fun _ => ?_)
theorem snowlineref04_walk.mono : ∀ a0 a1 a2 a3 a4 k, LeO (snowlineref04_walk.f k a0 a1 a2 a3 a4) (snowlineref04_walk.f (k + 1) a0 a1 a2 a3 a4) := by
 intro a0 a1 a2 a3 a4 k; have ih0 := snowlineref04_walk.mono_l k; unfold snowlineref04_walk.f; repeat' first | (with_reducible first | exact ih0 _ _ _ _ _ _ _ | exact LeO.refl _ | exact LeO.none _ | refine LeO.ite ?_ ?_ | refine LeO.bind ?_ (fun _ => ?_)) | exact ih0 _ _ _ _ _ _ _ | exact LeO.none _ | refine LeO.ite ?_ ?_ | refine LeO.bind ?_ (fun _ => ?_)
def snowlineref04_walk.T5 : Bool × List (List Nat × List Nat) := (true, [([], []), ([0], [0]), ([], []), ([], []), ([2, 3], [2, 3]), ([4], [4]), ([1, 5], [1, 5]), ([6], [6]), ([], []), ([8, 7, 0, 1, 2, 3, 4, 5, 6, 7, 8], [7, 8])])
def snowlineref04_walk.B5 : List Nat := [0, 1, 0, 0, 12, 28, 63, 127, 0, 511]
theorem snowlineref04_walk.tab5 : rtab .any (opsOf Try.f93 5) = snowlineref04_walk.T5 := by kernel_rfl
theorem snowlineref04_walk.bits5 : waitsOk snowlineref04_walk.T5.2 snowlineref04_walk.B5 = true := by kernel_rfl
set_option maxHeartbeats 8000000 in
set_option maxRecDepth 100000 in
theorem snowlineref04_walk.calls (k : Nat) (a0_0 : Int) (A0_1 : Option Addr) (c0_1 : Nat) (l0_1 : List (S39)) (a1 : Int) (a2 : Int) (A3 : Option Addr) (c3 : Nat) (l3 : List Int) (r1 : Int) (r2 : Bool) (w : World) (hr0_1 : Kd.C k39 w A0_1 l0_1.length l0_1) (hc0_1 : l0_1.length ≤ c0_1) (hr3 : Kd.C (Kd.int .i64) w A3 l3.length l3) (hc3 : l3.length ≤ c3) (h : snowlineref04_walk.f k a0_0 l0_1 a1 a2 l3 = some (r1, r2)) :
  Calls Try.prog 93 #[.agg #[.int .i64 a0_0, .slice A0_1 l0_1.length c0_1], .int .i64 a1, .int .i64 a2, .slice A3 l3.length c3] w fun e w' => e = .returned (.tuple #[.int .i64 r1, .bool r2]) ∧ Below w.heap.size w w' := by
 have hu24 := Try.underlying24; have hu39 := Try.underlying39; have HR0_1 := Z_ hr0_1; have HC0_1 := Z_ hc0_1; clear hr0_1 hc0_1; have HR3 := Z_ hr3; have HC3 := Z_ hc3; clear hr3 hc3; have HB := Z_ (Below.refl w.heap.size w); have H : (snowlineref04_walk.l0 k a2 l3 a1 0 0 a0_0 l0_1) = some (r1, r2) := h; clear h; have H' := Z_ H; clear H; go_enter Try.func93, Try.ntmps93; go_wp2_with (first | ((with_reducible refine gate_dst (N := 4) rfl ?_); refine bX_ 4 #[.int .i64 a0_0, .slice A0_1 l0_1.length c0_1] 24 ?_; intro gb781 hg w5 hbox hb; have BK781 := Z_ (hbox); have GW781 := Z_ ((by rw [hg]; exact (fZ_ hB_) : w.heap.size ≤ gb781)); have GE781 := Z_ ((by rw [hg]; exact (fZ_ hB_) : w.heap.size ≤ gb781)); replace HB := Z_ (fS_ hB_ hb); clear hb hbox hg)); go_loopg [10, 11, 12] k (fun kq v10 v11 v12 w' => ∃ (x10_1 : Int) (x11_1 : Int) (x12_1 : Int), v10 = .int .i64 x10_1 ∧ v11 = .int .i64 x11_1 ∧ v12 = .int .i64 x12_1 ∧ Aside0 (snowlineref04_walk.l0 kq a2 l3 x10_1 x11_1 x12_1 a0_0 l0_1 = some (r1, r2)) ∧ Aside0 (kq ≤ k) ∧ Aside0 (w'.heap[gb781]? = some (.cells #[.int .i64 a0_0, (.slice A0_1 l0_1.length c0_1)] 24 (0, 0))) ∧ Aside0 (Below w.heap.size w w'))
 case atStart => exact ⟨(a1), (0), (0), rf_, rf_, rf_, H', ⟨nR_ _⟩, ⟨bR_ BK781.out⟩, ⟨hB_⟩⟩
 case round =>
  clear H'; (try clear p2); (try clear c3)
  obtain ⟨x10_1, x11_1, x12_1, rfl, rfl, rfl, HA, HK1, BK781, HB⟩ := hrel
  cases gk with
  | zero => exact absurd HA.out (by simp [snowlineref04_walk.l0])
  | succ k1 =>
   have H := HA.out; clear HA; simp only [snowlineref04_walk.l0] at H; by_cases c6 : x12_1 < (l3.length : Int)
   ·rw [if_pos c6] at H
    have c6b0 : decide (x12_1 < (l3.length : Int)) = true := eT_ c6; clear c6; by_cases c7 : 0 ≤ x12_1
    ·rw [if_pos c7] at H
     have c7b0 : decide (0 ≤ x12_1) = true := eT_ c7; clear c7; by_cases c8 : 0 ≤ (rd l3 x12_1)
     ·rw [if_pos c8] at H
      have c8b0 : decide (0 ≤ (rd l3 x12_1)) = true := eT_ c8; clear c8; by_cases c9 : (rd l3 x12_1) < (l0_1.length : Int)
      ·rw [if_pos c9] at H
       have c9b0 : decide ((rd l3 x12_1) < (l0_1.length : Int)) = true := eT_ c9; clear c9; have HF10 := Z_ H; clear H; try go_wp2
       replace BK781 := Z_ (bD_ BK781.out); replace HB := Z_ (fD_ HB.out); have p782 : 0 ≤ (x12_1 : Int) := dT_ as_; have q782 : x12_1 < (l3.length : Int) := dT_ as_; obtain ⟨ad782, e782, hx782_0⟩ := Kd.at_int HR3.out x12_1 p782 q782; have hw782_0 := hx782_0; cases e782
       replace hx782_0 := (HB.out.cell (World.block_lt_of_cell? w _ hx782_0)).trans hx782_0; replace p782 := eq_true p782; replace q782 := eq_true q782; have p783 : 0 ≤ ((rd l3 x12_1) : Int) := dT_ as_; have q783 : (rd l3 x12_1) < (l0_1.length : Int) := dT_ as_; obtain ⟨ad783, e783, hx783_0, hx783_1, hx783_2⟩ := at_T39 HR0_1.out (rd l3 x12_1) p783 q783; have hw783_2 := hx783_2; have hw783_1 := hx783_1; have hw783_0 := hx783_0; cases e783
       replace hx783_0 := (HB.out.cell (World.block_lt_of_cell? w _ hx783_0)).trans hx783_0; replace hx783_1 := (HB.out.cell (World.block_lt_of_cell? w _ hx783_1)).trans hx783_1; replace hx783_2 := (HB.out.cell (World.block_lt_of_cell? w _ hx783_2)).trans hx783_2; replace p783 := eq_true p783; replace q783 := eq_true q783; refine start_ (n := 10) (S := fun w' => w'.cell? ⟨gb781, 0, none⟩ = some (.int .i64 a0_0) ∧ w'.cell? ⟨gb781, 1, none⟩ = some (.slice (some ad783) l0_1.length c0_1) ∧ w'.cell? (ad782.add (x12_1).toNat) = some (.int .i64 (rd l3 x12_1)) ∧ w'.cell? (ad783.add (((rd l3 x12_1)).toNat * 3)) = some (.int .i64 ((rd_T39 l0_1 (rd l3 x12_1)).f0)) ∧ w'.cell? ⟨(ad783.add (((rd l3 x12_1)).toNat * 3)).block, (ad783.add (((rd l3 x12_1)).toNat * 3)).off + 1, none⟩ = some (.int .i64 ((rd_T39 l0_1 (rd l3 x12_1)).f1)) ∧ w'.cell? ⟨(ad783.add (((rd l3 x12_1)).toNat * 3)).block, (ad783.add (((rd l3 x12_1)).toNat * 3)).off + 2, none⟩ = some (.int .i64 ((rd_T39 l0_1 (rd l3 x12_1)).f2))) (ds := []) #[false, false, false, false, false, false, false, false, false, false] (by kernel_rfl) rfl rfl ⟨(bC_ BK781.out 0).trans rfl, (bC_ BK781.out 1).trans rfl, ((HB.out.cell (World.block_lt_of_cell? w _ hw782_0)).trans hw782_0), ((HB.out.cell (World.block_lt_of_cell? w _ hw783_0)).trans hw783_0), ((HB.out.cell (World.block_lt_of_cell? w _ hw783_1)).trans hw783_1), ((HB.out.cell (World.block_lt_of_cell? w _ hw783_2)).trans hw783_2)⟩ (fun hHeld => ?_); refine with_tabW snowlineref04_walk.tab5 snowlineref04_walk.bits5 (fun HT_ HW_ => ?_); generalize wr.drew = w11 at BK781 HB hx782_0 hx783_0 hx783_1 hx783_2 hHeld ⊢; refine pP_ 0 21 ?_; refine pP_ 2 23 ?_; refine pP_ 3 24 ?_; refine pP_ 4 25 ?_; refine pT_ 1 22 ?_; refine pT_ 5 26 ?_; refine pP_ 6 27 ?_; refine pT_ 7 28 ?_; refine oN_ 8 (some 13) (fun K hK => ?_); refine box_step ?hg (N := 13) ?hd (cs := #[.int .i64 0, .int .i64 0, .int .i64 0]) (t := 39) ?hr ?_; (case hd => rfl); (case hg => rfl); (case hr => first | (go_simp; done) | (go_simp; rfl)); intro gb784 hg w12 hbox hb; have BK784 := Z_ (hbox); have GW784 := Z_ ((by rw [hg]; exact (fZ_ hB_) : w.heap.size ≤ gb784)); have GE784 := Z_ ((by rw [hg]; exact (fZ_ hB_) : w.heap.size ≤ gb784)); replace HB := Z_ (fS_ hB_ hb); have NB781_784 := Z_ ((by rw [hg]; exact Nat.ne_of_lt (blk_lt (g := gb781) (o := .cells #[.int .i64 a0_0, .slice (some ad783) l0_1.length c0_1] 24 (0, 0)) (bR_ BK781.out)) : gb781 ≠ gb784)); have NB784_781 := Z_ ((by rw [hg]; exact Nat.ne_of_gt (blk_lt (g := gb781) (o := .cells #[.int .i64 a0_0, .slice (some ad783) l0_1.length c0_1] 24 (0, 0)) (bR_ BK781.out)) : gb784 ≠ gb781)); replace BK781 := Z_ (bB_ (g := gb781) (o := .cells #[.int .i64 a0_0, .slice (some ad783) l0_1.length c0_1] 24 (0, 0)) (bR_ BK781.out) hb); clear hb hbox hg; refine hK.out _ _ ⟨(bC_ BK781.out 0).trans rfl, (bC_ BK781.out 1).trans rfl, ((HB.out.cell (World.block_lt_of_cell? w _ hw782_0)).trans hw782_0), ((HB.out.cell (World.block_lt_of_cell? w _ hw783_0)).trans hw783_0), ((HB.out.cell (World.block_lt_of_cell? w _ hw783_1)).trans hw783_1), ((HB.out.cell (World.block_lt_of_cell? w _ hw783_2)).trans hw783_2)⟩ (fun hHeld => ?_); clear hK K; refine nP_ 13 ?_; refine oN_ 9 none (fun K hK => ?_); have hs13 : w12.cell? ⟨gb784, 0, none⟩ = some (.int .i64 0) := (bC_ BK784.out 0).trans rfl; have hfs13 := bF_ BK784.out 0; have hns13_0 := NB781_784.out; have hms13_0 := NB784_781.out; have hs14 : w12.cell? ⟨gb784, 1, none⟩ = some (.int .i64 0) := (bC_ BK784.out 1).trans rfl; have hfs14 := bF_ BK784.out 1; have hns14_0 := NB781_784.out; have hms14_0 := NB784_781.out; have hs15 : w12.cell? ⟨gb784, 2, none⟩ = some (.int .i64 0) := (bC_ BK784.out 2).trans rfl; have hfs15 := bF_ BK784.out 2; have hns15_0 := NB781_784.out; have hms15_0 := NB784_781.out; refine skip_ (w1 := ?_) (by rfl) rfl ?_ ?_; rotate_left
       ·go_simp
        rfl
       refine hK.out _ _ ⟨((cell_far (p := ⟨gb784, _, none⟩) NB781_784.out _).trans (((cell_far (p := ⟨gb784, _, none⟩) NB781_784.out _).trans (((cell_far (p := ⟨gb784, _, none⟩) NB781_784.out _).trans (hHeld.1)))))), ((cell_far (p := ⟨gb784, _, none⟩) NB781_784.out _).trans (((cell_far (p := ⟨gb784, _, none⟩) NB781_784.out _).trans (((cell_far (p := ⟨gb784, _, none⟩) NB781_784.out _).trans (hHeld.2.1)))))), ((cell_far (p := ⟨gb784, _, none⟩) (by first | exact Nat.ne_of_lt (Nat.lt_of_lt_of_le (by have := World.block_lt_of_cell? _ _ hw782_0; first | rwa [add_block] at this | exact this) GW784.out) | (rw [add_block]; exact Nat.ne_of_lt (Nat.lt_of_lt_of_le (by have := World.block_lt_of_cell? _ _ hw782_0; first | rwa [add_block] at this | exact this) GW784.out)) | (show (Addr.add _ _).block ≠ _; rw [add_block]; exact Nat.ne_of_lt (Nat.lt_of_lt_of_le (by have := World.block_lt_of_cell? _ _ hw782_0; first | rwa [add_block] at this | exact this) GW784.out)) | (dsimp only; exact Nat.ne_of_lt (Nat.lt_of_lt_of_le (by have := World.block_lt_of_cell? _ _ hw782_0; first | rwa [add_block] at this | exact this) GW784.out))) _).trans (((cell_far (p := ⟨gb784, _, none⟩) (by first | exact Nat.ne_of_lt (Nat.lt_of_lt_of_le (by have := World.block_lt_of_cell? _ _ hw782_0; first | rwa [add_block] at this | exact this) GW784.out) | (rw [add_block]; exact Nat.ne_of_lt (Nat.lt_of_lt_of_le (by have := World.block_lt_of_cell? _ _ hw782_0; first | rwa [add_block] at this | exact this) GW784.out)) | (show (Addr.add _ _).block ≠ _; rw [add_block]; exact Nat.ne_of_lt (Nat.lt_of_lt_of_le (by have := World.block_lt_of_cell? _ _ hw782_0; first | rwa [add_block] at this | exact this) GW784.out)) | (dsimp only; exact Nat.ne_of_lt (Nat.lt_of_lt_of_le (by have := World.block_lt_of_cell? _ _ hw782_0; first | rwa [add_block] at this | exact this) GW784.out))) _).trans (((cell_far (p := ⟨gb784, _, none⟩) (by first | exact Nat.ne_of_lt (Nat.lt_of_lt_of_le (by have := World.block_lt_of_cell? _ _ hw782_0; first | rwa [add_block] at this | exact this) GW784.out) | (rw [add_block]; exact Nat.ne_of_lt (Nat.lt_of_lt_of_le (by have := World.block_lt_of_cell? _ _ hw782_0; first | rwa [add_block] at this | exact this) GW784.out)) | (show (Addr.add _ _).block ≠ _; rw [add_block]; exact Nat.ne_of_lt (Nat.lt_of_lt_of_le (by have := World.block_lt_of_cell? _ _ hw782_0; first | rwa [add_block] at this | exact this) GW784.out)) | (dsimp only; exact Nat.ne_of_lt (Nat.lt_of_lt_of_le (by have := World.block_lt_of_cell? _ _ hw782_0; first | rwa [add_block] at this | exact this) GW784.out))) _).trans (hHeld.2.2.1)))))), ((cell_far (p := ⟨gb784, _, none⟩) (by first | exact Nat.ne_of_lt (Nat.lt_of_lt_of_le (by have := World.block_lt_of_cell? _ _ hw783_0; first | rwa [add_block] at this | exact this) GW784.out) | (rw [add_block]; exact Nat.ne_of_lt (Nat.lt_of_lt_of_le (by have := World.block_lt_of_cell? _ _ hw783_0; first | rwa [add_block] at this | exact this) GW784.out)) | (show (Addr.add _ _).block ≠ _; rw [add_block]; exact Nat.ne_of_lt (Nat.lt_of_lt_of_le (by have := World.block_lt_of_cell? _ _ hw783_0; first | rwa [add_block] at this | exact this) GW784.out)) | (dsimp only; exact Nat.ne_of_lt (Nat.lt_of_lt_of_le (by have := World.block_lt_of_cell? _ _ hw783_0; first | rwa [add_block] at this | exact this) GW784.out))) _).trans (((cell_far (p := ⟨gb784, _, none⟩) (by first | exact Nat.ne_of_lt (Nat.lt_of_lt_of_le (by have := World.block_lt_of_cell? _ _ hw783_0; first | rwa [add_block] at this | exact this) GW784.out) | (rw [add_block]; exact Nat.ne_of_lt (Nat.lt_of_lt_of_le (by have := World.block_lt_of_cell? _ _ hw783_0; first | rwa [add_block] at this | exact this) GW784.out)) | (show (Addr.add _ _).block ≠ _; rw [add_block]; exact Nat.ne_of_lt (Nat.lt_of_lt_of_le (by have := World.block_lt_of_cell? _ _ hw783_0; first | rwa [add_block] at this | exact this) GW784.out)) | (dsimp only; exact Nat.ne_of_lt (Nat.lt_of_lt_of_le (by have := World.block_lt_of_cell? _ _ hw783_0; first | rwa [add_block] at this | exact this) GW784.out))) _).trans (((cell_far (p := ⟨gb784, _, none⟩) (by first | exact Nat.ne_of_lt (Nat.lt_of_lt_of_le (by have := World.block_lt_of_cell? _ _ hw783_0; first | rwa [add_block] at this | exact this) GW784.out) | (rw [add_block]; exact Nat.ne_of_lt (Nat.lt_of_lt_of_le (by have := World.block_lt_of_cell? _ _ hw783_0; first | rwa [add_block] at this | exact this) GW784.out)) | (show (Addr.add _ _).block ≠ _; rw [add_block]; exact Nat.ne_of_lt (Nat.lt_of_lt_of_le (by have := World.block_lt_of_cell? _ _ hw783_0; first | rwa [add_block] at this | exact this) GW784.out)) | (dsimp only; exact Nat.ne_of_lt (Nat.lt_of_lt_of_le (by have := World.block_lt_of_cell? _ _ hw783_0; first | rwa [add_block] at this | exact this) GW784.out))) _).trans (hHeld.2.2.2.1)))))), ((cell_far (p := ⟨gb784, _, none⟩) (by first | exact Nat.ne_of_lt (Nat.lt_of_lt_of_le (by have := World.block_lt_of_cell? _ _ hw783_1; first | rwa [add_block] at this | exact this) GW784.out) | (rw [add_block]; exact Nat.ne_of_lt (Nat.lt_of_lt_of_le (by have := World.block_lt_of_cell? _ _ hw783_1; first | rwa [add_block] at this | exact this) GW784.out)) | (show (Addr.add _ _).block ≠ _; rw [add_block]; exact Nat.ne_of_lt (Nat.lt_of_lt_of_le (by have := World.block_lt_of_cell? _ _ hw783_1; first | rwa [add_block] at this | exact this) GW784.out)) | (dsimp only; exact Nat.ne_of_lt (Nat.lt_of_lt_of_le (by have := World.block_lt_of_cell? _ _ hw783_1; first | rwa [add_block] at this | exact this) GW784.out))) _).trans (((cell_far (p := ⟨gb784, _, none⟩) (by first | exact Nat.ne_of_lt (Nat.lt_of_lt_of_le (by have := World.block_lt_of_cell? _ _ hw783_1; first | rwa [add_block] at this | exact this) GW784.out) | (rw [add_block]; exact Nat.ne_of_lt (Nat.lt_of_lt_of_le (by have := World.block_lt_of_cell? _ _ hw783_1; first | rwa [add_block] at this | exact this) GW784.out)) | (show (Addr.add _ _).block ≠ _; rw [add_block]; exact Nat.ne_of_lt (Nat.lt_of_lt_of_le (by have := World.block_lt_of_cell? _ _ hw783_1; first | rwa [add_block] at this | exact this) GW784.out)) | (dsimp only; exact Nat.ne_of_lt (Nat.lt_of_lt_of_le (by have := World.block_lt_of_cell? _ _ hw783_1; first | rwa [add_block] at this | exact this) GW784.out))) _).trans (((cell_far (p := ⟨gb784, _, none⟩) (by first | exact Nat.ne_of_lt (Nat.lt_of_lt_of_le (by have := World.block_lt_of_cell? _ _ hw783_1; first | rwa [add_block] at this | exact this) GW784.out) | (rw [add_block]; exact Nat.ne_of_lt (Nat.lt_of_lt_of_le (by have := World.block_lt_of_cell? _ _ hw783_1; first | rwa [add_block] at this | exact this) GW784.out)) | (show (Addr.add _ _).block ≠ _; rw [add_block]; exact Nat.ne_of_lt (Nat.lt_of_lt_of_le (by have := World.block_lt_of_cell? _ _ hw783_1; first | rwa [add_block] at this | exact this) GW784.out)) | (dsimp only; exact Nat.ne_of_lt (Nat.lt_of_lt_of_le (by have := World.block_lt_of_cell? _ _ hw783_1; first | rwa [add_block] at this | exact this) GW784.out))) _).trans (hHeld.2.2.2.2.1)))))), ((cell_far (p := ⟨gb784, _, none⟩) (by first | exact Nat.ne_of_lt (Nat.lt_of_lt_of_le (by have := World.block_lt_of_cell? _ _ hw783_2; first | rwa [add_block] at this | exact this) GW784.out) | (rw [add_block]; exact Nat.ne_of_lt (Nat.lt_of_lt_of_le (by have := World.block_lt_of_cell? _ _ hw783_2; first | rwa [add_block] at this | exact this) GW784.out)) | (show (Addr.add _ _).block ≠ _; rw [add_block]; exact Nat.ne_of_lt (Nat.lt_of_lt_of_le (by have := World.block_lt_of_cell? _ _ hw783_2; first | rwa [add_block] at this | exact this) GW784.out)) | (dsimp only; exact Nat.ne_of_lt (Nat.lt_of_lt_of_le (by have := World.block_lt_of_cell? _ _ hw783_2; first | rwa [add_block] at this | exact this) GW784.out))) _).trans (((cell_far (p := ⟨gb784, _, none⟩) (by first | exact Nat.ne_of_lt (Nat.lt_of_lt_of_le (by have := World.block_lt_of_cell? _ _ hw783_2; first | rwa [add_block] at this | exact this) GW784.out) | (rw [add_block]; exact Nat.ne_of_lt (Nat.lt_of_lt_of_le (by have := World.block_lt_of_cell? _ _ hw783_2; first | rwa [add_block] at this | exact this) GW784.out)) | (show (Addr.add _ _).block ≠ _; rw [add_block]; exact Nat.ne_of_lt (Nat.lt_of_lt_of_le (by have := World.block_lt_of_cell? _ _ hw783_2; first | rwa [add_block] at this | exact this) GW784.out)) | (dsimp only; exact Nat.ne_of_lt (Nat.lt_of_lt_of_le (by have := World.block_lt_of_cell? _ _ hw783_2; first | rwa [add_block] at this | exact this) GW784.out))) _).trans (((cell_far (p := ⟨gb784, _, none⟩) (by first | exact Nat.ne_of_lt (Nat.lt_of_lt_of_le (by have := World.block_lt_of_cell? _ _ hw783_2; first | rwa [add_block] at this | exact this) GW784.out) | (rw [add_block]; exact Nat.ne_of_lt (Nat.lt_of_lt_of_le (by have := World.block_lt_of_cell? _ _ hw783_2; first | rwa [add_block] at this | exact this) GW784.out)) | (show (Addr.add _ _).block ≠ _; rw [add_block]; exact Nat.ne_of_lt (Nat.lt_of_lt_of_le (by have := World.block_lt_of_cell? _ _ hw783_2; first | rwa [add_block] at this | exact this) GW784.out)) | (dsimp only; exact Nat.ne_of_lt (Nat.lt_of_lt_of_le (by have := World.block_lt_of_cell? _ _ hw783_2; first | rwa [add_block] at this | exact this) GW784.out))) _).trans (hHeld.2.2.2.2.2))))))⟩ (fun hHeld => ?_); clear hK K; refine dN_ ?_; have hnb16 := NB784_781.out; have hnc16 := NB781_784.out; obtain ⟨⟨hcz17_0, hcz17_1, hcz17_2⟩, hfz17_0, hfz17_1, hfz17_2⟩ := f3_ BK784.out; go_upto_if 32 with (fail); have H := HF10.out; clear HF10; by_cases c18 : ((rd_T39 l0_1 (rd l3 x12_1)).f0) = x10_1
       ·rw [if_pos c18] at H
        obtain ⟨c18b0, c18b1⟩ := be_ c18; clear c18; (first | rw [c18b0] | (simp only [i64_w, i32_w]; rw [c18b0]) | skip)
        have H' := Z_ H; clear H; have hnb19 := NB784_781.out; have hnc19 := NB781_784.out; obtain ⟨⟨hcz20_0, hcz20_1, hcz20_2⟩, hfz20_0, hfz20_1, hfz20_2⟩ := f3_ BK784.out; go_wp2; go_roundg k1
        case measure => have := HK1.out; omega
        case rel => exact ⟨((rd_T39 l0_1 (rd l3 x12_1)).f1), (wrap64 (x11_1 + ((rd_T39 l0_1 (rd l3 x12_1)).f2))), (wrap64 (x12_1 + 1)), rf_, rf_, rf_, H', ⟨by have := HK1.out; omega⟩, ⟨by (with_reducible repeat (first | refine bN_ ?_ _ | refine bD_ ?_)); refine blk_far ?_ NB781_784.out _; (with_reducible repeat (first | refine bN_ ?_ _ | refine bD_ ?_)); refine blk_far ?_ NB781_784.out _; (with_reducible repeat (first | refine bN_ ?_ _ | refine bD_ ?_)); refine blk_far ?_ NB781_784.out _; (with_reducible repeat (first | refine bN_ ?_ _ | refine bD_ ?_)); exact BK781.out⟩, ⟨hB_⟩⟩
       rw [if_neg c18] at H; obtain ⟨c18b0, c18b1⟩ := bn_ c18; (first | rw [c18b0] | (simp only [i64_w, i32_w]; rw [c18b0]) | skip)
       simp only [oJ_, pI_] at H; obtain ⟨rfl, rfl⟩ := H; go_wp2; go_ret2; exact ⟨eW_, hB_⟩
      rw [if_neg c9] at H; exact absurd H (by simp)
     rw [if_neg c8] at H; exact absurd H (by simp)
    rw [if_neg c7] at H; exact absurd H (by simp)
   rw [if_neg c6] at H; have c6b0 : decide (x12_1 < (l3.length : Int)) = false := eF_ c6; clear c6; simp only [oJ_, pI_] at H; obtain ⟨rfl, rfl⟩ := H; go_wp2; go_ret2; exact ⟨eW_, hB_⟩
end Go.Proofs.Ytpolojoeabmhdaa.A
/- The reference: indices, walk. -/
namespace Go.Proofs.Ytpolojoeabmhdaa.A
open Go.RowKit Go.Proofs.YtpolojoeabmhdaaW.PrintWords Go.Proofs.YtpolojoeabmhdaaW.PrintLast Go.Proofs.YtpolojoeabmhdaaW.PrintMore
section
variable {n : Nat} {L : List S39}
theorem rindices_l0 (l : List Int) (hl : l.length ≤ 17592186044416) (N : Int) : ∀ (q : Nat) (i : Int), (q : Int) + i = l.length → 0 ≤ i → (∀ j, 0 ≤ j → j < i → 0 ≤ rd l j ∧ rd l j < (L.length : Int)) →
    ∃ b, Ev (fun k => snowlineref04_indices.l0 k l i N L) b ∧ (b = true ↔ Idx L l) := by
  intro q
  induction q with
  | zero =>
    intro i hq h0 hb
    exact ⟨true, Ev.step (f := fun _ => some true) (fun k => by rw [snowlineref04_indices.l0, if_neg (by omega)]) (Ev.now _), fun _ j j0 j1 => hb j j0 (by omega), fun _ => rfl⟩
  | succ q ih =>
    intro i hq h0 hb
    have hlt : i < (l.length : Int) := by omega
    have hT : Ev (fun k => snowlineref04_indices.j1 k l i true N L) false := Ev.step (f := fun _ => some false) (fun k => by rw [snowlineref04_indices.j1]; rfl) (Ev.now _)
    by_cases c1 : rd l i < 0
    · exact ⟨false, Ev.step (f := fun k => snowlineref04_indices.j1 k l i true N L) (fun k => by rw [snowlineref04_indices.l0, if_pos hlt, if_pos h0, if_pos c1]) hT, fun h => (by cases h), fun h => by have := h i h0 hlt; omega⟩
    have hin : ∀ {b}, Ev (fun k => snowlineref04_indices.j1 k l i (decide (rd l i ≥ (L.length : Int))) N L) b → Ev (fun k => snowlineref04_indices.l0 k l i N L) b := fun h =>
      Ev.step (fun k => by rw [snowlineref04_indices.l0, if_pos hlt, if_pos h0, if_neg c1]) h
    by_cases c2 : rd l i ≥ (L.length : Int)
    · rw [decide_eq_true c2] at hin
      exact ⟨false, hin hT, fun h => (by cases h), fun h => by have := h i h0 hlt; omega⟩
    rw [decide_eq_false c2] at hin
    obtain ⟨b, g1, g2⟩ := ih (i + 1) (by omega) (by omega) (fun j j0 j1 => by
      by_cases e : j = i
      · rw [e]; omega
      · exact hb j j0 (by omega))
    exact ⟨b, hin (Ev.step (f := fun k => snowlineref04_indices.l0 k l (i + 1) N L) (fun k => by rw [snowlineref04_indices.j1, if_neg (by decide), wrap_id (x := i + 1) (by omega) (by omega)]) g1), g2⟩
theorem rindices_ev (l : List Int) (hl : l.length ≤ 17592186044416) (N : Int) : ∃ b, Ev (fun k => snowlineref04_indices.f k N L l) b ∧ (b = true ↔ Idx L l) :=
  rindices_l0 l hl N l.length 0 (by omega) (by omega) (fun j a b => by omega)
theorem rwalk_l0 (hE : EdgesOk n L) {l : List Int} (hi : Idx L l) (hl : l.length ≤ 65536) (tt N : Int) : ∀ (q : Nat) (i at_ acc : Int), (q : Int) + i = l.length → 0 ≤ i → -(i * 1073741824) ≤ acc → acc ≤ i * 1073741824 →
    ∃ W b, Ev (fun k => snowlineref04_walk.l0 k tt l at_ acc i N L) (W, b) ∧ (b = true → Wk L at_ (l.drop i.toNat) tt (W - acc)) ∧ (b = false → ∀ W', ¬ Wk L at_ (l.drop i.toNat) tt W') := by
  intro q
  induction q with
  | zero =>
    intro i at_ acc hq h0 h1 h2
    rw [List.drop_eq_nil_of_le (by omega)]
    refine ⟨acc, (at_ == tt), Ev.step (f := fun _ => some (acc, (at_ == tt))) (fun k => by rw [snowlineref04_walk.l0, if_neg (by omega)]) (Ev.now _), fun h => ⟨(beq_iff_eq.mp h).symm, by omega⟩, fun h W' hW => ?_⟩
    rw [hW.1] at h
    simp at h
  | succ q ih =>
    intro i at_ acc hq h0 h1 h2
    have hlt : i < (l.length : Int) := by omega
    have hx := hi i h0 hlt
    have hd := hE _ hx.1 hx.2
    have d1 := hd.e
    have d2 := hd.f
    rw [drop_rd l i h0 hlt]
    by_cases hc : (rd_T39 L (rd l i)).f0 = at_
    · obtain ⟨W, b, g1, g2, g3⟩ := ih (i + 1) (rd_T39 L (rd l i)).f1 (acc + (rd_T39 L (rd l i)).f2) (by omega) (by omega) (by omega) (by omega)
      refine ⟨W, b, Ev.step (fun k => ?_) g1, fun hb => ⟨hx, hc, ?_⟩, fun hb W' hW => g3 hb _ hW.2.2⟩
      · rw [snowlineref04_walk.l0, if_pos hlt, if_pos h0, if_pos hx.1, if_pos hx.2, if_pos hc, wrap_id (x := acc + _) (by omega) (by omega), wrap_id (x := i + 1) (by omega) (by omega)]
      · have := g2 hb
        rw [show W - acc - (rd_T39 L (rd l i)).f2 = W - (acc + (rd_T39 L (rd l i)).f2) from by omega]
        exact this
    · exact ⟨0, false, Ev.step (f := fun _ => some (0, false)) (fun k => by rw [snowlineref04_walk.l0, if_pos hlt, if_pos h0, if_pos hx.1, if_pos hx.2, if_neg hc]) (Ev.now _), fun h => (by cases h), fun _ W' hW => hc hW.2.1⟩
theorem rwalk_ev (hE : EdgesOk n L) {l : List Int} (hi : Idx L l) (hl : l.length ≤ 65536) (N u v : Int) : ∃ W b, Ev (fun k => snowlineref04_walk.f k N L u v l) (W, b) ∧ (b = true → Wk L u l v W) ∧ (b = false → ∀ W', ¬ Wk L u l v W') := by
  obtain ⟨W, b, h1, h2, h3⟩ := rwalk_l0 hE hi hl v N l.length 0 u 0 (by omega) (by omega) (by omega) (by omega)
  rw [Int.sub_zero] at h2
  exact ⟨W, b, h1, h2, h3⟩
end
end Go.Proofs.Ytpolojoeabmhdaa.A
namespace Go.Proofs.Ytpolojoeabmhdaa.A
open Go.RowKit Go.Proofs.YtpolojoeabmhdaaW.PrintWords Go.Proofs.YtpolojoeabmhdaaW.PrintLast Go.Proofs.YtpolojoeabmhdaaW.PrintMore
attribute [local go_sem] max2_int min2_int max_two min_two max_three min_three max_four min_four
mutual
def snowlineref04_CheckClash.j0 : Nat → List Int → Bool → Int → List (S39) → Option (Int)
 | 0, _, _, _, _ => none
 | k + 1, x1, x26, x786000, x786001 => if x26 = true then (some 43) else (snowlineref04_CheckClash.l0 k x1 0 x786000 x786001)
def snowlineref04_CheckClash.l0 : Nat → List Int → Int → Int → List (S39) → Option (Int)
 | 0, _, _, _, _ => none
 | k + 1, x1, x5, x786000, x786001 => if x5 < (x1.length : Int) then (snowlineref04_CheckClash.l1 k x1 x5 0 x786000 x786001) else (if 0 < (x1.length : Int) then (if 0 ≤ (rd x1 0) then (if (rd x1 0) < (x786001.length : Int) then ((snowlineref04_walk.f k x786000 x786001 ((rd_T39 x786001 (rd x1 0)).f0) ((rd_T39 x786001 (rd x1 0)).f0) x1).bind fun bt794 => (if bt794.2 = true then (snowlineref04_CheckClash.j3 k (decide (bt794.1 ≥ 0))) else (snowlineref04_CheckClash.j3 k true))) else (none)) else (none)) else (none))
def snowlineref04_CheckClash.l1 : Nat → List Int → Int → Int → Int → List (S39) → Option (Int)
 | 0, _, _, _, _, _ => none
 | k + 1, x1, x5, x6, x786000, x786001 => if x6 < x5 then (if 0 ≤ x5 then (if x5 < (x1.length : Int) then (if 0 ≤ (rd x1 x5) then (if (rd x1 x5) < (x786001.length : Int) then (if 0 ≤ x6 then (if x6 < (x1.length : Int) then (if 0 ≤ (rd x1 x6) then (if (rd x1 x6) < (x786001.length : Int) then (if ((rd_T39 x786001 (rd x1 x5)).f0) = ((rd_T39 x786001 (rd x1 x6)).f0) then (some 43) else (snowlineref04_CheckClash.l1 k x1 x5 (wrap64 (x6 + 1)) x786000 x786001)) else (none)) else (none)) else (none)) else (none)) else (none)) else (none)) else (none)) else (none)) else (snowlineref04_CheckClash.l0 k x1 (wrap64 (x5 + 1)) x786000 x786001)
def snowlineref04_CheckClash.j3 : Nat → Bool → Option (Int)
 | 0, _ => none
 | k + 1, x78 => if x78 = true then (some 43) else (some 0)
end
def snowlineref04_CheckClash.f (k : Nat) (a0_0 : Int) (l0_1 : List (S39)) (l1 : List Int) : Option (Int) := (snowlineref04_Check.f k a0_0 l0_1).bind fun t786 => (if t786 = 0 then ((snowlineref04_indices.f k a0_0 l0_1 l1).bind fun t787 => (if t787 = true then (if (l1.length : Int) = 0 then (snowlineref04_CheckClash.j0 k l1 true a0_0 l0_1) else (snowlineref04_CheckClash.j0 k l1 (decide ((l1.length : Int) > a0_0)) a0_0 l0_1)) else (some 1))) else (some 40))
theorem snowlineref04_CheckClash.mono_l : ∀ k, (∀ y0 y1 y2 y3, LeO (snowlineref04_CheckClash.j0 k y0 y1 y2 y3) (snowlineref04_CheckClash.j0 (k + 1) y0 y1 y2 y3)) ∧ (∀ y0 y1 y2 y3, LeO (snowlineref04_CheckClash.l0 k y0 y1 y2 y3) (snowlineref04_CheckClash.l0 (k + 1) y0 y1 y2 y3)) ∧ (∀ y0 y1 y2 y3 y4, LeO (snowlineref04_CheckClash.l1 k y0 y1 y2 y3 y4) (snowlineref04_CheckClash.l1 (k + 1) y0 y1 y2 y3 y4)) ∧ (∀ y0, LeO (snowlineref04_CheckClash.j3 k y0) (snowlineref04_CheckClash.j3 (k + 1) y0))
 | 0 => ⟨fun _ _ _ _ r h => by simp [snowlineref04_CheckClash.j0] at h, fun _ _ _ _ r h => by simp [snowlineref04_CheckClash.l0] at h, fun _ _ _ _ _ r h => by simp [snowlineref04_CheckClash.l1] at h, fun _ r h => by simp [snowlineref04_CheckClash.j3] at h⟩
 | k + 1 => by
  obtain ⟨ih0, ih1, ih2, ih3⟩ := snowlineref04_CheckClash.mono_l k; refine ⟨?_, ?_, ?_, ?_⟩ <;> intros <;> (first | unfold snowlineref04_CheckClash.j0 | unfold snowlineref04_CheckClash.l0 | unfold snowlineref04_CheckClash.l1 | unfold snowlineref04_CheckClash.j3) <;> repeat' first | (with_reducible first | exact ih0 _ _ _ _ | exact ih1 _ _ _ _ | exact ih2 _ _ _ _ _ | exact ih3 _ | exact snowlineref04_Check.mono _ _ _ | exact snowlineref04_indices.mono _ _ _ _ | exact snowlineref04_walk.mono _ _ _ _ _ _ | exact LeO.refl _ | exact LeO.none _ | refine LeO.ite ?_ ?_ | refine LeO.bind ?_ (fun _ => ?_)) | exact ih0 _ _ _ _ | exact ih1 _ _ _ _ | exact ih2 _ _ _ _ _ | exact ih3 _ | exact snowlineref04_Check.mono _ _ _ | exact snowlineref04_indices.mono _ _ _ _ | exact snowlineref04_walk.mono _ _ _ _ _ _ | exact LeO.none _ | refine LeO.ite ?_ ?_ | refine LeO.bind ?_ (fun _ => ?_)
theorem snowlineref04_CheckClash.mono : ∀ a0 a1 a2 k, LeO (snowlineref04_CheckClash.f k a0 a1 a2) (snowlineref04_CheckClash.f (k + 1) a0 a1 a2) := by
 intro a0 a1 a2 k; obtain ⟨ih0, ih1, ih2, ih3⟩ := snowlineref04_CheckClash.mono_l k; unfold snowlineref04_CheckClash.f; repeat' first | (with_reducible first | exact ih0 _ _ _ _ | exact ih1 _ _ _ _ | exact ih2 _ _ _ _ _ | exact ih3 _ | exact snowlineref04_Check.mono _ _ _ | exact snowlineref04_indices.mono _ _ _ _ | exact snowlineref04_walk.mono _ _ _ _ _ _ | exact LeO.refl _ | exact LeO.none _ | refine LeO.ite ?_ ?_ | refine LeO.bind ?_ (fun _ => ?_)) | exact ih0 _ _ _ _ | exact ih1 _ _ _ _ | exact ih2 _ _ _ _ _ | exact ih3 _ | exact snowlineref04_Check.mono _ _ _ | exact snowlineref04_indices.mono _ _ _ _ | exact snowlineref04_walk.mono _ _ _ _ _ _ | exact LeO.none _ | refine LeO.ite ?_ ?_ | refine LeO.bind ?_ (fun _ => ?_)
set_option maxHeartbeats 8000000 in
set_option maxRecDepth 100000 in
theorem snowlineref04_CheckClash.calls (k : Nat) (a0_0 : Int) (A0_1 : Option Addr) (c0_1 : Nat) (l0_1 : List (S39)) (A1 : Option Addr) (c1 : Nat) (l1 : List Int) (r : Int) (w : World) (hr0_1 : Kd.C k39 w A0_1 l0_1.length l0_1) (hc0_1 : l0_1.length ≤ c0_1) (hr1 : Kd.C (Kd.int .i64) w A1 l1.length l1) (hc1 : l1.length ≤ c1) (h : snowlineref04_CheckClash.f k a0_0 l0_1 l1 = some r) :
  Calls Try.prog 38 #[.agg #[.int .i64 a0_0, .slice A0_1 l0_1.length c0_1], .slice A1 l1.length c1] w fun e w' => e = .returned (.int .i64 r) ∧ Below w.heap.size w w' := by
 have hu24 := Try.underlying24; have HR0_1 := Z_ hr0_1; have HC0_1 := Z_ hc0_1; clear hr0_1 hc0_1; have HR1 := Z_ hr1; have HC1 := Z_ hc1; clear hr1 hc1; have HB := Z_ (Below.refl w.heap.size w); have H : ((snowlineref04_Check.f k a0_0 l0_1).bind fun t786 => (if t786 = 0 then ((snowlineref04_indices.f k a0_0 l0_1 l1).bind fun t787 => (if t787 = true then (if (l1.length : Int) = 0 then (snowlineref04_CheckClash.j0 k l1 true a0_0 l0_1) else (snowlineref04_CheckClash.j0 k l1 (decide ((l1.length : Int) > a0_0)) a0_0 l0_1)) else (some 1))) else (some 40))) = some r := h; clear h; replace H := oS_.mp H; obtain ⟨t786, A30, H⟩ := H; have A3 := Z_ A30; clear A30; have HF4 := Z_ H; clear H; go_enter Try.func38, Try.ntmps38; go_upto_if 12 with (first | ((with_reducible refine gate_dst (N := 2) rfl ?_); (try (refine gate_guard (by rfl) ?_; dsimp only)); refine bX_ 2 #[.int .i64 a0_0, .slice A0_1 l0_1.length c0_1] 24 ?_; intro gb785 hg w5 hbox hb; have BK785 := Z_ (hbox); have GW785 := Z_ ((by rw [hg]; exact (fZ_ hB_) : w.heap.size ≤ gb785)); have GE785 := Z_ ((by rw [hg]; exact (fZ_ hB_) : w.heap.size ≤ gb785)); replace HB := Z_ (fS_ hB_ hb); clear hb hbox hg; obtain ⟨⟨hcz6_0, hcz6_1⟩, hfz6_0, hfz6_1⟩ := f2_ BK785.out) | (go_at_call 22; (with_reducible refine (snowlineref04_Check.calls k a0_0 _ _ l0_1 t786 _ ?side1 ?side2 A3.out).mono ?_); (case side1 => exact cS_ (cB_ HR0_1.out HB.out)); (case side2 => exact HC0_1.out); rintro e w7 ⟨rfl, hb⟩; replace BK785 := Z_ (bB_ (g := gb785) (o := .cells #[.int .i64 a0_0, .slice A0_1 l0_1.length c0_1] 24 (0, 0)) (bR_ BK785.out) hb); replace HB := Z_ (fS_ hB_ hb); (try clear hb); (try clear hb2); (try clear hk); (try clear hi))); repeat (go_quiet (first | ((with_reducible refine gate_dst (N := 2) rfl ?_); (try (refine gate_guard (by rfl) ?_; dsimp only)); refine bX_ 2 #[.int .i64 a0_0, .slice A0_1 l0_1.length c0_1] 24 ?_; intro gb785 hg w5 hbox hb; have BK785 := Z_ (hbox); have GW785 := Z_ ((by rw [hg]; exact (fZ_ hB_) : w.heap.size ≤ gb785)); have GE785 := Z_ ((by rw [hg]; exact (fZ_ hB_) : w.heap.size ≤ gb785)); replace HB := Z_ (fS_ hB_ hb); clear hb hbox hg; obtain ⟨⟨hcz6_0, hcz6_1⟩, hfz6_0, hfz6_1⟩ := f2_ BK785.out) | (go_at_call 22; (with_reducible refine (snowlineref04_Check.calls k a0_0 _ _ l0_1 t786 _ ?side1 ?side2 A3.out).mono ?_); (case side1 => exact cS_ (cB_ HR0_1.out HB.out)); (case side2 => exact HC0_1.out); rintro e w7 ⟨rfl, hb⟩; replace BK785 := Z_ (bB_ (g := gb785) (o := .cells #[.int .i64 a0_0, .slice A0_1 l0_1.length c0_1] 24 (0, 0)) (bR_ BK785.out) hb); replace HB := Z_ (fS_ hB_ hb); (try clear hb); (try clear hb2); (try clear hk); (try clear hi))); go_upto_if 12 with (first | ((with_reducible refine gate_dst (N := 2) rfl ?_); (try (refine gate_guard (by rfl) ?_; dsimp only)); refine bX_ 2 #[.int .i64 a0_0, .slice A0_1 l0_1.length c0_1] 24 ?_; intro gb785 hg w5 hbox hb; have BK785 := Z_ (hbox); have GW785 := Z_ ((by rw [hg]; exact (fZ_ hB_) : w.heap.size ≤ gb785)); have GE785 := Z_ ((by rw [hg]; exact (fZ_ hB_) : w.heap.size ≤ gb785)); replace HB := Z_ (fS_ hB_ hb); clear hb hbox hg; obtain ⟨⟨hcz6_0, hcz6_1⟩, hfz6_0, hfz6_1⟩ := f2_ BK785.out) | (go_at_call 22; (with_reducible refine (snowlineref04_Check.calls k a0_0 _ _ l0_1 t786 _ ?side1 ?side2 A3.out).mono ?_); (case side1 => exact cS_ (cB_ HR0_1.out HB.out)); (case side2 => exact HC0_1.out); rintro e w7 ⟨rfl, hb⟩; replace BK785 := Z_ (bB_ (g := gb785) (o := .cells #[.int .i64 a0_0, .slice A0_1 l0_1.length c0_1] 24 (0, 0)) (bR_ BK785.out) hb); replace HB := Z_ (fS_ hB_ hb); (try clear hb); (try clear hb2); (try clear hk); (try clear hi))))
 (try simp only [Act.put, sT_, sZ_, sS_])
 have H := HF4.out; clear HF4; by_cases c8 : t786 = 0
 ·rw [if_pos c8] at H
  obtain ⟨c8b0, c8b1⟩ := be_ c8; clear c8; (first | rw [c8b0] | (simp only [i64_w, i32_w]; rw [c8b0]) | skip)
  replace H := oS_.mp H; obtain ⟨t787, A90, H⟩ := H; have A9 := Z_ A90; clear A90; have HF10 := Z_ H; clear H; obtain ⟨⟨hcz11_0, hcz11_1⟩, hfz11_0, hfz11_1⟩ := f2_ BK785.out; go_upto_if 16 with (first | (go_at_call 92; (with_reducible refine (snowlineref04_indices.calls k a0_0 _ _ l0_1 _ _ l1 t787 _ ?side1 ?side2 ?side3 ?side4 A9.out).mono ?_); (case side1 => exact cS_ (cB_ HR0_1.out HB.out)); (case side2 => exact HC0_1.out); (case side3 => exact cS_ (cB_ HR1.out HB.out)); (case side4 => exact HC1.out); rintro e w12 ⟨rfl, hb⟩; replace BK785 := Z_ (bB_ (g := gb785) (o := .cells #[.int .i64 a0_0, .slice A0_1 l0_1.length c0_1] 24 (0, 0)) (bR_ BK785.out) hb); replace HB := Z_ (fS_ hB_ hb); (try clear hb); (try clear hb2); (try clear hk); (try clear hi))); repeat (go_quiet (first | (go_at_call 92; (with_reducible refine (snowlineref04_indices.calls k a0_0 _ _ l0_1 _ _ l1 t787 _ ?side1 ?side2 ?side3 ?side4 A9.out).mono ?_); (case side1 => exact cS_ (cB_ HR0_1.out HB.out)); (case side2 => exact HC0_1.out); (case side3 => exact cS_ (cB_ HR1.out HB.out)); (case side4 => exact HC1.out); rintro e w12 ⟨rfl, hb⟩; replace BK785 := Z_ (bB_ (g := gb785) (o := .cells #[.int .i64 a0_0, .slice A0_1 l0_1.length c0_1] 24 (0, 0)) (bR_ BK785.out) hb); replace HB := Z_ (fS_ hB_ hb); (try clear hb); (try clear hb2); (try clear hk); (try clear hi))); go_upto_if 16 with (first | (go_at_call 92; (with_reducible refine (snowlineref04_indices.calls k a0_0 _ _ l0_1 _ _ l1 t787 _ ?side1 ?side2 ?side3 ?side4 A9.out).mono ?_); (case side1 => exact cS_ (cB_ HR0_1.out HB.out)); (case side2 => exact HC0_1.out); (case side3 => exact cS_ (cB_ HR1.out HB.out)); (case side4 => exact HC1.out); rintro e w12 ⟨rfl, hb⟩; replace BK785 := Z_ (bB_ (g := gb785) (o := .cells #[.int .i64 a0_0, .slice A0_1 l0_1.length c0_1] 24 (0, 0)) (bR_ BK785.out) hb); replace HB := Z_ (fS_ hB_ hb); (try clear hb); (try clear hb2); (try clear hk); (try clear hi))))
  (try simp only [Act.put, sT_, sZ_, sS_])
  have H := HF10.out; clear HF10; by_cases c13 : t787 = true
  ·subst c13
   rw [if_pos rfl] at H; have HC14 := Z_ H; clear H; go_upto_region 5 with (fail); repeat (go_quiet (fail); go_upto_region 5 with (fail))
   go_cut [26] (fun v26 wc => ∃ (kq : Nat) (x26_13 : Bool), v26 = .bool x26_13 ∧ Aside0 (snowlineref04_CheckClash.j0 kq l1 x26_13 a0_0 l0_1 = some r) ∧ Aside0 (kq ≤ k) ∧ Aside0 (wc.heap[gb785]? = some (.cells #[.int .i64 a0_0, (.slice A0_1 l0_1.length c0_1)] 24 (0, 0))) ∧ Aside0 (Below w.heap.size w wc))
   case first =>
    have H := HC14.out; clear HC14; by_cases c15 : (l1.length : Int) = 0
    ·rw [if_pos c15] at H
     have c15b0 : ((l1.length : Int) == 0) = true := beq_iff_eq.mpr c15; have c15b1 : ((l1.length : Int) != 0) = false := bne_eq_false_iff_eq.mpr c15; clear c15; (first | rw [c15b0] | (simp only [i64_w, i32_w]; rw [c15b0]) | skip)
     have H' := Z_ H; clear H; go_wp2; repeat (go_quiet (fail); try go_wp2)
     go_meet
     case rel => exact ⟨_, (true), rf_, H', ⟨oL_⟩, ⟨bR_ BK785.out⟩, ⟨hB_⟩⟩
    rw [if_neg c15] at H; have c15b0 : ((l1.length : Int) == 0) = false := beq_eq_false_iff_ne.mpr c15; have c15b1 : ((l1.length : Int) != 0) = true := bne_iff_ne.mpr c15; have c15b2 : ¬ (l1 = []) := fun h_ => c15 (by rw [h_]; rfl)
    (first | rw [c15b0] | (simp only [i64_w, i32_w]; rw [c15b0]) | skip)
    have H' := Z_ H; clear H; obtain ⟨⟨hcz16_0, hcz16_1⟩, hfz16_0, hfz16_1⟩ := f2_ BK785.out; go_wp2; repeat (go_quiet (fail); try go_wp2)
    go_meet
    case rel => exact ⟨_, (decide ((l1.length : Int) > a0_0)), rf_, H', ⟨oL_⟩, ⟨bR_ BK785.out⟩, ⟨hB_⟩⟩
   case rest =>
    clear HC14; (try clear c1); (try clear p2); (try clear c3); (try clear c8); (try clear c8b0); (try clear c8b1); (try clear c13); (try clear c15); (try clear c15b0); (try clear c15b1); (try clear c15b2); (try clear hcz11_0); (try clear hcz11_1); (try clear hcz16_0); (try clear hcz16_1); (try clear hcz6_0); (try clear hcz6_1); (try clear hfz11_0); (try clear hfz11_1); (try clear hfz16_0); (try clear hfz16_1); (try clear hfz6_0); (try clear hfz6_1)
    obtain ⟨kq, x26_13, rfl, HA, HJ13, BK785, HB⟩ := hcut
    cases kq with
    | zero => exact absurd HA.out (by simp [snowlineref04_CheckClash.j0])
    | succ kj13 =>
     have H := HA.out; clear HA; simp only [snowlineref04_CheckClash.j0] at H; by_cases c17 : x26_13 = true
     ·subst c17
      rw [if_pos rfl] at H; obtain rfl := oI_ H; go_wp2; repeat (go_quiet (fail); try go_wp2)
      go_ret; exact ⟨eW_, hB_⟩
     replace c17 := bE_.mpr c17; subst c17; have H1 : (snowlineref04_CheckClash.l0 kj13 l1 0 a0_0 l0_1) = some r := by rw [if_neg (show ¬ (false = true) by decide)] at H; exact H
     clear H; have H := H1; clear H1; have H' := Z_ H; clear H; go_wp2; repeat (go_quiet (fail); try go_wp2)
     go_loopg [5] kj13 (fun kq v5 w' => ∃ (x5_2 : Int), v5 = .int .i64 x5_2 ∧ Aside0 (snowlineref04_CheckClash.l0 kq l1 x5_2 a0_0 l0_1 = some r) ∧ Aside0 (kq ≤ kj13) ∧ Aside0 (w'.heap[gb785]? = some (.cells #[.int .i64 a0_0, (.slice A0_1 l0_1.length c0_1)] 24 (0, 0))) ∧ Aside0 (Below w.heap.size w w'))
     case atStart => exact ⟨(0), rf_, H', ⟨nR_ _⟩, ⟨bR_ BK785.out⟩, ⟨hB_⟩⟩
     case round =>
      clear H'; (try clear c1); (try clear p2); (try clear c3); (try clear c8); (try clear c8b0); (try clear c8b1); (try clear c13); (try clear c15); (try clear c15b0); (try clear c15b1); (try clear c15b2); (try clear c17); (try clear hcz11_0); (try clear hcz11_1); (try clear hcz16_0); (try clear hcz16_1); (try clear hcz6_0); (try clear hcz6_1); (try clear hfz11_0); (try clear hfz11_1); (try clear hfz16_0); (try clear hfz16_1); (try clear hfz6_0); (try clear hfz6_1); (try clear p2)
      obtain ⟨x5_2, rfl, HA, HK2, BK785, HB⟩ := hrel
      cases gk with
      | zero => exact absurd HA.out (by simp [snowlineref04_CheckClash.l0])
      | succ k2 =>
       have H := HA.out; clear HA; simp only [snowlineref04_CheckClash.l0] at H; by_cases c18 : x5_2 < (l1.length : Int)
       ·rw [if_pos c18] at H
        have c18b0 : decide (x5_2 < (l1.length : Int)) = true := eT_ c18; clear c18; have H' := Z_ H; clear H; go_wp2; repeat (go_quiet (fail); try go_wp2)
        go_loopg [6] k2 (fun kq v6 w' => ∃ (x6_3 : Int), v6 = .int .i64 x6_3 ∧ Aside0 (snowlineref04_CheckClash.l1 kq l1 x5_2 x6_3 a0_0 l0_1 = some r) ∧ Aside0 (kq ≤ k2) ∧ Aside0 (w'.heap[gb785]? = some (.cells #[.int .i64 a0_0, (.slice A0_1 l0_1.length c0_1)] 24 (0, 0))) ∧ Aside0 (Below w.heap.size w w'))
        case atStart => exact ⟨(0), rf_, H', ⟨nR_ _⟩, ⟨bR_ BK785.out⟩, ⟨hB_⟩⟩
        case round =>
         clear H'; (try clear c1); (try clear p2); (try clear c3); (try clear c8); (try clear c8b0); (try clear c8b1); (try clear c13); (try clear c15); (try clear c15b0); (try clear c15b1); (try clear c15b2); (try clear c17); (try clear c18); (try clear c18b0); (try clear hcz11_0); (try clear hcz11_1); (try clear hcz16_0); (try clear hcz16_1); (try clear hcz6_0); (try clear hcz6_1); (try clear hfz11_0); (try clear hfz11_1); (try clear hfz16_0); (try clear hfz16_1); (try clear hfz6_0); (try clear hfz6_1); (try clear p2)
         obtain ⟨x6_3, rfl, HA, HK3, BK785, HB⟩ := hrel
         cases gk with
         | zero => exact absurd HA.out (by simp [snowlineref04_CheckClash.l1])
         | succ k3 =>
          have H := HA.out; clear HA; simp only [snowlineref04_CheckClash.l1] at H; by_cases c19 : x6_3 < x5_2
          ·rw [if_pos c19] at H
           have c19b0 : decide (x6_3 < x5_2) = true := eT_ c19; clear c19; by_cases c20 : 0 ≤ x5_2
           ·rw [if_pos c20] at H
            have c20b0 : decide (0 ≤ x5_2) = true := eT_ c20; clear c20; by_cases c21 : x5_2 < (l1.length : Int)
            ·rw [if_pos c21] at H
             have c21b0 : decide (x5_2 < (l1.length : Int)) = true := eT_ c21; clear c21; by_cases c22 : 0 ≤ (rd l1 x5_2)
             ·rw [if_pos c22] at H
              have c22b0 : decide (0 ≤ (rd l1 x5_2)) = true := eT_ c22; clear c22; by_cases c23 : (rd l1 x5_2) < (l0_1.length : Int)
              ·rw [if_pos c23] at H
               have c23b0 : decide ((rd l1 x5_2) < (l0_1.length : Int)) = true := eT_ c23; clear c23; by_cases c24 : 0 ≤ x6_3
               ·rw [if_pos c24] at H
                have c24b0 : decide (0 ≤ x6_3) = true := eT_ c24; clear c24; by_cases c25 : x6_3 < (l1.length : Int)
                ·rw [if_pos c25] at H
                 have c25b0 : decide (x6_3 < (l1.length : Int)) = true := eT_ c25; clear c25; by_cases c26 : 0 ≤ (rd l1 x6_3)
                 ·rw [if_pos c26] at H
                  have c26b0 : decide (0 ≤ (rd l1 x6_3)) = true := eT_ c26; clear c26; by_cases c27 : (rd l1 x6_3) < (l0_1.length : Int)
                  ·rw [if_pos c27] at H
                   have c27b0 : decide ((rd l1 x6_3) < (l0_1.length : Int)) = true := eT_ c27; clear c27; by_cases c28 : ((rd_T39 l0_1 (rd l1 x5_2)).f0) = ((rd_T39 l0_1 (rd l1 x6_3)).f0)
                   ·rw [if_pos c28] at H
                    obtain ⟨c28b0, c28b1⟩ := be_ c28; clear c28; obtain rfl := oI_ H; obtain ⟨⟨hcz29_0, hcz29_1⟩, hfz29_0, hfz29_1⟩ := f2_ BK785.out; have p788 : 0 ≤ (x5_2 : Int) := dT_ as_; have q788 : x5_2 < (l1.length : Int) := dT_ as_; obtain ⟨ad788, e788, hx788_0⟩ := Kd.at_int HR1.out x5_2 p788 q788; cases e788
                    replace hx788_0 := (HB.out.cell (World.block_lt_of_cell? w _ hx788_0)).trans hx788_0; replace p788 := eq_true p788; replace q788 := eq_true q788; have p789 : 0 ≤ ((rd l1 x5_2) : Int) := dT_ as_; have q789 : (rd l1 x5_2) < (l0_1.length : Int) := dT_ as_; obtain ⟨ad789, e789, hx789_0, hx789_1, hx789_2⟩ := at_T39 HR0_1.out (rd l1 x5_2) p789 q789; cases e789
                    replace hx789_0 := (HB.out.cell (World.block_lt_of_cell? w _ hx789_0)).trans hx789_0; replace hx789_1 := (HB.out.cell (World.block_lt_of_cell? w _ hx789_1)).trans hx789_1; replace hx789_2 := (HB.out.cell (World.block_lt_of_cell? w _ hx789_2)).trans hx789_2; replace p789 := eq_true p789; replace q789 := eq_true q789; have p790 : 0 ≤ (x6_3 : Int) := dT_ as_; have q790 : x6_3 < (l1.length : Int) := dT_ as_; obtain ⟨ad790, e790, hx790_0⟩ := Kd.at_int HR1.out x6_3 p790 q790; obtain rfl : ad788 = ad790 := (by injection e790); replace hx790_0 := (HB.out.cell (World.block_lt_of_cell? w _ hx790_0)).trans hx790_0; replace p790 := eq_true p790; replace q790 := eq_true q790; have p791 : 0 ≤ ((rd l1 x6_3) : Int) := dT_ as_; have q791 : (rd l1 x6_3) < (l0_1.length : Int) := dT_ as_; obtain ⟨ad791, e791, hx791_0, hx791_1, hx791_2⟩ := at_T39 HR0_1.out (rd l1 x6_3) p791 q791; obtain rfl : ad789 = ad791 := (by injection e791); replace hx791_0 := (HB.out.cell (World.block_lt_of_cell? w _ hx791_0)).trans hx791_0; replace hx791_1 := (HB.out.cell (World.block_lt_of_cell? w _ hx791_1)).trans hx791_1; replace hx791_2 := (HB.out.cell (World.block_lt_of_cell? w _ hx791_2)).trans hx791_2; replace p791 := eq_true p791; replace q791 := eq_true q791; go_wp2; repeat (go_quiet (fail); try go_wp2)
                    go_ret; exact ⟨eW_, hB_⟩
                   rw [if_neg c28] at H; obtain ⟨c28b0, c28b1⟩ := bn_ c28; have H' := Z_ H; clear H; obtain ⟨⟨hcz30_0, hcz30_1⟩, hfz30_0, hfz30_1⟩ := f2_ BK785.out; have p788 : 0 ≤ (x5_2 : Int) := dT_ as_; have q788 : x5_2 < (l1.length : Int) := dT_ as_; obtain ⟨ad788, e788, hx788_0⟩ := Kd.at_int HR1.out x5_2 p788 q788; cases e788
                   replace hx788_0 := (HB.out.cell (World.block_lt_of_cell? w _ hx788_0)).trans hx788_0; replace p788 := eq_true p788; replace q788 := eq_true q788; have p789 : 0 ≤ ((rd l1 x5_2) : Int) := dT_ as_; have q789 : (rd l1 x5_2) < (l0_1.length : Int) := dT_ as_; obtain ⟨ad789, e789, hx789_0, hx789_1, hx789_2⟩ := at_T39 HR0_1.out (rd l1 x5_2) p789 q789; cases e789
                   replace hx789_0 := (HB.out.cell (World.block_lt_of_cell? w _ hx789_0)).trans hx789_0; replace hx789_1 := (HB.out.cell (World.block_lt_of_cell? w _ hx789_1)).trans hx789_1; replace hx789_2 := (HB.out.cell (World.block_lt_of_cell? w _ hx789_2)).trans hx789_2; replace p789 := eq_true p789; replace q789 := eq_true q789; have p790 : 0 ≤ (x6_3 : Int) := dT_ as_; have q790 : x6_3 < (l1.length : Int) := dT_ as_; obtain ⟨ad790, e790, hx790_0⟩ := Kd.at_int HR1.out x6_3 p790 q790; obtain rfl : ad788 = ad790 := (by injection e790); replace hx790_0 := (HB.out.cell (World.block_lt_of_cell? w _ hx790_0)).trans hx790_0; replace p790 := eq_true p790; replace q790 := eq_true q790; have p791 : 0 ≤ ((rd l1 x6_3) : Int) := dT_ as_; have q791 : (rd l1 x6_3) < (l0_1.length : Int) := dT_ as_; obtain ⟨ad791, e791, hx791_0, hx791_1, hx791_2⟩ := at_T39 HR0_1.out (rd l1 x6_3) p791 q791; obtain rfl : ad789 = ad791 := (by injection e791); replace hx791_0 := (HB.out.cell (World.block_lt_of_cell? w _ hx791_0)).trans hx791_0; replace hx791_1 := (HB.out.cell (World.block_lt_of_cell? w _ hx791_1)).trans hx791_1; replace hx791_2 := (HB.out.cell (World.block_lt_of_cell? w _ hx791_2)).trans hx791_2; replace p791 := eq_true p791; replace q791 := eq_true q791; go_wp2; repeat (go_quiet (fail); try go_wp2)
                   go_roundg k3
                   case measure => have := HJ13.out; have := HK2.out; have := HK3.out; omega
                   case rel => exact ⟨(wrap64 (x6_3 + 1)), rf_, H', ⟨by have := HJ13.out; have := HK2.out; have := HK3.out; omega⟩, ⟨bR_ BK785.out⟩, ⟨hB_⟩⟩
                  rw [if_neg c27] at H; exact absurd H (by simp)
                 rw [if_neg c26] at H; exact absurd H (by simp)
                rw [if_neg c25] at H; exact absurd H (by simp)
               rw [if_neg c24] at H; exact absurd H (by simp)
              rw [if_neg c23] at H; exact absurd H (by simp)
             rw [if_neg c22] at H; exact absurd H (by simp)
            rw [if_neg c21] at H; exact absurd H (by simp)
           rw [if_neg c20] at H; exact absurd H (by simp)
          rw [if_neg c19] at H; have c19b0 : decide (x6_3 < x5_2) = false := eF_ c19; clear c19; have H' := Z_ H; clear H; go_wp2; repeat (go_quiet (fail); try go_wp2)
          go_roundg k3
          case measure => have := HJ13.out; have := HK2.out; have := HK3.out; omega
          case rel => exact ⟨(wrap64 (x5_2 + 1)), rf_, H', ⟨by have := HJ13.out; have := HK2.out; have := HK3.out; omega⟩, ⟨bR_ BK785.out⟩, ⟨hB_⟩⟩
       rw [if_neg c18] at H; have c18b0 : decide (x5_2 < (l1.length : Int)) = false := eF_ c18; clear c18; by_cases c31 : 0 < (l1.length : Int)
       ·rw [if_pos c31] at H
        have c31b0 : decide (0 < (l1.length : Int)) = true := eT_ c31; have c31b1 : decide (0 < l1.length) = true := eT_ (by omega); clear c31; by_cases c32 : 0 ≤ (rd l1 0)
        ·rw [if_pos c32] at H
         have c32b0 : decide (0 ≤ (rd l1 0)) = true := eT_ c32; clear c32; by_cases c33 : (rd l1 0) < (l0_1.length : Int)
         ·rw [if_pos c33] at H
          have c33b0 : decide ((rd l1 0) < (l0_1.length : Int)) = true := eT_ c33; clear c33; replace H := oS_.mp H; obtain ⟨⟨t794, t795⟩, A340, H⟩ := H; have A34 := Z_ A340; clear A340; have HC35 := Z_ H; clear H; obtain ⟨⟨hcz36_0, hcz36_1⟩, hfz36_0, hfz36_1⟩ := f2_ BK785.out; have p792 : 0 ≤ (0 : Int) := (by omega); have q792 : 0 < (l1.length : Int) := dT_ as_; obtain ⟨ad792, e792, hx792_0⟩ := Kd.at_int HR1.out 0 p792 q792; cases e792
          have qi792 : (0 < l1.length) = True := eq_true (by omega); (try rw [show ((0 : Int)).toNat = 0 from rfl] at hx792_0)
          (try rw [Addr.add_zero'] at hx792_0)
          replace hx792_0 := (HB.out.cell (World.block_lt_of_cell? w _ hx792_0)).trans hx792_0; replace p792 := eq_true p792; replace q792 := eq_true q792; have p793 : 0 ≤ ((rd l1 0) : Int) := dT_ as_; have q793 : (rd l1 0) < (l0_1.length : Int) := dT_ as_; obtain ⟨ad793, e793, hx793_0, hx793_1, hx793_2⟩ := at_T39 HR0_1.out (rd l1 0) p793 q793; cases e793
          replace hx793_0 := (HB.out.cell (World.block_lt_of_cell? w _ hx793_0)).trans hx793_0; replace hx793_1 := (HB.out.cell (World.block_lt_of_cell? w _ hx793_1)).trans hx793_1; replace hx793_2 := (HB.out.cell (World.block_lt_of_cell? w _ hx793_2)).trans hx793_2; replace p793 := eq_true p793; replace q793 := eq_true q793; go_upto_region 17 with (first | (go_at_call 93; (with_reducible refine (snowlineref04_walk.calls k2 a0_0 _ _ l0_1 ((rd_T39 l0_1 (rd l1 0)).f0) ((rd_T39 l0_1 (rd l1 0)).f0) _ _ l1 t794 t795 _ ?side1 ?side2 ?side3 ?side4 A34.out).mono ?_); (case side1 => exact cS_ (cB_ HR0_1.out HB.out)); (case side2 => exact HC0_1.out); (case side3 => exact cS_ (cB_ HR1.out HB.out)); (case side4 => exact HC1.out); rintro e w37 ⟨rfl, hb⟩; replace BK785 := Z_ (bB_ (g := gb785) (o := .cells #[.int .i64 a0_0, .slice (some ad793) l0_1.length c0_1] 24 (0, 0)) (bR_ BK785.out) hb); replace HB := Z_ (fS_ hB_ hb); (try clear hb); (try clear hb2); (try clear hk); (try clear hi))); repeat (go_quiet (first | (go_at_call 93; (with_reducible refine (snowlineref04_walk.calls k2 a0_0 _ _ l0_1 ((rd_T39 l0_1 (rd l1 0)).f0) ((rd_T39 l0_1 (rd l1 0)).f0) _ _ l1 t794 t795 _ ?side1 ?side2 ?side3 ?side4 A34.out).mono ?_); (case side1 => exact cS_ (cB_ HR0_1.out HB.out)); (case side2 => exact HC0_1.out); (case side3 => exact cS_ (cB_ HR1.out HB.out)); (case side4 => exact HC1.out); rintro e w37 ⟨rfl, hb⟩; replace BK785 := Z_ (bB_ (g := gb785) (o := .cells #[.int .i64 a0_0, .slice (some ad793) l0_1.length c0_1] 24 (0, 0)) (bR_ BK785.out) hb); replace HB := Z_ (fS_ hB_ hb); (try clear hb); (try clear hb2); (try clear hk); (try clear hi))); go_upto_region 17 with (first | (go_at_call 93; (with_reducible refine (snowlineref04_walk.calls k2 a0_0 _ _ l0_1 ((rd_T39 l0_1 (rd l1 0)).f0) ((rd_T39 l0_1 (rd l1 0)).f0) _ _ l1 t794 t795 _ ?side1 ?side2 ?side3 ?side4 A34.out).mono ?_); (case side1 => exact cS_ (cB_ HR0_1.out HB.out)); (case side2 => exact HC0_1.out); (case side3 => exact cS_ (cB_ HR1.out HB.out)); (case side4 => exact HC1.out); rintro e w37 ⟨rfl, hb⟩; replace BK785 := Z_ (bB_ (g := gb785) (o := .cells #[.int .i64 a0_0, .slice (some ad793) l0_1.length c0_1] 24 (0, 0)) (bR_ BK785.out) hb); replace HB := Z_ (fS_ hB_ hb); (try clear hb); (try clear hb2); (try clear hk); (try clear hi))))
          (try simp only [Act.put, sT_, sZ_, sS_])
          go_cut [78] (fun v78 wc => ∃ (kq : Nat) (x78_34 : Bool), v78 = .bool x78_34 ∧ Aside0 (snowlineref04_CheckClash.j3 kq x78_34 = some r) ∧ Aside0 (kq ≤ k2) ∧ Aside0 (wc.heap[gb785]? = some (.cells #[.int .i64 a0_0, (.slice (some ad793) l0_1.length c0_1)] 24 (0, 0))) ∧ Aside0 (Below w.heap.size w wc))
          case first =>
           have H := HC35.out; clear HC35; by_cases c38 : t795 = true
           ·subst c38
            rw [if_pos rfl] at H; have H' := Z_ H; clear H; go_wp2; repeat (go_quiet (fail); try go_wp2)
            go_meet
            case rel => exact ⟨_, (decide (t794 ≥ 0)), rf_, H', ⟨by have := HJ13.out; have := HK2.out; first | omega | exact nR_ _⟩, ⟨bR_ BK785.out⟩, ⟨hB_⟩⟩
           replace c38 := bE_.mpr c38; subst c38; have H1 : (snowlineref04_CheckClash.j3 k2 true) = some r := by rw [if_neg (show ¬ (false = true) by decide)] at H; exact H
           clear H; have H := H1; clear H1; have H' := Z_ H; clear H; go_wp2; repeat (go_quiet (fail); try go_wp2)
           go_meet
           case rel => exact ⟨_, (true), rf_, H', ⟨by have := HJ13.out; have := HK2.out; first | omega | exact nR_ _⟩, ⟨bR_ BK785.out⟩, ⟨hB_⟩⟩
          case rest =>
           clear HC35; (try clear c1); (try clear c2); (try clear p2); (try clear c3); (try clear p6); (try clear p7); (try clear q7); (try clear hx7); (try clear qi7); (try clear c8); (try clear c8b0); (try clear c8b1); (try clear c13); (try clear c15); (try clear c15b0); (try clear c15b1); (try clear c15b2); (try clear c17); (try clear c18); (try clear c18b0); (try clear c19); (try clear c19b0); (try clear c20); (try clear c20b0); (try clear c21); (try clear c21b0); (try clear c22); (try clear c22b0); (try clear c23); (try clear c23b0); (try clear c24); (try clear c24b0); (try clear c25); (try clear c25b0); (try clear c26); (try clear c26b0); (try clear c27); (try clear c27b0); (try clear c28); (try clear c28b0); (try clear c28b1); (try clear c31); (try clear c31b0); (try clear c31b1); (try clear c32); (try clear c32b0); (try clear c33); (try clear c33b0); (try clear c38); (try clear hcz11_0); (try clear hcz11_1); (try clear hcz16_0); (try clear hcz16_1); (try clear hcz29_0); (try clear hcz29_1); (try clear hcz30_0); (try clear hcz30_1); (try clear hcz36_0); (try clear hcz36_1); (try clear hcz6_0); (try clear hcz6_1); (try clear hfz11_0); (try clear hfz11_1); (try clear hfz16_0); (try clear hfz16_1); (try clear hfz29_0); (try clear hfz29_1); (try clear hfz30_0); (try clear hfz30_1); (try clear hfz36_0); (try clear hfz36_1); (try clear hfz6_0); (try clear hfz6_1); (try clear hx788_0); (try clear hx789_0); (try clear hx789_1); (try clear hx789_2); (try clear hx790_0); (try clear hx791_0); (try clear hx791_1); (try clear hx791_2); (try clear hx792_0); (try clear hx793_0); (try clear hx793_1); (try clear hx793_2); (try clear p2); (try clear p788); (try clear p789); (try clear p790); (try clear p791); (try clear p792); (try clear p793); (try clear q788); (try clear q789); (try clear q790); (try clear q791); (try clear q792); (try clear q793)
           obtain ⟨kq, x78_34, rfl, HA, HJ34, BK785, HB⟩ := hcut
           cases kq with
           | zero => exact absurd HA.out (by simp [snowlineref04_CheckClash.j3])
           | succ kj34 =>
            have H := HA.out; clear HA; simp only [snowlineref04_CheckClash.j3] at H; by_cases c39 : x78_34 = true
            ·subst c39
             rw [if_pos rfl] at H; obtain rfl := oI_ H; go_wp2; repeat (go_quiet (fail); try go_wp2)
             go_ret; exact ⟨eW_, hB_⟩
            replace c39 := bE_.mpr c39; subst c39; have H1 : (some 0) = some r := by rw [if_neg (show ¬ (false = true) by decide)] at H; exact H
            clear H; have H := H1; clear H1; obtain rfl := oI_ H; go_wp2; repeat (go_quiet (fail); try go_wp2)
            go_ret; exact ⟨eW_, hB_⟩
         rw [if_neg c33] at H; exact absurd H (by simp)
        rw [if_neg c32] at H; exact absurd H (by simp)
       rw [if_neg c31] at H; exact absurd H (by simp)
  replace c13 := bE_.mpr c13; subst c13; have H1 : (some 1) = some r := by rw [if_neg (show ¬ (false = true) by decide)] at H; exact H
  clear H; have H := H1; clear H1; obtain rfl := oI_ H; go_wp2; repeat (go_quiet (fail); try go_wp2)
  go_ret; exact ⟨eW_, hB_⟩
 rw [if_neg c8] at H; obtain ⟨c8b0, c8b1⟩ := bn_ c8; (first | rw [c8b0] | (simp only [i64_w, i32_w]; rw [c8b0]) | skip)
 obtain rfl := oI_ H; go_wp2; repeat (go_quiet (fail); try go_wp2)
 go_ret; exact ⟨eW_, hB_⟩
end Go.Proofs.Ytpolojoeabmhdaa.A
/- The reference: CheckClash. -/
namespace Go.Proofs.Ytpolojoeabmhdaa.A
open Go.RowKit Go.Proofs.YtpolojoeabmhdaaW.PrintWords Go.Proofs.YtpolojoeabmhdaaW.PrintLast Go.Proofs.YtpolojoeabmhdaaW.PrintMore
section
variable {n : Nat} {L : List S39}
theorem rcclash_l1 (hE : EdgesOk n L) {l : List Int} (hi : Idx L l) (hl : l.length ≤ 65536) (N : Int) {i : Int} (i0 : 0 ≤ i) (i1 : i < l.length) {e : Int} (hgo : (∀ j, 0 ≤ j → j < i → st L l i ≠ st L l j) → Ev (fun k => snowlineref04_CheckClash.l0 k l (i + 1) N L) e) (hbad : (∃ j, 0 ≤ j ∧ j < i ∧ st L l i = st L l j) → e = 43) : ∀ (q : Nat) (j : Int), (q : Int) + j = i → 0 ≤ j → (∀ a, 0 ≤ a → a < j → st L l i ≠ st L l a) →
    Ev (fun k => snowlineref04_CheckClash.l1 k l i j N L) e := by
  intro q
  induction q with
  | zero =>
    intro j hq h0 ha
    exact Ev.step (fun k => by rw [snowlineref04_CheckClash.l1, if_neg (by omega), wrap_id (x := i + 1) (by omega) (by omega)]) (hgo (fun a a0 a1 => ha a a0 (by omega)))
  | succ q ih =>
    intro j hq h0 ha
    have hx := hi i i0 i1
    have hy := hi j h0 (by omega)
    by_cases c : st L l i = st L l j
    · rw [hbad ⟨j, h0, by omega, c⟩]
      exact Ev.step (f := fun _ => some 43) (fun k => by rw [snowlineref04_CheckClash.l1, if_pos (by omega), if_pos i0, if_pos i1, if_pos hx.1, if_pos hx.2, if_pos h0, if_pos (by omega), if_pos hy.1, if_pos hy.2, if_pos c]) (Ev.now _)
    · refine Ev.step (fun k => ?_) (ih (j + 1) (by omega) (by omega) (fun a a0 a1 => ?_))
      · rw [snowlineref04_CheckClash.l1, if_pos (by omega), if_pos i0, if_pos i1, if_pos hx.1, if_pos hx.2, if_pos h0, if_pos (by omega), if_pos hy.1, if_pos hy.2, if_neg c, wrap_id (x := j + 1) (by omega) (by omega)]
      · by_cases e : a = j
        · rw [e]; exact c
        · exact ha a a0 (by omega)
theorem rcclash_l0 (hE : EdgesOk n L) {l : List Int} (hi : Idx L l) (h0 : 0 < l.length) (hn : (l.length : Int) ≤ n) (hn2 : n ≤ 256) (N : Int) : ∀ (q : Nat) (i : Int), (q : Int) + i = l.length → 0 ≤ i → (∀ a b, 0 ≤ a → a < b → b < i → st L l a ≠ st L l b) →
    ∃ e, Ev (fun k => snowlineref04_CheckClash.l0 k l i N L) e ∧ (ClashIs n L l → e = 0) ∧ (¬ ClashIs n L l → e = 43) := by
  intro q
  induction q with
  | zero =>
    intro i hq hi0 hd
    have x0 := hi 0 (by omega) (by omega)
    obtain ⟨W, b, g1, g2, g3⟩ := rwalk_ev hE hi (by omega) N (st L l 0) (st L l 0)
    have hin : ∀ {e}, Ev (fun k => if b = true then snowlineref04_CheckClash.j3 k (decide (W ≥ 0)) else snowlineref04_CheckClash.j3 k true) e → Ev (fun k => snowlineref04_CheckClash.l0 k l i N L) e := fun h =>
      Ev.step (f := fun k => (snowlineref04_walk.f k N L (st L l 0) (st L l 0) l).bind fun t => if t.2 = true then snowlineref04_CheckClash.j3 k (decide (t.1 ≥ 0)) else snowlineref04_CheckClash.j3 k true) (fun k => by rw [snowlineref04_CheckClash.l0, if_neg (by omega), if_pos (by omega), if_pos x0.1, if_pos x0.2]) (g1.bind h)
    have hT : Ev (fun k => snowlineref04_CheckClash.j3 k true) 43 := Ev.step (f := fun _ => some 43) (fun k => by rw [snowlineref04_CheckClash.j3]; rfl) (Ev.now _)
    cases b with
    | false => exact ⟨43, hin (Ev.neg (by decide) hT), fun h => by
        obtain ⟨W', _, h2⟩ := h.w
        exact absurd h2 (g3 rfl _), fun _ => rfl⟩
    | true =>
      have w1 := g2 rfl
      by_cases hW : W ≥ 0
      · refine ⟨43, hin (Ev.pos rfl ?_), fun h => ?_, fun _ => rfl⟩
        · rw [decide_eq_true hW]; exact hT
        · obtain ⟨W', h1, h2⟩ := h.w
          have := w1.unique h2
          omega
      · refine ⟨0, hin (Ev.pos rfl ?_), fun _ => rfl, fun h => absurd ⟨hi, h0, hn, fun a b a0 ab b1 => hd a b a0 ab (by omega), _, by omega, w1⟩ h⟩
        rw [decide_eq_false hW]
        exact Ev.step (f := fun _ => some 0) (fun k => by rw [snowlineref04_CheckClash.j3]; rfl) (Ev.now _)
  | succ q ih =>
    intro i hq hi0 hdd
    have hlt : i < (l.length : Int) := by omega
    by_cases hc : ∃ j, 0 ≤ j ∧ j < i ∧ st L l i = st L l j
    · refine ⟨43, Ev.step (f := fun k => snowlineref04_CheckClash.l1 k l i 0 N L) (fun k => by rw [snowlineref04_CheckClash.l0, if_pos hlt]) (rcclash_l1 hE hi (by omega) N hi0 hlt (fun h => ?_) (fun _ => rfl) i.toNat 0 (by omega) (by omega) (fun a a0 a1 => by omega)), fun h => ?_, fun _ => rfl⟩
      · obtain ⟨j, j0, j1, j2⟩ := hc
        exact absurd j2 (h j j0 j1)
      · obtain ⟨j, j0, j1, j2⟩ := hc
        exact absurd j2.symm (h.d j i j0 j1 hlt)
    · obtain ⟨e, g1, g2⟩ := ih (i + 1) (by omega) (by omega) (fun a b a0 ab b1 => by
        by_cases e : b = i
        · rw [e]; intro h; exact hc ⟨a, a0, by omega, h.symm⟩
        · exact hdd a b a0 ab (by omega))
      exact ⟨e, Ev.step (f := fun k => snowlineref04_CheckClash.l1 k l i 0 N L) (fun k => by rw [snowlineref04_CheckClash.l0, if_pos hlt]) (rcclash_l1 hE hi (by omega) N hi0 hlt (fun _ => g1) (fun h => absurd h hc) i.toNat 0 (by omega) (by omega) (fun a a0 a1 => by omega)), g2⟩
theorem rcclash_ev (hV : Valid n L) (l : List Int) (hl : l.length ≤ 17592186044416) : ∃ e, Ev (fun k => snowlineref04_CheckClash.f k n L l) e ∧ Code (Idx L l) (ClashIs n L l) e := by
  have hn1 := hV.n1
  have hn2 := hV.n2
  have hc := rcheck_ev n L
  rw [if_pos (validB_iff.2 hV)] at hc
  obtain ⟨b, b1, b2⟩ := rindices_ev (L := L) l hl n
  have hin : ∀ {e}, Ev (fun k => if b = true then (if (l.length : Int) = 0 then (snowlineref04_CheckClash.j0 k l true n L) else (snowlineref04_CheckClash.j0 k l (decide ((l.length : Int) > n)) n L)) else (some 1)) e → Ev (fun k => snowlineref04_CheckClash.f k n L l) e := fun h => by
    unfold snowlineref04_CheckClash.f
    exact hc.bind (Ev.pos rfl (b1.bind h))
  cases b with
  | false => exact ⟨1, hin (Ev.neg (by decide) (Ev.now _)), fun _ => rfl, fun h => absurd (b2.2 h) (by decide), fun h => absurd (b2.2 h) (by decide)⟩
  | true =>
    have hi := b2.1 rfl
    have hT : Ev (fun k => snowlineref04_CheckClash.j0 k l true n L) 43 := Ev.step (f := fun _ => some 43) (fun k => by rw [snowlineref04_CheckClash.j0]; rfl) (Ev.now _)
    by_cases c1 : (l.length : Int) = 0
    · exact ⟨43, hin (Ev.pos rfl (Ev.pos c1 hT)), fun h => absurd hi h, fun _ _ => rfl, fun _ h => by have := h.n0; omega⟩
    by_cases c2 : (l.length : Int) > n
    · refine ⟨43, hin (Ev.pos rfl (Ev.neg c1 ?_)), fun h => absurd hi h, fun _ _ => rfl, fun _ h => by have := h.n1; omega⟩
      rw [decide_eq_true c2]; exact hT
    · obtain ⟨e, g1, g2, g3⟩ := rcclash_l0 hV.e hi (by omega) (by omega) (by omega) n l.length 0 (by omega) (by omega) (fun a b a0 ab b1 => by omega)
      refine ⟨e, hin (Ev.pos rfl (Ev.neg c1 ?_)), fun h => absurd hi h, fun _ h => g3 h, fun _ h => g2 h⟩
      rw [decide_eq_false c2]
      exact Ev.step (fun k => by rw [snowlineref04_CheckClash.j0, if_neg (by decide)]) g1
theorem rcclash_bad {m : Int} (hv : ¬ validB m L = true) (l : List Int) : Ev (fun k => snowlineref04_CheckClash.f k m L l) 40 := by
  have hc := rcheck_ev m L
  rw [if_neg hv] at hc
  unfold snowlineref04_CheckClash.f
  exact hc.bind (Ev.neg (by decide) (Ev.now _))
end
end Go.Proofs.Ytpolojoeabmhdaa.A
namespace Go.Proofs.Ytpolojoeabmhdaa.A
open Go.RowKit Go.Proofs.YtpolojoeabmhdaaW.PrintWords Go.Proofs.YtpolojoeabmhdaaW.PrintLast Go.Proofs.YtpolojoeabmhdaaW.PrintMore
attribute [local go_sem] max2_int min2_int max_two min_two max_three min_three max_four min_four
mutual
def snowlineref04_Numbers.l0 : Nat → List Int → Int → Option (Bool)
 | 0, _, _ => none
 | k + 1, x1, x5 => if x5 < (x1.length : Int) then (if 0 ≤ x5 then (if (rd x1 x5) < (-1099511627776) then (snowlineref04_Numbers.j1 k x1 x5 true) else (snowlineref04_Numbers.j1 k x1 x5 (decide ((rd x1 x5) > 1099511627776)))) else (none)) else (some true)
def snowlineref04_Numbers.j1 : Nat → List Int → Int → Bool → Option (Bool)
 | 0, _, _, _ => none
 | k + 1, x1, x5, x28 => if x28 = true then (some false) else (snowlineref04_Numbers.l0 k x1 (wrap64 (x5 + 1)))
end
def snowlineref04_Numbers.f (k : Nat) (a0_0 : Int) (l0_1 : List (S39)) (l1 : List Int) : Option (Bool) := if (l1.length : Int) = a0_0 then (snowlineref04_Numbers.l0 k l1 0) else (some false)
theorem snowlineref04_Numbers.mono_l : ∀ k, (∀ y0 y1, LeO (snowlineref04_Numbers.l0 k y0 y1) (snowlineref04_Numbers.l0 (k + 1) y0 y1)) ∧ (∀ y0 y1 y2, LeO (snowlineref04_Numbers.j1 k y0 y1 y2) (snowlineref04_Numbers.j1 (k + 1) y0 y1 y2))
 | 0 => ⟨fun _ _ r h => by simp [snowlineref04_Numbers.l0] at h, fun _ _ _ r h => by simp [snowlineref04_Numbers.j1] at h⟩
 | k + 1 => by
  obtain ⟨ih0, ih1⟩ := snowlineref04_Numbers.mono_l k; refine ⟨?_, ?_⟩ <;> intros <;> (first | unfold snowlineref04_Numbers.l0 | unfold snowlineref04_Numbers.j1) <;> repeat' first | (with_reducible first | exact ih0 _ _ | exact ih1 _ _ _ | exact LeO.refl _ | exact LeO.none _ | refine LeO.ite ?_ ?_ | refine LeO.bind ?_ (fun _ => ?_)) | exact ih0 _ _ | exact ih1 _ _ _ | exact LeO.none _ | refine LeO.ite ?_ ?_ | refine LeO.bind ?_ (fun _ => ?_)
theorem snowlineref04_Numbers.mono : ∀ a0 a1 a2 k, LeO (snowlineref04_Numbers.f k a0 a1 a2) (snowlineref04_Numbers.f (k + 1) a0 a1 a2) := by
 intro a0 a1 a2 k; obtain ⟨ih0, ih1⟩ := snowlineref04_Numbers.mono_l k; unfold snowlineref04_Numbers.f; repeat' first | (with_reducible first | exact ih0 _ _ | exact ih1 _ _ _ | exact LeO.refl _ | exact LeO.none _ | refine LeO.ite ?_ ?_ | refine LeO.bind ?_ (fun _ => ?_)) | exact ih0 _ _ | exact ih1 _ _ _ | exact LeO.none _ | refine LeO.ite ?_ ?_ | refine LeO.bind ?_ (fun _ => ?_)
set_option maxHeartbeats 8000000 in
set_option maxRecDepth 100000 in
theorem snowlineref04_Numbers.calls (k : Nat) (a0_0 : Int) (A0_1 : Option Addr) (c0_1 : Nat) (l0_1 : List (S39)) (A1 : Option Addr) (c1 : Nat) (l1 : List Int) (r : Bool) (w : World) (hr0_1 : Kd.C k39 w A0_1 l0_1.length l0_1) (hc0_1 : l0_1.length ≤ c0_1) (hr1 : Kd.C (Kd.int .i64) w A1 l1.length l1) (hc1 : l1.length ≤ c1) (h : snowlineref04_Numbers.f k a0_0 l0_1 l1 = some r) :
  Calls Try.prog 95 #[.agg #[.int .i64 a0_0, .slice A0_1 l0_1.length c0_1], .slice A1 l1.length c1] w fun e w' => e = .returned (.bool r) ∧ Below w.heap.size w w' := by
 have hu24 := Try.underlying24; have HR0_1 := Z_ hr0_1; have HC0_1 := Z_ hc0_1; clear hr0_1 hc0_1; have HR1 := Z_ hr1; have HC1 := Z_ hc1; clear hr1 hc1; have HB := Z_ (Below.refl w.heap.size w); have H : (if (l1.length : Int) = a0_0 then (snowlineref04_Numbers.l0 k l1 0) else (some false)) = some r := h; clear h; by_cases c3 : (l1.length : Int) = a0_0
 ·rw [if_pos c3] at H
  have c3b0 : ((l1.length : Int) == a0_0) = true := beq_iff_eq.mpr c3; have c3b1 : ((l1.length : Int) != a0_0) = false := bne_eq_false_iff_eq.mpr c3; clear c3; have H' := Z_ H; clear H; go_enter Try.func95, Try.ntmps95; go_wp2_with (first | ((with_reducible refine gate_dst (N := 2) rfl ?_); refine bX_ 2 #[.int .i64 a0_0, .slice A0_1 l0_1.length c0_1] 24 ?_; intro gb812 hg w4 hbox hb; have BK812 := Z_ (hbox); have GW812 := Z_ ((by rw [hg]; exact (fZ_ hB_) : w.heap.size ≤ gb812)); have GE812 := Z_ ((by rw [hg]; exact (fZ_ hB_) : w.heap.size ≤ gb812)); replace HB := Z_ (fS_ hB_ hb); clear hb hbox hg; obtain ⟨⟨hcz5_0, hcz5_1⟩, hfz5_0, hfz5_1⟩ := f2_ BK812.out)); go_loopg [5] k (fun kq v5 w' => ∃ (x5_1 : Int), v5 = .int .i64 x5_1 ∧ Aside0 (snowlineref04_Numbers.l0 kq l1 x5_1 = some r) ∧ Aside0 (kq ≤ k) ∧ Aside0 (w'.heap[gb812]? = some (.cells #[.int .i64 a0_0, (.slice A0_1 l0_1.length c0_1)] 24 (0, 0))) ∧ Aside0 (Below w.heap.size w w'))
  case atStart => exact ⟨(0), rf_, H', ⟨nR_ _⟩, ⟨bR_ BK812.out⟩, ⟨hB_⟩⟩
  case round =>
   clear H'; (try clear c1); (try clear p2); (try clear c3); (try clear c3b0); (try clear c3b1); (try clear hcz5_0); (try clear hcz5_1); (try clear hfz5_0); (try clear hfz5_1)
   obtain ⟨x5_1, rfl, HA, HK1, BK812, HB⟩ := hrel
   cases gk with
   | zero => exact absurd HA.out (by simp [snowlineref04_Numbers.l0])
   | succ k1 =>
    have H := HA.out; clear HA; simp only [snowlineref04_Numbers.l0] at H; by_cases c6 : x5_1 < (l1.length : Int)
    ·rw [if_pos c6] at H
     have c6b0 : decide (x5_1 < (l1.length : Int)) = true := eT_ c6; clear c6; have HC7 := Z_ H; clear H; go_upto_region 6 with (fail); go_cut [28] (fun v28 wc => ∃ (kq : Nat) (x28_6 : Bool), v28 = .bool x28_6 ∧ Aside0 (snowlineref04_Numbers.j1 kq l1 x5_1 x28_6 = some r) ∧ Aside0 (kq ≤ k1) ∧ Aside0 (wc.heap[gb812]? = some (.cells #[.int .i64 a0_0, (.slice A0_1 l0_1.length c0_1)] 24 (0, 0))) ∧ Aside0 (Below w.heap.size w wc))
     case first =>
      have H := HC7.out; clear HC7; by_cases c8 : 0 ≤ x5_1
      ·rw [if_pos c8] at H
       have c8b0 : decide (0 ≤ x5_1) = true := eT_ c8; clear c8; (first | rw [c8b0] | (simp only [i64_w, i32_w]; rw [c8b0]) | skip)
       by_cases c9 : (rd l1 x5_1) < (-1099511627776)
       ·rw [if_pos c9] at H
        have c9b0 : decide ((rd l1 x5_1) < (-1099511627776)) = true := eT_ c9; clear c9; have H' := Z_ H; clear H; have p813 : 0 ≤ (x5_1 : Int) := dT_ as_; have q813 : x5_1 < (l1.length : Int) := dT_ as_; obtain ⟨ad813, e813, hx813_0⟩ := Kd.at_int HR1.out x5_1 p813 q813; cases e813
        replace hx813_0 := (HB.out.cell (World.block_lt_of_cell? w _ hx813_0)).trans hx813_0; replace p813 := eq_true p813; replace q813 := eq_true q813; go_wp2; go_meet
        case rel => exact ⟨_, (true), rf_, H', ⟨by have := HK1.out; first | omega | exact nR_ _⟩, ⟨bR_ BK812.out⟩, ⟨hB_⟩⟩
       rw [if_neg c9] at H; have c9b0 : decide ((rd l1 x5_1) < (-1099511627776)) = false := eF_ c9; clear c9; have H' := Z_ H; clear H; have p813 : 0 ≤ (x5_1 : Int) := dT_ as_; have q813 : x5_1 < (l1.length : Int) := dT_ as_; obtain ⟨ad813, e813, hx813_0⟩ := Kd.at_int HR1.out x5_1 p813 q813; cases e813
       replace hx813_0 := (HB.out.cell (World.block_lt_of_cell? w _ hx813_0)).trans hx813_0; replace p813 := eq_true p813; replace q813 := eq_true q813; have p814 : 0 ≤ (x5_1 : Int) := dT_ as_; have q814 : x5_1 < (l1.length : Int) := dT_ as_; obtain ⟨ad814, e814, hx814_0⟩ := Kd.at_int HR1.out x5_1 p814 q814; obtain rfl : ad813 = ad814 := (by injection e814); replace hx814_0 := (HB.out.cell (World.block_lt_of_cell? w _ hx814_0)).trans hx814_0; replace p814 := eq_true p814; replace q814 := eq_true q814; go_wp2; go_meet
       case rel => exact ⟨_, (decide ((rd l1 x5_1) > 1099511627776)), rf_, H', ⟨by have := HK1.out; first | omega | exact nR_ _⟩, ⟨bR_ BK812.out⟩, ⟨hB_⟩⟩
      rw [if_neg c8] at H; exact absurd H (by simp)
     case rest =>
      clear HC7; (try clear c1); (try clear p2); (try clear c3); (try clear c3b0); (try clear c3b1); (try clear c6); (try clear c6b0); (try clear c8); (try clear c8b0); (try clear p8); (try clear q8); (try clear hx8); (try clear c9); (try clear c9b0); (try clear hcz5_0); (try clear hcz5_1); (try clear hfz5_0); (try clear hfz5_1); (try clear hx813_0); (try clear hx814_0); (try clear p2); (try clear p813); (try clear p814); (try clear q813); (try clear q814)
      obtain ⟨kq, x28_6, rfl, HA, HJ6, BK812, HB⟩ := hcut
      cases kq with
      | zero => exact absurd HA.out (by simp [snowlineref04_Numbers.j1])
      | succ kj6 =>
       have H := HA.out; clear HA; simp only [snowlineref04_Numbers.j1] at H; by_cases c10 : x28_6 = true
       ·subst c10
        rw [if_pos rfl] at H; obtain rfl := oI_ H; go_wp2; go_ret; exact ⟨eW_, hB_⟩
       replace c10 := bE_.mpr c10; subst c10; have H1 : (snowlineref04_Numbers.l0 kj6 l1 (wrap64 (x5_1 + 1))) = some r := by rw [if_neg (show ¬ (false = true) by decide)] at H; exact H
       clear H; have H := H1; clear H1; have H' := Z_ H; clear H; go_wp2; go_roundg kj6
       case measure => have := HK1.out; have := HJ6.out; omega
       case rel => exact ⟨(wrap64 (x5_1 + 1)), rf_, H', ⟨by have := HK1.out; have := HJ6.out; omega⟩, ⟨bR_ BK812.out⟩, ⟨hB_⟩⟩
    rw [if_neg c6] at H; have c6b0 : decide (x5_1 < (l1.length : Int)) = false := eF_ c6; clear c6; obtain rfl := oI_ H; go_wp2; go_ret; exact ⟨eW_, hB_⟩
 rw [if_neg c3] at H; have c3b0 : ((l1.length : Int) == a0_0) = false := beq_eq_false_iff_ne.mpr c3; have c3b1 : ((l1.length : Int) != a0_0) = true := bne_iff_ne.mpr c3; obtain rfl := oI_ H; go_enter Try.func95, Try.ntmps95; go_wp2_with (first | ((with_reducible refine gate_dst (N := 2) rfl ?_); refine bX_ 2 #[.int .i64 a0_0, .slice A0_1 l0_1.length c0_1] 24 ?_; intro gb812 hg w11 hbox hb; have BK812 := Z_ (hbox); have GW812 := Z_ ((by rw [hg]; exact (fZ_ hB_) : w.heap.size ≤ gb812)); have GE812 := Z_ ((by rw [hg]; exact (fZ_ hB_) : w.heap.size ≤ gb812)); replace HB := Z_ (fS_ hB_ hb); clear hb hbox hg; obtain ⟨⟨hcz12_0, hcz12_1⟩, hfz12_0, hfz12_1⟩ := f2_ BK812.out)); go_ret; exact ⟨eW_, hB_⟩
mutual
def snowlineref04_Fulfils.j0 : Nat → List Int → Bool → Int → List (S39) → Option (Bool)
 | 0, _, _, _, _ => none
 | k + 1, x1, x16, x816000, x816001 => if x16 = true then (some false) else (snowlineref04_Fulfils.l0 k x1 0 x816000 x816001)
def snowlineref04_Fulfils.l0 : Nat → List Int → Int → Int → List (S39) → Option (Bool)
 | 0, _, _, _, _ => none
 | k + 1, x1, x5, x816000, x816001 => if x5 < (x816001.length : Int) then (if 0 ≤ x5 then (if 0 ≤ ((rd_T39 x816001 x5).f1) then (if ((rd_T39 x816001 x5).f1) < (x1.length : Int) then (if 0 ≤ ((rd_T39 x816001 x5).f0) then (if ((rd_T39 x816001 x5).f0) < (x1.length : Int) then (if (wrap64 ((rd x1 ((rd_T39 x816001 x5).f1)) - (rd x1 ((rd_T39 x816001 x5).f0)))) > ((rd_T39 x816001 x5).f2) then (some false) else (snowlineref04_Fulfils.l0 k x1 (wrap64 (x5 + 1)) x816000 x816001)) else (none)) else (none)) else (none)) else (none)) else (none)) else (some true)
end
def snowlineref04_Fulfils.f (k : Nat) (a0_0 : Int) (l0_1 : List (S39)) (l1 : List Int) : Option (Bool) := (snowlineref04_Numbers.f k a0_0 l0_1 l1).bind fun t816 => (if t816 = true then (if 0 < (l1.length : Int) then (snowlineref04_Fulfils.j0 k l1 ((rd l1 0) != 0) a0_0 l0_1) else (none)) else (snowlineref04_Fulfils.j0 k l1 true a0_0 l0_1))
theorem snowlineref04_Fulfils.mono_l : ∀ k, (∀ y0 y1 y2 y3, LeO (snowlineref04_Fulfils.j0 k y0 y1 y2 y3) (snowlineref04_Fulfils.j0 (k + 1) y0 y1 y2 y3)) ∧ (∀ y0 y1 y2 y3, LeO (snowlineref04_Fulfils.l0 k y0 y1 y2 y3) (snowlineref04_Fulfils.l0 (k + 1) y0 y1 y2 y3))
 | 0 => ⟨fun _ _ _ _ r h => by simp [snowlineref04_Fulfils.j0] at h, fun _ _ _ _ r h => by simp [snowlineref04_Fulfils.l0] at h⟩
 | k + 1 => by
  obtain ⟨ih0, ih1⟩ := snowlineref04_Fulfils.mono_l k; refine ⟨?_, ?_⟩ <;> intros <;> (first | unfold snowlineref04_Fulfils.j0 | unfold snowlineref04_Fulfils.l0) <;> repeat' first | (with_reducible first | exact ih0 _ _ _ _ | exact ih1 _ _ _ _ | exact snowlineref04_Numbers.mono _ _ _ _ | exact LeO.refl _ | exact LeO.none _ | refine LeO.ite ?_ ?_ | refine LeO.bind ?_ (fun _ => ?_)) | exact ih0 _ _ _ _ | exact ih1 _ _ _ _ | exact snowlineref04_Numbers.mono _ _ _ _ | exact LeO.none _ | refine LeO.ite ?_ ?_ | refine LeO.bind ?_ (fun _ => ?_)
theorem snowlineref04_Fulfils.mono : ∀ a0 a1 a2 k, LeO (snowlineref04_Fulfils.f k a0 a1 a2) (snowlineref04_Fulfils.f (k + 1) a0 a1 a2) := by
 intro a0 a1 a2 k; obtain ⟨ih0, ih1⟩ := snowlineref04_Fulfils.mono_l k; unfold snowlineref04_Fulfils.f; repeat' first | (with_reducible first | exact ih0 _ _ _ _ | exact ih1 _ _ _ _ | exact snowlineref04_Numbers.mono _ _ _ _ | exact LeO.refl _ | exact LeO.none _ | refine LeO.ite ?_ ?_ | refine LeO.bind ?_ (fun _ => ?_)) | exact ih0 _ _ _ _ | exact ih1 _ _ _ _ | exact snowlineref04_Numbers.mono _ _ _ _ | exact LeO.none _ | refine LeO.ite ?_ ?_ | refine LeO.bind ?_ (fun _ => ?_)
set_option maxHeartbeats 8000000 in
set_option maxRecDepth 100000 in
theorem snowlineref04_Fulfils.calls (k : Nat) (a0_0 : Int) (A0_1 : Option Addr) (c0_1 : Nat) (l0_1 : List (S39)) (A1 : Option Addr) (c1 : Nat) (l1 : List Int) (r : Bool) (w : World) (hr0_1 : Kd.C k39 w A0_1 l0_1.length l0_1) (hc0_1 : l0_1.length ≤ c0_1) (hr1 : Kd.C (Kd.int .i64) w A1 l1.length l1) (hc1 : l1.length ≤ c1) (h : snowlineref04_Fulfils.f k a0_0 l0_1 l1 = some r) :
  Calls Try.prog 42 #[.agg #[.int .i64 a0_0, .slice A0_1 l0_1.length c0_1], .slice A1 l1.length c1] w fun e w' => e = .returned (.bool r) ∧ Below w.heap.size w w' := by
 have hu24 := Try.underlying24; have hu39 := Try.underlying39; have HR0_1 := Z_ hr0_1; have HC0_1 := Z_ hc0_1; clear hr0_1 hc0_1; have HR1 := Z_ hr1; have HC1 := Z_ hc1; clear hr1 hc1; have HB := Z_ (Below.refl w.heap.size w); have H : ((snowlineref04_Numbers.f k a0_0 l0_1 l1).bind fun t816 => (if t816 = true then (if 0 < (l1.length : Int) then (snowlineref04_Fulfils.j0 k l1 ((rd l1 0) != 0) a0_0 l0_1) else (none)) else (snowlineref04_Fulfils.j0 k l1 true a0_0 l0_1))) = some r := h; clear h; have HC3 := Z_ H; clear H; go_enter Try.func42, Try.ntmps42; go_upto_region 1 with (first | ((with_reducible refine gate_dst (N := 2) rfl ?_); refine bX_ 2 #[.int .i64 a0_0, .slice A0_1 l0_1.length c0_1] 24 ?_; intro gb815 hg w4 hbox hb; have BK815 := Z_ (hbox); have GW815 := Z_ ((by rw [hg]; exact (fZ_ hB_) : w.heap.size ≤ gb815)); have GE815 := Z_ ((by rw [hg]; exact (fZ_ hB_) : w.heap.size ≤ gb815)); replace HB := Z_ (fS_ hB_ hb); clear hb hbox hg)); repeat (go_quiet (first | ((with_reducible refine gate_dst (N := 2) rfl ?_); refine bX_ 2 #[.int .i64 a0_0, .slice A0_1 l0_1.length c0_1] 24 ?_; intro gb815 hg w4 hbox hb; have BK815 := Z_ (hbox); have GW815 := Z_ ((by rw [hg]; exact (fZ_ hB_) : w.heap.size ≤ gb815)); have GE815 := Z_ ((by rw [hg]; exact (fZ_ hB_) : w.heap.size ≤ gb815)); replace HB := Z_ (fS_ hB_ hb); clear hb hbox hg)); go_upto_region 1 with (first | ((with_reducible refine gate_dst (N := 2) rfl ?_); refine bX_ 2 #[.int .i64 a0_0, .slice A0_1 l0_1.length c0_1] 24 ?_; intro gb815 hg w4 hbox hb; have BK815 := Z_ (hbox); have GW815 := Z_ ((by rw [hg]; exact (fZ_ hB_) : w.heap.size ≤ gb815)); have GE815 := Z_ ((by rw [hg]; exact (fZ_ hB_) : w.heap.size ≤ gb815)); replace HB := Z_ (fS_ hB_ hb); clear hb hbox hg)))
 (try simp only [Act.put, sT_, sZ_, sS_])
 go_cut [16] (fun v16 wc => ∃ (kq : Nat) (x16_2 : Bool), v16 = .bool x16_2 ∧ Aside0 (snowlineref04_Fulfils.j0 kq l1 x16_2 a0_0 l0_1 = some r) ∧ Aside0 (kq ≤ k) ∧ Aside0 (wc.heap[gb815]? = some (.cells #[.int .i64 a0_0, (.slice A0_1 l0_1.length c0_1)] 24 (0, 0))) ∧ Aside0 (Below w.heap.size w wc))
 case first =>
  have H := HC3.out; clear HC3; replace H := oS_.mp H; obtain ⟨t816, A50, H⟩ := H; have A5 := Z_ A50; clear A50; by_cases c6 : t816 = true
  ·subst c6
   rw [if_pos rfl] at H; by_cases c7 : 0 < (l1.length : Int)
   ·rw [if_pos c7] at H
    have c7b0 : decide (0 < (l1.length : Int)) = true := eT_ c7; have c7b1 : decide (0 < l1.length) = true := eT_ (by omega); clear c7; (first | rw [c7b0] | (simp only [i64_w, i32_w]; rw [c7b0]) | skip)
    have H' := Z_ H; clear H; obtain ⟨⟨hcz8_0, hcz8_1⟩, hfz8_0, hfz8_1⟩ := f2_ BK815.out; go_wp2_with (first | (go_at_call 95; (with_reducible refine (snowlineref04_Numbers.calls k a0_0 _ _ l0_1 _ _ l1 true _ ?side1 ?side2 ?side3 ?side4 A5.out).mono ?_); (case side1 => exact cS_ (cB_ HR0_1.out HB.out)); (case side2 => exact HC0_1.out); (case side3 => exact cS_ (cB_ HR1.out HB.out)); (case side4 => exact HC1.out); rintro e w9 ⟨rfl, hb⟩; replace BK815 := Z_ (bB_ (g := gb815) (o := .cells #[.int .i64 a0_0, .slice A0_1 l0_1.length c0_1] 24 (0, 0)) (bR_ BK815.out) hb); replace HB := Z_ (fS_ hB_ hb); (try clear hb); (try clear hb2); (try clear hk); (try clear hi); have p817 : 0 ≤ (0 : Int) := (by omega); have q817 : 0 < (l1.length : Int) := dT_ as_; obtain ⟨ad817, e817, hx817_0⟩ := Kd.at_int HR1.out 0 p817 q817; cases e817; have qi817 : (0 < l1.length) = True := eq_true (by omega); (try rw [show ((0 : Int)).toNat = 0 from rfl] at hx817_0); (try rw [Addr.add_zero'] at hx817_0); replace hx817_0 := (HB.out.cell (World.block_lt_of_cell? w _ hx817_0)).trans hx817_0; replace p817 := eq_true p817; replace q817 := eq_true q817)); repeat (go_quiet (first | (go_at_call 95; (with_reducible refine (snowlineref04_Numbers.calls k a0_0 _ _ l0_1 _ _ l1 true _ ?side1 ?side2 ?side3 ?side4 A5.out).mono ?_); (case side1 => exact cS_ (cB_ HR0_1.out HB.out)); (case side2 => exact HC0_1.out); (case side3 => exact cS_ (cB_ HR1.out HB.out)); (case side4 => exact HC1.out); rintro e w9 ⟨rfl, hb⟩; replace BK815 := Z_ (bB_ (g := gb815) (o := .cells #[.int .i64 a0_0, .slice A0_1 l0_1.length c0_1] 24 (0, 0)) (bR_ BK815.out) hb); replace HB := Z_ (fS_ hB_ hb); (try clear hb); (try clear hb2); (try clear hk); (try clear hi); have p817 : 0 ≤ (0 : Int) := (by omega); have q817 : 0 < (l1.length : Int) := dT_ as_; obtain ⟨ad817, e817, hx817_0⟩ := Kd.at_int HR1.out 0 p817 q817; cases e817; have qi817 : (0 < l1.length) = True := eq_true (by omega); (try rw [show ((0 : Int)).toNat = 0 from rfl] at hx817_0); (try rw [Addr.add_zero'] at hx817_0); replace hx817_0 := (HB.out.cell (World.block_lt_of_cell? w _ hx817_0)).trans hx817_0; replace p817 := eq_true p817; replace q817 := eq_true q817)); try go_wp2_with (first | (go_at_call 95; (with_reducible refine (snowlineref04_Numbers.calls k a0_0 _ _ l0_1 _ _ l1 true _ ?side1 ?side2 ?side3 ?side4 A5.out).mono ?_); (case side1 => exact cS_ (cB_ HR0_1.out HB.out)); (case side2 => exact HC0_1.out); (case side3 => exact cS_ (cB_ HR1.out HB.out)); (case side4 => exact HC1.out); rintro e w9 ⟨rfl, hb⟩; replace BK815 := Z_ (bB_ (g := gb815) (o := .cells #[.int .i64 a0_0, .slice A0_1 l0_1.length c0_1] 24 (0, 0)) (bR_ BK815.out) hb); replace HB := Z_ (fS_ hB_ hb); (try clear hb); (try clear hb2); (try clear hk); (try clear hi); have p817 : 0 ≤ (0 : Int) := (by omega); have q817 : 0 < (l1.length : Int) := dT_ as_; obtain ⟨ad817, e817, hx817_0⟩ := Kd.at_int HR1.out 0 p817 q817; cases e817; have qi817 : (0 < l1.length) = True := eq_true (by omega); (try rw [show ((0 : Int)).toNat = 0 from rfl] at hx817_0); (try rw [Addr.add_zero'] at hx817_0); replace hx817_0 := (HB.out.cell (World.block_lt_of_cell? w _ hx817_0)).trans hx817_0; replace p817 := eq_true p817; replace q817 := eq_true q817)))
    go_meet
    case rel => exact ⟨_, (((rd l1 0) != 0)), rf_, H', ⟨oL_⟩, ⟨bR_ BK815.out⟩, ⟨hB_⟩⟩
   rw [if_neg c7] at H; exact absurd H (by simp)
  replace c6 := bE_.mpr c6; subst c6; have H1 : (snowlineref04_Fulfils.j0 k l1 true a0_0 l0_1) = some r := by rw [if_neg (show ¬ (false = true) by decide)] at H; exact H
  clear H; have H := H1; clear H1; have H' := Z_ H; clear H; obtain ⟨⟨hcz10_0, hcz10_1⟩, hfz10_0, hfz10_1⟩ := f2_ BK815.out; go_wp2_with (first | (go_at_call 95; (with_reducible refine (snowlineref04_Numbers.calls k a0_0 _ _ l0_1 _ _ l1 false _ ?side1 ?side2 ?side3 ?side4 A5.out).mono ?_); (case side1 => exact cS_ (cB_ HR0_1.out HB.out)); (case side2 => exact HC0_1.out); (case side3 => exact cS_ (cB_ HR1.out HB.out)); (case side4 => exact HC1.out); rintro e w11 ⟨rfl, hb⟩; replace BK815 := Z_ (bB_ (g := gb815) (o := .cells #[.int .i64 a0_0, .slice A0_1 l0_1.length c0_1] 24 (0, 0)) (bR_ BK815.out) hb); replace HB := Z_ (fS_ hB_ hb); (try clear hb); (try clear hb2); (try clear hk); (try clear hi))); repeat (go_quiet (first | (go_at_call 95; (with_reducible refine (snowlineref04_Numbers.calls k a0_0 _ _ l0_1 _ _ l1 false _ ?side1 ?side2 ?side3 ?side4 A5.out).mono ?_); (case side1 => exact cS_ (cB_ HR0_1.out HB.out)); (case side2 => exact HC0_1.out); (case side3 => exact cS_ (cB_ HR1.out HB.out)); (case side4 => exact HC1.out); rintro e w11 ⟨rfl, hb⟩; replace BK815 := Z_ (bB_ (g := gb815) (o := .cells #[.int .i64 a0_0, .slice A0_1 l0_1.length c0_1] 24 (0, 0)) (bR_ BK815.out) hb); replace HB := Z_ (fS_ hB_ hb); (try clear hb); (try clear hb2); (try clear hk); (try clear hi))); try go_wp2_with (first | (go_at_call 95; (with_reducible refine (snowlineref04_Numbers.calls k a0_0 _ _ l0_1 _ _ l1 false _ ?side1 ?side2 ?side3 ?side4 A5.out).mono ?_); (case side1 => exact cS_ (cB_ HR0_1.out HB.out)); (case side2 => exact HC0_1.out); (case side3 => exact cS_ (cB_ HR1.out HB.out)); (case side4 => exact HC1.out); rintro e w11 ⟨rfl, hb⟩; replace BK815 := Z_ (bB_ (g := gb815) (o := .cells #[.int .i64 a0_0, .slice A0_1 l0_1.length c0_1] 24 (0, 0)) (bR_ BK815.out) hb); replace HB := Z_ (fS_ hB_ hb); (try clear hb); (try clear hb2); (try clear hk); (try clear hi))))
  go_meet
  case rel => exact ⟨_, (true), rf_, H', ⟨oL_⟩, ⟨bR_ BK815.out⟩, ⟨hB_⟩⟩
 case rest =>
  clear HC3; (try clear c1); (try clear p2); (try clear c4); (try clear c6); (try clear c7); (try clear c7b0); (try clear c7b1); (try clear p8); (try clear q8); (try clear hx8); (try clear qi8); (try clear hcz10_0); (try clear hcz10_1); (try clear hcz8_0); (try clear hcz8_1); (try clear hfz10_0); (try clear hfz10_1); (try clear hfz8_0); (try clear hfz8_1); (try clear hx817_0); (try clear p817); (try clear q817)
  obtain ⟨kq, x16_2, rfl, HA, HJ2, BK815, HB⟩ := hcut
  cases kq with
  | zero => exact absurd HA.out (by simp [snowlineref04_Fulfils.j0])
  | succ kj2 =>
   have H := HA.out; clear HA; simp only [snowlineref04_Fulfils.j0] at H; by_cases c12 : x16_2 = true
   ·subst c12
    rw [if_pos rfl] at H; obtain rfl := oI_ H; go_wp2; repeat (go_quiet (fail); try go_wp2)
    go_ret; exact ⟨eW_, hB_⟩
   replace c12 := bE_.mpr c12; subst c12; have H1 : (snowlineref04_Fulfils.l0 kj2 l1 0 a0_0 l0_1) = some r := by rw [if_neg (show ¬ (false = true) by decide)] at H; exact H
   clear H; have H := H1; clear H1; have H' := Z_ H; clear H; go_wp2; repeat (go_quiet (fail); try go_wp2)
   go_loopg [5] kj2 (fun kq v5 w' => ∃ (x5_2 : Int), v5 = .int .i64 x5_2 ∧ Aside0 (snowlineref04_Fulfils.l0 kq l1 x5_2 a0_0 l0_1 = some r) ∧ Aside0 (kq ≤ kj2) ∧ Aside0 (w'.heap[gb815]? = some (.cells #[.int .i64 a0_0, (.slice A0_1 l0_1.length c0_1)] 24 (0, 0))) ∧ Aside0 (Below w.heap.size w w'))
   case atStart => exact ⟨(0), rf_, H', ⟨nR_ _⟩, ⟨bR_ BK815.out⟩, ⟨hB_⟩⟩
   case round =>
    clear H'; (try clear c1); (try clear p2); (try clear c4); (try clear c6); (try clear c7); (try clear c7b0); (try clear c7b1); (try clear p8); (try clear q8); (try clear hx8); (try clear qi8); (try clear c12); (try clear hcz10_0); (try clear hcz10_1); (try clear hcz8_0); (try clear hcz8_1); (try clear hfz10_0); (try clear hfz10_1); (try clear hfz8_0); (try clear hfz8_1); (try clear hx817_0); (try clear p2); (try clear p8); (try clear p817); (try clear q8); (try clear q817)
    obtain ⟨x5_2, rfl, HA, HK2, BK815, HB⟩ := hrel
    cases gk with
    | zero => exact absurd HA.out (by simp [snowlineref04_Fulfils.l0])
    | succ k2 =>
     have H := HA.out; clear HA; simp only [snowlineref04_Fulfils.l0] at H; by_cases c13 : x5_2 < (l0_1.length : Int)
     ·rw [if_pos c13] at H
      have c13b0 : decide (x5_2 < (l0_1.length : Int)) = true := eT_ c13; clear c13; by_cases c14 : 0 ≤ x5_2
      ·rw [if_pos c14] at H
       have c14b0 : decide (0 ≤ x5_2) = true := eT_ c14; clear c14; by_cases c15 : 0 ≤ ((rd_T39 l0_1 x5_2).f1)
       ·rw [if_pos c15] at H
        have c15b0 : decide (0 ≤ ((rd_T39 l0_1 x5_2).f1)) = true := eT_ c15; clear c15; by_cases c16 : ((rd_T39 l0_1 x5_2).f1) < (l1.length : Int)
        ·rw [if_pos c16] at H
         have c16b0 : decide (((rd_T39 l0_1 x5_2).f1) < (l1.length : Int)) = true := eT_ c16; clear c16; by_cases c17 : 0 ≤ ((rd_T39 l0_1 x5_2).f0)
         ·rw [if_pos c17] at H
          have c17b0 : decide (0 ≤ ((rd_T39 l0_1 x5_2).f0)) = true := eT_ c17; clear c17; by_cases c18 : ((rd_T39 l0_1 x5_2).f0) < (l1.length : Int)
          ·rw [if_pos c18] at H
           have c18b0 : decide (((rd_T39 l0_1 x5_2).f0) < (l1.length : Int)) = true := eT_ c18; clear c18; have HF19 := Z_ H; clear H; obtain ⟨⟨hcz20_0, hcz20_1⟩, hfz20_0, hfz20_1⟩ := f2_ BK815.out; have p818 : 0 ≤ (x5_2 : Int) := dT_ as_; have q818 : x5_2 < (l0_1.length : Int) := dT_ as_; obtain ⟨ad818, e818, hx818_0, hx818_1, hx818_2⟩ := at_T39 HR0_1.out x5_2 p818 q818; cases e818
           replace hx818_0 := (HB.out.cell (World.block_lt_of_cell? w _ hx818_0)).trans hx818_0; replace hx818_1 := (HB.out.cell (World.block_lt_of_cell? w _ hx818_1)).trans hx818_1; replace hx818_2 := (HB.out.cell (World.block_lt_of_cell? w _ hx818_2)).trans hx818_2; replace p818 := eq_true p818; replace q818 := eq_true q818; go_upto_if 42 with (first | ((with_reducible refine gate_dst (N := 6) rfl ?_); refine bX_ 6 #[.int .i64 0, .int .i64 0, .int .i64 0] 39 ?_; intro gb819 hg w21 hbox hb; have BK819 := Z_ (hbox); have GW819 := Z_ ((by rw [hg]; exact (fZ_ hB_) : w.heap.size ≤ gb819)); have GE819 := Z_ ((by rw [hg]; exact (fZ_ hB_) : w.heap.size ≤ gb819)); replace HB := Z_ (fS_ hB_ hb); have NB815_819 := Z_ ((by rw [hg]; exact Nat.ne_of_lt (blk_lt (g := gb815) (o := .cells #[.int .i64 a0_0, .slice (some ad818) l0_1.length c0_1] 24 (0, 0)) (bR_ BK815.out)) : gb815 ≠ gb819)); have NB819_815 := Z_ ((by rw [hg]; exact Nat.ne_of_gt (blk_lt (g := gb815) (o := .cells #[.int .i64 a0_0, .slice (some ad818) l0_1.length c0_1] 24 (0, 0)) (bR_ BK815.out)) : gb819 ≠ gb815)); replace BK815 := Z_ (bB_ (g := gb815) (o := .cells #[.int .i64 a0_0, .slice (some ad818) l0_1.length c0_1] 24 (0, 0)) (bR_ BK815.out) hb); clear hb hbox hg; have hnb22 := NB819_815.out; have hnc22 := NB815_819.out; obtain ⟨⟨hcz23_0, hcz23_1, hcz23_2⟩, hfz23_0, hfz23_1, hfz23_2⟩ := f3_ BK819.out; have p820 : 0 ≤ (((rd_T39 l0_1 x5_2).f1) : Int) := dT_ as_; have q820 : ((rd_T39 l0_1 x5_2).f1) < (l1.length : Int) := dT_ as_; obtain ⟨ad820, e820, hx820_0⟩ := Kd.at_int HR1.out ((rd_T39 l0_1 x5_2).f1) p820 q820; cases e820; have hn820_0 : ad820.block ≠ gb819 := Nat.ne_of_lt (Nat.lt_of_lt_of_le (by have := World.block_lt_of_cell? _ _ hx820_0; first | rwa [add_block] at this | exact this) GW819.out); have hn820_1 : ad820.block ≠ gb819 := Nat.ne_of_lt (Nat.lt_of_lt_of_le (by have := World.block_lt_of_cell? _ _ hx820_0; first | rwa [add_block] at this | exact this) GW819.out); have hn820_2 : ad820.block ≠ gb819 := Nat.ne_of_lt (Nat.lt_of_lt_of_le (by have := World.block_lt_of_cell? _ _ hx820_0; first | rwa [add_block] at this | exact this) GW819.out); replace hx820_0 := (HB.out.cell (World.block_lt_of_cell? w _ hx820_0)).trans hx820_0; replace hx820_0 := (cell_far (p := ⟨gb819, 0, none⟩) (by first | (rw [add_block]; exact hn820_0) | (show (Addr.add _ _).block ≠ _; rw [add_block]; exact hn820_0) | exact hn820_0) (.int .i64 ((rd_T39 l0_1 x5_2).f0))).trans hx820_0; replace hx820_0 := (cell_far (p := ⟨gb819, 1, none⟩) (by first | (rw [add_block]; exact hn820_1) | (show (Addr.add _ _).block ≠ _; rw [add_block]; exact hn820_1) | exact hn820_1) (.int .i64 ((rd_T39 l0_1 x5_2).f1))).trans hx820_0; replace hx820_0 := (cell_far (p := ⟨gb819, 2, none⟩) (by first | (rw [add_block]; exact hn820_2) | (show (Addr.add _ _).block ≠ _; rw [add_block]; exact hn820_2) | exact hn820_2) (.int .i64 ((rd_T39 l0_1 x5_2).f2))).trans hx820_0; (try have hy820_0 := fun (n_ : Nat) => (show (((((w21.drewN n_).setCell ⟨gb819, 0, none⟩ (.int .i64 ((rd_T39 l0_1 x5_2).f0))).setCell ⟨gb819, 1, none⟩ (.int .i64 ((rd_T39 l0_1 x5_2).f1))).setCell ⟨gb819, 2, none⟩ (.int .i64 ((rd_T39 l0_1 x5_2).f2)))).cell? _ = some _ from hx820_0)); clear hn820_0; clear hn820_1; clear hn820_2; replace p820 := eq_true p820; replace q820 := eq_true q820; have p821 : 0 ≤ (((rd_T39 l0_1 x5_2).f0) : Int) := dT_ as_; have q821 : ((rd_T39 l0_1 x5_2).f0) < (l1.length : Int) := dT_ as_; obtain ⟨ad821, e821, hx821_0⟩ := Kd.at_int HR1.out ((rd_T39 l0_1 x5_2).f0) p821 q821; obtain rfl : ad820 = ad821 := (by injection e821); have hn821_0 : ad820.block ≠ gb819 := Nat.ne_of_lt (Nat.lt_of_lt_of_le (by have := World.block_lt_of_cell? _ _ hx821_0; first | rwa [add_block] at this | exact this) GW819.out); have hn821_1 : ad820.block ≠ gb819 := Nat.ne_of_lt (Nat.lt_of_lt_of_le (by have := World.block_lt_of_cell? _ _ hx821_0; first | rwa [add_block] at this | exact this) GW819.out); have hn821_2 : ad820.block ≠ gb819 := Nat.ne_of_lt (Nat.lt_of_lt_of_le (by have := World.block_lt_of_cell? _ _ hx821_0; first | rwa [add_block] at this | exact this) GW819.out); replace hx821_0 := (HB.out.cell (World.block_lt_of_cell? w _ hx821_0)).trans hx821_0; replace hx821_0 := (cell_far (p := ⟨gb819, 0, none⟩) (by first | (rw [add_block]; exact hn821_0) | (show (Addr.add _ _).block ≠ _; rw [add_block]; exact hn821_0) | exact hn821_0) (.int .i64 ((rd_T39 l0_1 x5_2).f0))).trans hx821_0; replace hx821_0 := (cell_far (p := ⟨gb819, 1, none⟩) (by first | (rw [add_block]; exact hn821_1) | (show (Addr.add _ _).block ≠ _; rw [add_block]; exact hn821_1) | exact hn821_1) (.int .i64 ((rd_T39 l0_1 x5_2).f1))).trans hx821_0; replace hx821_0 := (cell_far (p := ⟨gb819, 2, none⟩) (by first | (rw [add_block]; exact hn821_2) | (show (Addr.add _ _).block ≠ _; rw [add_block]; exact hn821_2) | exact hn821_2) (.int .i64 ((rd_T39 l0_1 x5_2).f2))).trans hx821_0; (try have hy821_0 := fun (n_ : Nat) => (show (((((w21.drewN n_).setCell ⟨gb819, 0, none⟩ (.int .i64 ((rd_T39 l0_1 x5_2).f0))).setCell ⟨gb819, 1, none⟩ (.int .i64 ((rd_T39 l0_1 x5_2).f1))).setCell ⟨gb819, 2, none⟩ (.int .i64 ((rd_T39 l0_1 x5_2).f2)))).cell? _ = some _ from hx821_0)); clear hn821_0; clear hn821_1; clear hn821_2; replace p821 := eq_true p821; replace q821 := eq_true q821)); repeat (go_quiet (first | ((with_reducible refine gate_dst (N := 6) rfl ?_); refine bX_ 6 #[.int .i64 0, .int .i64 0, .int .i64 0] 39 ?_; intro gb819 hg w21 hbox hb; have BK819 := Z_ (hbox); have GW819 := Z_ ((by rw [hg]; exact (fZ_ hB_) : w.heap.size ≤ gb819)); have GE819 := Z_ ((by rw [hg]; exact (fZ_ hB_) : w.heap.size ≤ gb819)); replace HB := Z_ (fS_ hB_ hb); have NB815_819 := Z_ ((by rw [hg]; exact Nat.ne_of_lt (blk_lt (g := gb815) (o := .cells #[.int .i64 a0_0, .slice (some ad818) l0_1.length c0_1] 24 (0, 0)) (bR_ BK815.out)) : gb815 ≠ gb819)); have NB819_815 := Z_ ((by rw [hg]; exact Nat.ne_of_gt (blk_lt (g := gb815) (o := .cells #[.int .i64 a0_0, .slice (some ad818) l0_1.length c0_1] 24 (0, 0)) (bR_ BK815.out)) : gb819 ≠ gb815)); replace BK815 := Z_ (bB_ (g := gb815) (o := .cells #[.int .i64 a0_0, .slice (some ad818) l0_1.length c0_1] 24 (0, 0)) (bR_ BK815.out) hb); clear hb hbox hg; have hnb22 := NB819_815.out; have hnc22 := NB815_819.out; obtain ⟨⟨hcz23_0, hcz23_1, hcz23_2⟩, hfz23_0, hfz23_1, hfz23_2⟩ := f3_ BK819.out; have p820 : 0 ≤ (((rd_T39 l0_1 x5_2).f1) : Int) := dT_ as_; have q820 : ((rd_T39 l0_1 x5_2).f1) < (l1.length : Int) := dT_ as_; obtain ⟨ad820, e820, hx820_0⟩ := Kd.at_int HR1.out ((rd_T39 l0_1 x5_2).f1) p820 q820; cases e820; have hn820_0 : ad820.block ≠ gb819 := Nat.ne_of_lt (Nat.lt_of_lt_of_le (by have := World.block_lt_of_cell? _ _ hx820_0; first | rwa [add_block] at this | exact this) GW819.out); have hn820_1 : ad820.block ≠ gb819 := Nat.ne_of_lt (Nat.lt_of_lt_of_le (by have := World.block_lt_of_cell? _ _ hx820_0; first | rwa [add_block] at this | exact this) GW819.out); have hn820_2 : ad820.block ≠ gb819 := Nat.ne_of_lt (Nat.lt_of_lt_of_le (by have := World.block_lt_of_cell? _ _ hx820_0; first | rwa [add_block] at this | exact this) GW819.out); replace hx820_0 := (HB.out.cell (World.block_lt_of_cell? w _ hx820_0)).trans hx820_0; replace hx820_0 := (cell_far (p := ⟨gb819, 0, none⟩) (by first | (rw [add_block]; exact hn820_0) | (show (Addr.add _ _).block ≠ _; rw [add_block]; exact hn820_0) | exact hn820_0) (.int .i64 ((rd_T39 l0_1 x5_2).f0))).trans hx820_0; replace hx820_0 := (cell_far (p := ⟨gb819, 1, none⟩) (by first | (rw [add_block]; exact hn820_1) | (show (Addr.add _ _).block ≠ _; rw [add_block]; exact hn820_1) | exact hn820_1) (.int .i64 ((rd_T39 l0_1 x5_2).f1))).trans hx820_0; replace hx820_0 := (cell_far (p := ⟨gb819, 2, none⟩) (by first | (rw [add_block]; exact hn820_2) | (show (Addr.add _ _).block ≠ _; rw [add_block]; exact hn820_2) | exact hn820_2) (.int .i64 ((rd_T39 l0_1 x5_2).f2))).trans hx820_0; (try have hy820_0 := fun (n_ : Nat) => (show (((((w21.drewN n_).setCell ⟨gb819, 0, none⟩ (.int .i64 ((rd_T39 l0_1 x5_2).f0))).setCell ⟨gb819, 1, none⟩ (.int .i64 ((rd_T39 l0_1 x5_2).f1))).setCell ⟨gb819, 2, none⟩ (.int .i64 ((rd_T39 l0_1 x5_2).f2)))).cell? _ = some _ from hx820_0)); clear hn820_0; clear hn820_1; clear hn820_2; replace p820 := eq_true p820; replace q820 := eq_true q820; have p821 : 0 ≤ (((rd_T39 l0_1 x5_2).f0) : Int) := dT_ as_; have q821 : ((rd_T39 l0_1 x5_2).f0) < (l1.length : Int) := dT_ as_; obtain ⟨ad821, e821, hx821_0⟩ := Kd.at_int HR1.out ((rd_T39 l0_1 x5_2).f0) p821 q821; obtain rfl : ad820 = ad821 := (by injection e821); have hn821_0 : ad820.block ≠ gb819 := Nat.ne_of_lt (Nat.lt_of_lt_of_le (by have := World.block_lt_of_cell? _ _ hx821_0; first | rwa [add_block] at this | exact this) GW819.out); have hn821_1 : ad820.block ≠ gb819 := Nat.ne_of_lt (Nat.lt_of_lt_of_le (by have := World.block_lt_of_cell? _ _ hx821_0; first | rwa [add_block] at this | exact this) GW819.out); have hn821_2 : ad820.block ≠ gb819 := Nat.ne_of_lt (Nat.lt_of_lt_of_le (by have := World.block_lt_of_cell? _ _ hx821_0; first | rwa [add_block] at this | exact this) GW819.out); replace hx821_0 := (HB.out.cell (World.block_lt_of_cell? w _ hx821_0)).trans hx821_0; replace hx821_0 := (cell_far (p := ⟨gb819, 0, none⟩) (by first | (rw [add_block]; exact hn821_0) | (show (Addr.add _ _).block ≠ _; rw [add_block]; exact hn821_0) | exact hn821_0) (.int .i64 ((rd_T39 l0_1 x5_2).f0))).trans hx821_0; replace hx821_0 := (cell_far (p := ⟨gb819, 1, none⟩) (by first | (rw [add_block]; exact hn821_1) | (show (Addr.add _ _).block ≠ _; rw [add_block]; exact hn821_1) | exact hn821_1) (.int .i64 ((rd_T39 l0_1 x5_2).f1))).trans hx821_0; replace hx821_0 := (cell_far (p := ⟨gb819, 2, none⟩) (by first | (rw [add_block]; exact hn821_2) | (show (Addr.add _ _).block ≠ _; rw [add_block]; exact hn821_2) | exact hn821_2) (.int .i64 ((rd_T39 l0_1 x5_2).f2))).trans hx821_0; (try have hy821_0 := fun (n_ : Nat) => (show (((((w21.drewN n_).setCell ⟨gb819, 0, none⟩ (.int .i64 ((rd_T39 l0_1 x5_2).f0))).setCell ⟨gb819, 1, none⟩ (.int .i64 ((rd_T39 l0_1 x5_2).f1))).setCell ⟨gb819, 2, none⟩ (.int .i64 ((rd_T39 l0_1 x5_2).f2)))).cell? _ = some _ from hx821_0)); clear hn821_0; clear hn821_1; clear hn821_2; replace p821 := eq_true p821; replace q821 := eq_true q821)); go_upto_if 42 with (first | ((with_reducible refine gate_dst (N := 6) rfl ?_); refine bX_ 6 #[.int .i64 0, .int .i64 0, .int .i64 0] 39 ?_; intro gb819 hg w21 hbox hb; have BK819 := Z_ (hbox); have GW819 := Z_ ((by rw [hg]; exact (fZ_ hB_) : w.heap.size ≤ gb819)); have GE819 := Z_ ((by rw [hg]; exact (fZ_ hB_) : w.heap.size ≤ gb819)); replace HB := Z_ (fS_ hB_ hb); have NB815_819 := Z_ ((by rw [hg]; exact Nat.ne_of_lt (blk_lt (g := gb815) (o := .cells #[.int .i64 a0_0, .slice (some ad818) l0_1.length c0_1] 24 (0, 0)) (bR_ BK815.out)) : gb815 ≠ gb819)); have NB819_815 := Z_ ((by rw [hg]; exact Nat.ne_of_gt (blk_lt (g := gb815) (o := .cells #[.int .i64 a0_0, .slice (some ad818) l0_1.length c0_1] 24 (0, 0)) (bR_ BK815.out)) : gb819 ≠ gb815)); replace BK815 := Z_ (bB_ (g := gb815) (o := .cells #[.int .i64 a0_0, .slice (some ad818) l0_1.length c0_1] 24 (0, 0)) (bR_ BK815.out) hb); clear hb hbox hg; have hnb22 := NB819_815.out; have hnc22 := NB815_819.out; obtain ⟨⟨hcz23_0, hcz23_1, hcz23_2⟩, hfz23_0, hfz23_1, hfz23_2⟩ := f3_ BK819.out; have p820 : 0 ≤ (((rd_T39 l0_1 x5_2).f1) : Int) := dT_ as_; have q820 : ((rd_T39 l0_1 x5_2).f1) < (l1.length : Int) := dT_ as_; obtain ⟨ad820, e820, hx820_0⟩ := Kd.at_int HR1.out ((rd_T39 l0_1 x5_2).f1) p820 q820; cases e820; have hn820_0 : ad820.block ≠ gb819 := Nat.ne_of_lt (Nat.lt_of_lt_of_le (by have := World.block_lt_of_cell? _ _ hx820_0; first | rwa [add_block] at this | exact this) GW819.out); have hn820_1 : ad820.block ≠ gb819 := Nat.ne_of_lt (Nat.lt_of_lt_of_le (by have := World.block_lt_of_cell? _ _ hx820_0; first | rwa [add_block] at this | exact this) GW819.out); have hn820_2 : ad820.block ≠ gb819 := Nat.ne_of_lt (Nat.lt_of_lt_of_le (by have := World.block_lt_of_cell? _ _ hx820_0; first | rwa [add_block] at this | exact this) GW819.out); replace hx820_0 := (HB.out.cell (World.block_lt_of_cell? w _ hx820_0)).trans hx820_0; replace hx820_0 := (cell_far (p := ⟨gb819, 0, none⟩) (by first | (rw [add_block]; exact hn820_0) | (show (Addr.add _ _).block ≠ _; rw [add_block]; exact hn820_0) | exact hn820_0) (.int .i64 ((rd_T39 l0_1 x5_2).f0))).trans hx820_0; replace hx820_0 := (cell_far (p := ⟨gb819, 1, none⟩) (by first | (rw [add_block]; exact hn820_1) | (show (Addr.add _ _).block ≠ _; rw [add_block]; exact hn820_1) | exact hn820_1) (.int .i64 ((rd_T39 l0_1 x5_2).f1))).trans hx820_0; replace hx820_0 := (cell_far (p := ⟨gb819, 2, none⟩) (by first | (rw [add_block]; exact hn820_2) | (show (Addr.add _ _).block ≠ _; rw [add_block]; exact hn820_2) | exact hn820_2) (.int .i64 ((rd_T39 l0_1 x5_2).f2))).trans hx820_0; (try have hy820_0 := fun (n_ : Nat) => (show (((((w21.drewN n_).setCell ⟨gb819, 0, none⟩ (.int .i64 ((rd_T39 l0_1 x5_2).f0))).setCell ⟨gb819, 1, none⟩ (.int .i64 ((rd_T39 l0_1 x5_2).f1))).setCell ⟨gb819, 2, none⟩ (.int .i64 ((rd_T39 l0_1 x5_2).f2)))).cell? _ = some _ from hx820_0)); clear hn820_0; clear hn820_1; clear hn820_2; replace p820 := eq_true p820; replace q820 := eq_true q820; have p821 : 0 ≤ (((rd_T39 l0_1 x5_2).f0) : Int) := dT_ as_; have q821 : ((rd_T39 l0_1 x5_2).f0) < (l1.length : Int) := dT_ as_; obtain ⟨ad821, e821, hx821_0⟩ := Kd.at_int HR1.out ((rd_T39 l0_1 x5_2).f0) p821 q821; obtain rfl : ad820 = ad821 := (by injection e821); have hn821_0 : ad820.block ≠ gb819 := Nat.ne_of_lt (Nat.lt_of_lt_of_le (by have := World.block_lt_of_cell? _ _ hx821_0; first | rwa [add_block] at this | exact this) GW819.out); have hn821_1 : ad820.block ≠ gb819 := Nat.ne_of_lt (Nat.lt_of_lt_of_le (by have := World.block_lt_of_cell? _ _ hx821_0; first | rwa [add_block] at this | exact this) GW819.out); have hn821_2 : ad820.block ≠ gb819 := Nat.ne_of_lt (Nat.lt_of_lt_of_le (by have := World.block_lt_of_cell? _ _ hx821_0; first | rwa [add_block] at this | exact this) GW819.out); replace hx821_0 := (HB.out.cell (World.block_lt_of_cell? w _ hx821_0)).trans hx821_0; replace hx821_0 := (cell_far (p := ⟨gb819, 0, none⟩) (by first | (rw [add_block]; exact hn821_0) | (show (Addr.add _ _).block ≠ _; rw [add_block]; exact hn821_0) | exact hn821_0) (.int .i64 ((rd_T39 l0_1 x5_2).f0))).trans hx821_0; replace hx821_0 := (cell_far (p := ⟨gb819, 1, none⟩) (by first | (rw [add_block]; exact hn821_1) | (show (Addr.add _ _).block ≠ _; rw [add_block]; exact hn821_1) | exact hn821_1) (.int .i64 ((rd_T39 l0_1 x5_2).f1))).trans hx821_0; replace hx821_0 := (cell_far (p := ⟨gb819, 2, none⟩) (by first | (rw [add_block]; exact hn821_2) | (show (Addr.add _ _).block ≠ _; rw [add_block]; exact hn821_2) | exact hn821_2) (.int .i64 ((rd_T39 l0_1 x5_2).f2))).trans hx821_0; (try have hy821_0 := fun (n_ : Nat) => (show (((((w21.drewN n_).setCell ⟨gb819, 0, none⟩ (.int .i64 ((rd_T39 l0_1 x5_2).f0))).setCell ⟨gb819, 1, none⟩ (.int .i64 ((rd_T39 l0_1 x5_2).f1))).setCell ⟨gb819, 2, none⟩ (.int .i64 ((rd_T39 l0_1 x5_2).f2)))).cell? _ = some _ from hx821_0)); clear hn821_0; clear hn821_1; clear hn821_2; replace p821 := eq_true p821; replace q821 := eq_true q821)))
           (try simp only [Act.put, sT_, sZ_, sS_])
           have H := HF19.out; clear HF19; by_cases c24 : (wrap64 ((rd l1 ((rd_T39 l0_1 x5_2).f1)) - (rd l1 ((rd_T39 l0_1 x5_2).f0)))) > ((rd_T39 l0_1 x5_2).f2)
           ·rw [if_pos c24] at H
            have c24b0 : decide (((rd_T39 l0_1 x5_2).f2) < (wrap64 ((rd l1 ((rd_T39 l0_1 x5_2).f1)) - (rd l1 ((rd_T39 l0_1 x5_2).f0))))) = true := eT_ c24; clear c24; (first | rw [c24b0] | (simp only [i64_w, i32_w]; rw [c24b0]) | skip)
            obtain rfl := oI_ H; go_wp2; repeat (go_quiet (fail); try go_wp2)
            go_ret; exact ⟨eW_, hB_⟩
           rw [if_neg c24] at H; have c24b0 : decide (((rd_T39 l0_1 x5_2).f2) < (wrap64 ((rd l1 ((rd_T39 l0_1 x5_2).f1)) - (rd l1 ((rd_T39 l0_1 x5_2).f0))))) = false := eF_ c24; clear c24; (first | rw [c24b0] | (simp only [i64_w, i32_w]; rw [c24b0]) | skip)
           have H' := Z_ H; clear H; go_wp2; repeat (go_quiet (fail); try go_wp2)
           go_roundg k2
           case measure => have := HJ2.out; have := HK2.out; omega
           case rel => exact ⟨(wrap64 (x5_2 + 1)), rf_, H', ⟨by have := HJ2.out; have := HK2.out; omega⟩, ⟨by (with_reducible repeat (first | refine bN_ ?_ _ | refine bD_ ?_)); refine blk_far ?_ NB815_819.out _; (with_reducible repeat (first | refine bN_ ?_ _ | refine bD_ ?_)); refine blk_far ?_ NB815_819.out _; (with_reducible repeat (first | refine bN_ ?_ _ | refine bD_ ?_)); refine blk_far ?_ NB815_819.out _; (with_reducible repeat (first | refine bN_ ?_ _ | refine bD_ ?_)); exact BK815.out⟩, ⟨hB_⟩⟩
          rw [if_neg c18] at H; exact absurd H (by simp)
         rw [if_neg c17] at H; exact absurd H (by simp)
        rw [if_neg c16] at H; exact absurd H (by simp)
       rw [if_neg c15] at H; exact absurd H (by simp)
      rw [if_neg c14] at H; exact absurd H (by simp)
     rw [if_neg c13] at H; have c13b0 : decide (x5_2 < (l0_1.length : Int)) = false := eF_ c13; clear c13; obtain rfl := oI_ H; obtain ⟨⟨hcz25_0, hcz25_1⟩, hfz25_0, hfz25_1⟩ := f2_ BK815.out; go_wp2; repeat (go_quiet (fail); try go_wp2)
     go_ret; exact ⟨eW_, hB_⟩
end Go.Proofs.Ytpolojoeabmhdaa.A
/- The reference: Numbers, Fulfils. -/
namespace Go.Proofs.Ytpolojoeabmhdaa.A
open Go.RowKit Go.Proofs.YtpolojoeabmhdaaW.PrintWords Go.Proofs.YtpolojoeabmhdaaW.PrintLast Go.Proofs.YtpolojoeabmhdaaW.PrintMore
theorem rnumbers_l0 (x : List Int) (hl : x.length ≤ 65536) : ∀ (q : Nat) (i : Int), (q : Int) + i = x.length → 0 ≤ i → (∀ v, 0 ≤ v → v < i → -1099511627776 ≤ rd x v ∧ rd x v ≤ 1099511627776) →
    ∃ b, Ev (fun k => snowlineref04_Numbers.l0 k x i) b ∧ (b = true ↔ ∀ v, 0 ≤ v → v < (x.length : Int) → -1099511627776 ≤ rd x v ∧ rd x v ≤ 1099511627776) := by
  intro q
  induction q with
  | zero =>
    intro i hq h0 hb
    exact ⟨true, Ev.step (f := fun _ => some true) (fun k => by rw [snowlineref04_Numbers.l0, if_neg (by omega)]) (Ev.now _), fun _ v v0 v1 => hb v v0 (by omega), fun _ => rfl⟩
  | succ q ih =>
    intro i hq h0 hb
    have hlt : i < (x.length : Int) := by omega
    have hT : Ev (fun k => snowlineref04_Numbers.j1 k x i true) false := Ev.step (f := fun _ => some false) (fun k => by rw [snowlineref04_Numbers.j1]; rfl) (Ev.now _)
    by_cases c1 : rd x i < -1099511627776
    · exact ⟨false, Ev.step (f := fun k => snowlineref04_Numbers.j1 k x i true) (fun k => by rw [snowlineref04_Numbers.l0, if_pos hlt, if_pos h0, if_pos c1]) hT, fun h => (by cases h), fun h => by have := h i h0 hlt; omega⟩
    have hin : ∀ {b}, Ev (fun k => snowlineref04_Numbers.j1 k x i (decide (rd x i > 1099511627776))) b → Ev (fun k => snowlineref04_Numbers.l0 k x i) b := fun h =>
      Ev.step (fun k => by rw [snowlineref04_Numbers.l0, if_pos hlt, if_pos h0, if_neg c1]) h
    by_cases c2 : rd x i > 1099511627776
    · rw [decide_eq_true c2] at hin
      exact ⟨false, hin hT, fun h => (by cases h), fun h => by have := h i h0 hlt; omega⟩
    rw [decide_eq_false c2] at hin
    obtain ⟨b, g1, g2⟩ := ih (i + 1) (by omega) (by omega) (fun v v0 v1 => by
      by_cases e : v = i
      · rw [e]; omega
      · exact hb v v0 (by omega))
    exact ⟨b, hin (Ev.step (f := fun k => snowlineref04_Numbers.l0 k x (i + 1)) (fun k => by rw [snowlineref04_Numbers.j1, if_neg (by decide), wrap_id (x := i + 1) (by omega) (by omega)]) g1), g2⟩
theorem rnumbers_ev (n : Int) (hn : n ≤ 256) (N : List S39) (x : List Int) : ∃ b, Ev (fun k => snowlineref04_Numbers.f k n N x) b ∧ (b = true ↔ NumOk n x) := by
  unfold snowlineref04_Numbers.f
  by_cases c : (x.length : Int) = n
  · obtain ⟨b, g1, g2⟩ := rnumbers_l0 x (by omega) x.length 0 (by omega) (by omega) (fun v a b => by omega)
    exact ⟨b, Ev.pos c g1, fun h => ⟨c, fun v v0 v1 => (g2.1 h) v v0 (by omega)⟩, fun h => g2.2 (fun v v0 v1 => h.b v v0 (by omega))⟩
  · exact ⟨false, Ev.neg c (Ev.now _), fun h => (by cases h), fun h => absurd h.l c⟩
section
variable {n : Nat} {L : List S39}
theorem rful_l0 (hV : Valid n L) {x : List Int} (hx : NumOk n x) (hz : rd x 0 = 0) : ∀ (q : Nat) (i : Int), (q : Int) + i = L.length → 0 ≤ i → (∀ k, 0 ≤ k → k < i → EC n x (rd_T39 L k)) →
    ∃ b, Ev (fun k => snowlineref04_Fulfils.l0 k x i n L) b ∧ (b = true ↔ Ful n L x) := by
  have hn1 := hV.n1
  have hD := hV.l
  have hl := hx.l
  intro q
  induction q with
  | zero =>
    intro i hq h0 hb
    exact ⟨true, Ev.step (f := fun _ => some true) (fun k => by rw [snowlineref04_Fulfils.l0, if_neg (by omega)]) (Ev.now _), fun _ => ⟨hl, by omega, hz, hx.b, fun k k0 k1 => hb k k0 (by omega)⟩, fun _ => rfl⟩
  | succ q ih =>
    intro i hq h0 hb
    have hlt : i < (L.length : Int) := by omega
    have he := hV.e i h0 hlt
    have e1 := he.a
    have e2 := he.b
    have e3 := he.c
    have e4 := he.g
    have b0 := hx.b _ e1 e2
    have b1 := hx.b _ e3 e4
    by_cases c : rd x (rd_T39 L i).f1 - rd x (rd_T39 L i).f0 > (rd_T39 L i).f2
    · refine ⟨false, Ev.step (f := fun _ => some false) (fun k => ?_) (Ev.now _), fun h => (by cases h), fun h => by have := (h.e i h0 hlt).2.2.2.2; omega⟩
      rw [snowlineref04_Fulfils.l0, if_pos hlt, if_pos h0, if_pos e3, if_pos (by omega), if_pos e1, if_pos (by omega), wrap_id (by omega) (by omega), if_pos c]
    · obtain ⟨b, g1, g2⟩ := ih (i + 1) (by omega) (by omega) (fun k k0 k1 => by
        by_cases e : k = i
        · rw [e]; exact ⟨e1, e2, e3, e4, by omega⟩
        · exact hb k k0 (by omega))
      refine ⟨b, Ev.step (fun k => ?_) g1, g2⟩
      rw [snowlineref04_Fulfils.l0, if_pos hlt, if_pos h0, if_pos e3, if_pos (by omega), if_pos e1, if_pos (by omega), wrap_id (x := _ - _) (by omega) (by omega), if_neg c, wrap_id (x := i + 1) (by omega) (by omega)]
theorem rful_ev (hV : Valid n L) (x : List Int) : ∃ b, Ev (fun k => snowlineref04_Fulfils.f k n L x) b ∧ (b = true ↔ Ful n L x) := by
  have hn1 := hV.n1
  have hn2 := hV.n2
  have hT : Ev (fun k => snowlineref04_Fulfils.j0 k x true n L) false := Ev.step (f := fun _ => some false) (fun k => by rw [snowlineref04_Fulfils.j0]; rfl) (Ev.now _)
  obtain ⟨p, p1, p2⟩ := rnumbers_ev n (by omega) L x
  unfold snowlineref04_Fulfils.f
  cases p with
  | false => exact ⟨false, p1.bind (Ev.neg (by decide) hT), fun h => (by cases h), fun h => absurd (p2.2 h.num) (by decide)⟩
  | true =>
    have hx := p2.1 rfl
    have hl := hx.l
    by_cases c : rd x 0 = 0
    · obtain ⟨b, g1, g2⟩ := rful_l0 hV hx c L.length 0 (by omega) (by omega) (fun k a b => by omega)
      refine ⟨b, p1.bind (Ev.pos rfl (Ev.pos (by omega) ?_)), g2⟩
      rw [show (rd x 0 != 0) = false from bne_eq_false_iff_eq.mpr c]
      exact Ev.step (fun k => by rw [snowlineref04_Fulfils.j0, if_neg (by decide)]) g1
    · refine ⟨false, p1.bind (Ev.pos rfl (Ev.pos (by omega) ?_)), fun h => (by cases h), fun h => absurd h.z c⟩
      rw [show (rd x 0 != 0) = true from bne_iff_ne.mpr c]
      exact hT
end
end Go.Proofs.Ytpolojoeabmhdaa.A
namespace Go.Proofs.Ytpolojoeabmhdaa.A
open Go.RowKit Go.Proofs.YtpolojoeabmhdaaW.PrintWords Go.Proofs.YtpolojoeabmhdaaW.PrintLast Go.Proofs.YtpolojoeabmhdaaW.PrintMore
attribute [local go_sem] max2_int min2_int max_two min_two max_three min_three max_four min_four
def diffs_Solve.f (k : Nat) (a0_0 : Int) (l0_1 : List (S39)) : Option (List Int × Int) := (diffs_Check.f k a0_0 l0_1).bind fun t797 => (if t797 = 0 then ((diffs_solve.f k a0_0 l0_1).bind fun bt798 => (if bt798.2.2.2.2 ≥ 0 then (some (([] : List Int), 41)) else (some (bt798.1, 0)))) else (some (([] : List Int), t797)))
theorem diffs_Solve.mono : ∀ a0 a1 k, LeO (diffs_Solve.f k a0 a1) (diffs_Solve.f (k + 1) a0 a1) := by
 intro a0 a1 k; unfold diffs_Solve.f; repeat' first | (with_reducible first | exact diffs_Check.mono _ _ _ | exact diffs_solve.mono _ _ _ | exact LeO.refl _ | exact LeO.none _ | refine LeO.ite ?_ ?_ | refine LeO.bind ?_ (fun _ => ?_)) | exact diffs_Check.mono _ _ _ | exact diffs_solve.mono _ _ _ | exact LeO.none _ | refine LeO.ite ?_ ?_ | refine LeO.bind ?_ (fun _ => ?_)
set_option maxHeartbeats 8000000 in
set_option maxRecDepth 100000 in
theorem diffs_Solve.calls (k : Nat) (a0_0 : Int) (A0_1 : Option Addr) (c0_1 : Nat) (l0_1 : List (S39)) (r1 : List Int) (r2 : Int) (w : World) (hr0_1 : Kd.C k39 w A0_1 l0_1.length l0_1) (hc0_1 : l0_1.length ≤ c0_1) (h : diffs_Solve.f k a0_0 l0_1 = some (r1, r2)) :
  Calls Try.prog 39 #[.agg #[.int .i64 a0_0, .slice A0_1 l0_1.length c0_1]] w fun e w' => ∃ v0_ : Value, e = .returned (.tuple #[v0_, .int .i64 r2]) ∧ Kd.R (Kd.int .i64) 3 w' w.heap.size (fun _ => True) v0_ r1 ∧ Below w.heap.size w w' := by
 have hu24 := Try.underlying24; have hu88 := Try.underlying88; have HR0_1 := Z_ hr0_1; have HC0_1 := Z_ hc0_1; clear hr0_1 hc0_1; have HB := Z_ (Below.refl w.heap.size w); have H : ((diffs_Check.f k a0_0 l0_1).bind fun t797 => (if t797 = 0 then ((diffs_solve.f k a0_0 l0_1).bind fun bt798 => (if bt798.2.2.2.2 ≥ 0 then (some (([] : List Int), 41)) else (some (bt798.1, 0)))) else (some (([] : List Int), t797)))) = some (r1, r2) := h; clear h; replace H := oS_.mp H; obtain ⟨t797, A20, H⟩ := H; have A2 := Z_ A20; clear A20; have HF3 := Z_ H; clear H; go_enter Try.func39, Try.ntmps39; go_upto_if 11 with (first | ((with_reducible refine gate_dst (N := 1) rfl ?_); refine bX_ 1 #[.int .i64 a0_0, .slice A0_1 l0_1.length c0_1] 24 ?_; intro gb796 hg w4 hbox hb; have BK796 := Z_ (hbox); have GW796 := Z_ ((by rw [hg]; exact (fZ_ hB_) : w.heap.size ≤ gb796)); have GE796 := Z_ ((by rw [hg]; exact (fZ_ hB_) : w.heap.size ≤ gb796)); replace HB := Z_ (fS_ hB_ hb); clear hb hbox hg; obtain ⟨⟨hcz5_0, hcz5_1⟩, hfz5_0, hfz5_1⟩ := f2_ BK796.out) | ((with_reducible refine gate_callee (f := 29) rfl ?_); refine gL_ (some 9) Try.func29 #[.agg #[.int .i64 a0_0, .slice A0_1 l0_1.length c0_1]] ?_; (with_reducible refine (diffs_Check.calls k a0_0 _ _ l0_1 t797 _ ?side1 ?side2 A2.out).mono ?_); (case side1 => exact cS_ (cB_ HR0_1.out HB.out)); (case side2 => exact HC0_1.out); rintro e w6 ⟨rfl, hb⟩; refine ⟨_, rfl, ?_⟩; replace BK796 := Z_ (bB_ (g := gb796) (o := .cells #[.int .i64 a0_0, .slice A0_1 l0_1.length c0_1] 24 (0, 0)) (bR_ BK796.out) hb); replace HB := Z_ (fS_ hB_ hb); (try clear hb); (try clear hb2); (try clear hk); (try clear hi))); (try simp only [Act.put, sT_, sZ_, sS_])
 have H := HF3.out; clear HF3; by_cases c7 : t797 = 0
 ·rw [if_pos c7] at H
  obtain ⟨c7b0, c7b1⟩ := be_ c7; clear c7; (first | rw [c7b0] | (simp only [i64_w, i32_w]; rw [c7b0]) | skip)
  replace H := oS_.mp H; obtain ⟨⟨t798, t801, t804, t807, t810⟩, A80, H⟩ := H; have A8 := Z_ A80; clear A80; have HF9 := Z_ H; clear H; obtain ⟨⟨hcz10_0, hcz10_1⟩, hfz10_0, hfz10_1⟩ := f2_ BK796.out; go_upto_if 22 with (first | ((with_reducible refine gate_callee (f := 81) rfl ?_); refine gL_ (some 17) Try.func81 #[.iface 100 (.agg #[.int .i64 a0_0, .slice A0_1 l0_1.length c0_1])] ?_; (with_reducible refine (diffs_solve.calls k a0_0 _ _ l0_1 t798 t801 t804 t807 t810 _ ?side1 ?side2 A8.out).mono ?_); (case side1 => exact cS_ (cB_ HR0_1.out HB.out)); (case side2 => exact HC0_1.out); rintro e w11 ⟨v799, v802, v805, v808, rfl, ho0, ho1, ho2, ho3, hb⟩; refine ⟨_, rfl, ?_⟩; have HO800 := Z_ (rL_ ho0 (fZ_ hB_)); have HO803 := Z_ (rL_ ho1 (fZ_ hB_)); have HO806 := Z_ (rL_ ho2 (fZ_ hB_)); have HO809 := Z_ (rL_ ho3 (fZ_ hB_)); replace BK796 := Z_ (bB_ (g := gb796) (o := .cells #[.int .i64 a0_0, .slice A0_1 l0_1.length c0_1] 24 (0, 0)) (bR_ BK796.out) hb); replace HB := Z_ (fS_ hB_ hb); (try clear hb); (try clear hb2); (try clear hk); (try clear hi); (try clear ho0); (try clear ho1); (try clear ho2); (try clear ho3)) | ((with_reducible refine gate_dst (N := 6) rfl ?_); refine bX_ 6 #[.slice none 0 0, .slice none 0 0, .slice none 0 0] 88 ?_; intro gb811 hg w12 hbox hb; replace HO800 := Z_ (rB_ (rK_ HO800.out) hb); replace HO803 := Z_ (rB_ (rK_ HO803.out) hb); replace HO806 := Z_ (rB_ (rK_ HO806.out) hb); replace HO809 := Z_ (rB_ (rK_ HO809.out) hb); have BK811 := Z_ (hbox); have GW811 := Z_ ((by rw [hg]; exact (fZ_ hB_) : w.heap.size ≤ gb811)); have GE811 := Z_ ((by rw [hg]; exact (fZ_ hB_) : w.heap.size ≤ gb811)); replace HB := Z_ (fS_ hB_ hb); have NB796_811 := Z_ ((by rw [hg]; exact Nat.ne_of_lt (blk_lt (g := gb796) (o := .cells #[.int .i64 a0_0, .slice A0_1 l0_1.length c0_1] 24 (0, 0)) (bR_ BK796.out)) : gb796 ≠ gb811)); have NB811_796 := Z_ ((by rw [hg]; exact Nat.ne_of_gt (blk_lt (g := gb796) (o := .cells #[.int .i64 a0_0, .slice A0_1 l0_1.length c0_1] 24 (0, 0)) (bR_ BK796.out)) : gb811 ≠ gb796)); replace BK796 := Z_ (bB_ (g := gb796) (o := .cells #[.int .i64 a0_0, .slice A0_1 l0_1.length c0_1] 24 (0, 0)) (bR_ BK796.out) hb); clear hb hbox hg; obtain ⟨Ao13, co13, eo13⟩ := rS_ HO803.out; subst eo13; have hnb14 := NB811_796.out; have hnc14 := NB796_811.out; obtain ⟨⟨hcz15_0, hcz15_1, hcz15_2⟩, hfz15_0, hfz15_1, hfz15_2⟩ := f3_ BK811.out; obtain ⟨Ao16, co16, eo16⟩ := rS_ HO806.out; subst eo16; obtain ⟨Ao17, co17, eo17⟩ := rS_ HO809.out; subst eo17)); (try simp only [Act.put, sT_, sZ_, sS_])
  have H := HF9.out; clear HF9; by_cases c18 : t810 ≥ 0
  ·rw [if_pos c18] at H
   have c18b0 : decide (0 ≤ t810) = true := eT_ c18; clear c18; (first | rw [c18b0] | (simp only [i64_w, i32_w]; rw [c18b0]) | skip)
   simp only [oJ_, pI_] at H; obtain ⟨rfl, rfl⟩ := H; go_wp2; go_ret2; exact ⟨_, eW_, by first | exact Kd.R_nil _ _ _ _ _ | exact Kd.N_nil _ _ _ _ _ | exact Kd.V_nil _ _ _ _ _ | exact Kd.Q_nil _ _ _ _ _ | exact Kd.S_nil _ _ _ _ _, hB_⟩
  rw [if_neg c18] at H; have c18b0 : decide (0 ≤ t810) = false := eF_ c18; clear c18; (first | rw [c18b0] | (simp only [i64_w, i32_w]; rw [c18b0]) | skip)
  simp only [oJ_, pI_] at H; obtain ⟨rfl, rfl⟩ := H; go_wp2; go_ret2; exact ⟨_, eW_, by (with_reducible repeat (first | apply rN_ | apply rD_)); exact rM_ (rF_ (p := ⟨gb811, 2, none⟩) (rF_ (p := ⟨gb811, 1, none⟩) (rF_ (p := ⟨gb811, 0, none⟩) (Kd.R_types HO800.out BK811.out (by decide)) (fun _ hk => hk.2) (.slice Ao13 t801.length co13)) (fun _ hk => hk.2) (.slice Ao16 t804.length co16)) (fun _ hk => hk.2) (.slice Ao17 t807.length co17)) (fun _ hk => trivial), hB_⟩
 rw [if_neg c7] at H; obtain ⟨c7b0, c7b1⟩ := bn_ c7; (first | rw [c7b0] | (simp only [i64_w, i32_w]; rw [c7b0]) | skip)
 simp only [oJ_, pI_] at H; obtain ⟨rfl, rfl⟩ := H; go_wp2; go_ret2; exact ⟨_, eW_, by first | exact Kd.R_nil _ _ _ _ _ | exact Kd.N_nil _ _ _ _ _ | exact Kd.V_nil _ _ _ _ _ | exact Kd.Q_nil _ _ _ _ _ | exact Kd.S_nil _ _ _ _ _, hB_⟩
def diffs_numbers.f (a0 : Int) (l1 : List Int) : Option (Bool) := if (l1.length : Int) = a0 then ((cf122.f l1).bind fun t1126 => (some (!t1126))) else (some false)
set_option maxHeartbeats 8000000 in
set_option maxRecDepth 100000 in
theorem diffs_numbers.calls (a0 : Int) (A1 : Option Addr) (c1 : Nat) (l1 : List Int) (r : Bool) (w : World) (hr1 : Kd.C (Kd.int .i64) w A1 l1.length l1) (hc1 : l1.length ≤ c1) (h : diffs_numbers.f a0 l1 = some r) :
  Calls Try.prog 104 #[.int .i64 a0, .slice A1 l1.length c1] w fun e w' => e = .returned (.bool r) ∧ Below w.heap.size w w' := by
 have HR1 := Z_ hr1; have HC1 := Z_ hc1; clear hr1 hc1; have HB := Z_ (Below.refl w.heap.size w); have H : (if (l1.length : Int) = a0 then ((cf122.f l1).bind fun t1126 => (some (!t1126))) else (some false)) = some r := h; clear h; by_cases c3 : (l1.length : Int) = a0
 ·rw [if_pos c3] at H
  have c3b0 : ((l1.length : Int) == a0) = true := beq_iff_eq.mpr c3; have c3b1 : ((l1.length : Int) != a0) = false := bne_eq_false_iff_eq.mpr c3; clear c3; replace H := oS_.mp H; obtain ⟨t1126, A40, H⟩ := H; have A4 := Z_ A40; clear A40; obtain rfl := oI_ H; go_enter Try.func104, Try.ntmps104; go_wp2_with (first | (go_at_call 57; (with_reducible refine (cf122.calls _ _ l1 t1126 _ ?side1 ?side2 A4.out).mono ?_); (case side1 => exact cS_ HR1.out); (case side2 => exact HC1.out); rintro e w5 ⟨rfl, hb⟩; replace HB := Z_ (fS_ hB_ hb); (try clear hb); (try clear hb2); (try clear hk); (try clear hi))); go_ret; exact ⟨eW_, hB_⟩
 rw [if_neg c3] at H; have c3b0 : ((l1.length : Int) == a0) = false := beq_eq_false_iff_ne.mpr c3; have c3b1 : ((l1.length : Int) != a0) = true := bne_iff_ne.mpr c3; obtain rfl := oI_ H; go_enter Try.func104, Try.ntmps104; go_wp2; go_ret; exact ⟨eW_, hB_⟩
def diffs_Holds.f (k : Nat) (a0_0 : Int) (l0_1 : List (S39)) (l1 : List Int) : Option (Bool × Int) := (diffs_numbers.f a0_0 l1).bind fun t1175 => ((diffs_asked.f k a0_0 l0_1 (([t1175] : List Bool))).bind fun t1179 => (if t1179 = 0 then ((diffs_holds.f a0_0 l0_1 l1).bind fun t1180 => (some (t1180, 0))) else (some (false, t1179))))
theorem diffs_Holds.mono : ∀ a0 a1 a2 k, LeO (diffs_Holds.f k a0 a1 a2) (diffs_Holds.f (k + 1) a0 a1 a2) := by
 intro a0 a1 a2 k; unfold diffs_Holds.f; repeat' first | (with_reducible first | exact diffs_asked.mono _ _ _ _ | exact LeO.refl _ | exact LeO.none _ | refine LeO.ite ?_ ?_ | refine LeO.bind ?_ (fun _ => ?_)) | exact diffs_asked.mono _ _ _ _ | exact LeO.none _ | refine LeO.ite ?_ ?_ | refine LeO.bind ?_ (fun _ => ?_)
def diffs_Holds.T1 : Bool × List (List Nat × List Nat) := (true, [([], []), ([], []), ([1], [1]), ([], []), ([2, 3], [2, 3]), ([4], [4]), ([0, 5, 4], [0, 5]), ([6, 6, 0, 1, 2, 3, 4, 5, 6], [6])])
def diffs_Holds.B1 : List Nat := [0, 0, 2, 0, 14, 30, 63, 127]
theorem diffs_Holds.tab1 : rtab .any (opsOf Try.f56 1) = diffs_Holds.T1 := by kernel_rfl
theorem diffs_Holds.bits1 : waitsOk diffs_Holds.T1.2 diffs_Holds.B1 = true := by kernel_rfl
set_option maxHeartbeats 8000000 in
set_option maxRecDepth 100000 in
theorem diffs_Holds.calls (k : Nat) (a0_0 : Int) (A0_1 : Option Addr) (c0_1 : Nat) (l0_1 : List (S39)) (A1 : Option Addr) (c1 : Nat) (l1 : List Int) (r1 : Bool) (r2 : Int) (w : World) (hr0_1 : Kd.C k39 w A0_1 l0_1.length l0_1) (hc0_1 : l0_1.length ≤ c0_1) (hr1 : Kd.C (Kd.int .i64) w A1 l1.length l1) (hc1 : l1.length ≤ c1) (h : diffs_Holds.f k a0_0 l0_1 l1 = some (r1, r2)) :
  Calls Try.prog 56 #[.agg #[.int .i64 a0_0, .slice A0_1 l0_1.length c0_1], .slice A1 l1.length c1] w fun e w' => e = .returned (.tuple #[.bool r1, .int .i64 r2]) ∧ Below w.heap.size w w' := by
 have hu24 := Try.underlying24; have HR0_1 := Z_ hr0_1; have HC0_1 := Z_ hc0_1; clear hr0_1 hc0_1; have HR1 := Z_ hr1; have HC1 := Z_ hc1; clear hr1 hc1; have HB := Z_ (Below.refl w.heap.size w); have H : ((diffs_numbers.f a0_0 l1).bind fun t1175 => ((diffs_asked.f k a0_0 l0_1 (([t1175] : List Bool))).bind fun t1179 => (if t1179 = 0 then ((diffs_holds.f a0_0 l0_1 l1).bind fun t1180 => (some (t1180, 0))) else (some (false, t1179))))) = some (r1, r2) := h; clear h; replace H := oS_.mp H; obtain ⟨t1175, A30, H⟩ := H; have A3 := Z_ A30; clear A30; obtain ⟨y1176, hy1176⟩ : ∃ y_ : List Bool, y_ = (([t1175] : List Bool)) := ⟨_, rfl⟩; replace H : ((diffs_asked.f k a0_0 l0_1 y1176).bind fun t1179 => (if t1179 = 0 then ((diffs_holds.f a0_0 l0_1 l1).bind fun t1180 => (some (t1180, 0))) else (some (false, t1179)))) = some (r1, r2) := by first | (rw [hy1176]; with_reducible exact H) | (have H2_ := (oB_ _ _).symm.trans H; rw [hy1176]; with_reducible exact H2_) | (have H2_ := (oB_ _ _).symm.trans H; with_reducible exact H2_) | with_reducible exact H | (rw [hy1176]; exact H) | exact H
 have Ny1176 := Z_ hy1176; clear hy1176; replace H := oS_.mp H; obtain ⟨t1179, A40, H⟩ := H; have A4 := Z_ A40; clear A40; have HF5 := Z_ H; clear H; go_enter Try.func56, Try.ntmps56; try go_wp2_with (first | ((with_reducible refine gate_dst (N := 2) rfl ?_); refine bX_ 2 #[.int .i64 a0_0, .slice A0_1 l0_1.length c0_1] 24 ?_; intro gb1174 hg w6 hbox hb; have BK1174 := Z_ (hbox); have GW1174 := Z_ ((by rw [hg]; exact (fZ_ hB_) : w.heap.size ≤ gb1174)); have GE1174 := Z_ ((by rw [hg]; exact (fZ_ hB_) : w.heap.size ≤ gb1174)); replace HB := Z_ (fS_ hB_ hb); clear hb hbox hg))
 replace BK1174 := Z_ (bD_ BK1174.out); replace HB := Z_ (fD_ HB.out); refine start_ (n := 8) (S := fun w' => w'.cell? ⟨gb1174, 0, none⟩ = some (.int .i64 a0_0) ∧ w'.cell? ⟨gb1174, 1, none⟩ = some (.slice A0_1 l0_1.length c0_1)) (ds := []) #[false, false, false, false, false, false, false, false] (by kernel_rfl) rfl rfl ⟨(bC_ BK1174.out 0).trans rfl, (bC_ BK1174.out 1).trans rfl⟩ (fun hHeld => ?_); refine with_tabW diffs_Holds.tab1 diffs_Holds.bits1 (fun HT_ HW_ => ?_); generalize w6.drew = w7 at BK1174 HB hHeld ⊢; refine pP_ 1 8 ?_; refine pP_ 3 10 ?_; refine pT_ 0 7 ?_; refine pT_ 2 9 ?_; refine oN_ 4 (some 11) (fun K hK => ?_); refine gO_ Try.func104 #[.int .i64 a0_0, .slice A1 l1.length c1] ?_; with_reducible refine (diffs_numbers.calls a0_0 _ _ l1 t1175 _ ?side1 ?side2 A3.out).mono ?_
 (case side1 => exact cS_ (cB_ HR1.out HB.out))
 (case side2 => exact HC1.out)
 rintro e w8 ⟨rfl, hb⟩; refine ⟨_, rfl, ?_⟩; replace BK1174 := Z_ (bB_ (g := gb1174) (o := .cells #[.int .i64 a0_0, .slice A0_1 l0_1.length c0_1] 24 (0, 0)) (bR_ BK1174.out) hb); replace HB := Z_ (fS_ hB_ hb); (try clear hb)
 (try clear hb2)
 (try clear hk)
 (try clear hi)
 refine hK.out _ _ ⟨(bC_ BK1174.out 0).trans rfl, (bC_ BK1174.out 1).trans rfl⟩ (fun hHeld => ?_); clear hK K; refine nP_ 11 ?_; refine oN_ 5 (some 12) (fun K hK => ?_); refine Kd.R_lit_step Kd.bool _ 4 ?hg (N := 12) ?hd (xs := ([t1175] : List Bool)) (inner := [.bool t1175]) (ok := fun _ => True) (okp := fun _ => True) ?hr ?hp (fun _ hk => hk) trivial (Below.refl _ _) (nR_ _) (by simp) ?_; (case hd => rfl); (case hg => rfl); (case hr => first | (go_simp; done) | (go_simp; rfl)); (case hp => exact (Reps.one (show Kd.M Kd.bool _ _ _ t1175 [.bool t1175] from rfl) (Reps.none _ _))); intro v1177 w9 ho10 hb hg_ hnew_; clear hg_ hnew_; (first | rw [← Ny1176.out] at ho10 | (simp only [Int.reduceToNat] at ho10; rw [← Ny1176.out] at ho10))
 have HO1178 := Z_ (rL_ ho10 (fZ_ hB_)); replace BK1174 := Z_ (bB_ (g := gb1174) (o := .cells #[.int .i64 a0_0, .slice A0_1 l0_1.length c0_1] 24 (0, 0)) (bR_ BK1174.out) hb); replace HB := Z_ (fS_ hB_ hb); clear hb ho10; obtain ⟨Ao11, co11, eo11⟩ := rS_ HO1178.out; (first | subst eo11 | (injection eo11 with f1_ f2_ f3_; have f4_ := f1_.symm; have f5_ := f3_.symm; clear f1_ f2_ f3_; subst f4_; subst f5_))
 refine hK.out _ _ ⟨(bC_ BK1174.out 0).trans rfl, (bC_ BK1174.out 1).trans rfl⟩ (fun hHeld => ?_); clear hK K; refine nP_ 12 ?_; refine oN_ 6 (some 13) (fun K hK => ?_); refine gO_ Try.func77 #[.agg #[.int .i64 a0_0, .slice A0_1 l0_1.length c0_1], .slice Ao11 y1176.length co11] ?_; with_reducible refine (diffs_asked.calls k a0_0 _ _ l0_1 _ _ y1176 t1179 _ ?side1 ?side2 ?side3 ?side4 A4.out).mono ?_
 (case side1 => exact cS_ (cB_ HR0_1.out HB.out))
 (case side2 => exact HC0_1.out)
 (case side3 => repeat (first | exact (rR_ HO1178.out).2.2 | (with_reducible refine Kd.C_alloc ?_ _) | (with_reducible refine Kd.C_drewN ?_ _) | (with_reducible refine Kd.C_drew ?_)))
 (case side4 => exact (rR_ HO1178.out).2.1)
 rintro e w12 ⟨rfl, hb⟩; refine ⟨_, rfl, ?_⟩; replace HO1178 := Z_ (rB_ (rK_ HO1178.out) hb); replace BK1174 := Z_ (bB_ (g := gb1174) (o := .cells #[.int .i64 a0_0, .slice A0_1 l0_1.length c0_1] 24 (0, 0)) (bR_ BK1174.out) hb); replace HB := Z_ (fS_ hB_ hb); (try clear hb)
 (try clear hb2)
 (try clear hk)
 (try clear hi)
 refine hK.out _ _ ⟨(bC_ BK1174.out 0).trans rfl, (bC_ BK1174.out 1).trans rfl⟩ (fun hHeld => ?_); clear hK K; refine nP_ 13 ?_; refine pP_ 7 6 ?_; refine dN_ ?_; go_upto_if 15 with (fail); have H := HF5.out; clear HF5; by_cases c13 : t1179 = 0
 ·rw [if_pos c13] at H
  obtain ⟨c13b0, c13b1⟩ := be_ c13; clear c13; (first | rw [c13b0] | (simp only [i64_w, i32_w]; rw [c13b0]) | skip)
  replace H := oS_.mp H; obtain ⟨t1180, A140, H⟩ := H; have A14 := Z_ A140; clear A140; simp only [oJ_, pI_] at H; obtain ⟨rfl, rfl⟩ := H; obtain ⟨⟨hcz15_0, hcz15_1⟩, hfz15_0, hfz15_1⟩ := f2_ BK1174.out; go_wp2_with (first | ((with_reducible refine gate_callee (f := 105) rfl ?_); refine gL_ (some 19) Try.func105 #[.agg #[.int .i64 a0_0, .slice A0_1 l0_1.length c0_1], .slice A1 l1.length c1] ?_; (with_reducible refine (diffs_holds.calls a0_0 _ _ l0_1 _ _ l1 t1180 _ ?side1 ?side2 ?side3 ?side4 A14.out).mono ?_); (case side1 => exact cS_ (cB_ HR0_1.out HB.out)); (case side2 => exact HC0_1.out); (case side3 => exact cS_ (cB_ HR1.out HB.out)); (case side4 => exact HC1.out); rintro e w16 ⟨rfl, hb⟩; refine ⟨_, rfl, ?_⟩; replace HO1178 := Z_ (rB_ (rK_ HO1178.out) hb); replace BK1174 := Z_ (bB_ (g := gb1174) (o := .cells #[.int .i64 a0_0, .slice A0_1 l0_1.length c0_1] 24 (0, 0)) (bR_ BK1174.out) hb); replace HB := Z_ (fS_ hB_ hb); (try clear hb); (try clear hb2); (try clear hk); (try clear hi))); go_ret2; exact ⟨eW_, hB_⟩
 rw [if_neg c13] at H; obtain ⟨c13b0, c13b1⟩ := bn_ c13; (first | rw [c13b0] | (simp only [i64_w, i32_w]; rw [c13b0]) | skip)
 simp only [oJ_, pI_] at H; obtain ⟨rfl, rfl⟩ := H; go_wp2; go_ret2; exact ⟨eW_, hB_⟩
end Go.Proofs.Ytpolojoeabmhdaa.A
