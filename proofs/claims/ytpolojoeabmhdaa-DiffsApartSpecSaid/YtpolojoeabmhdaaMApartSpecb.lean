import Derived.Test.YtpolojoeabmhdaaMApartSpeca
import Derived.Test.YtpolojoeabmhdaaMZcoreb
import Derived.Test.YtpolojoeabmhdaaMZcored
import Derived.Test.YtpolojoeabmhdaaMZcoree
import Derived.Test.YtpolojoeabmhdaaMZcoref
import Derived.Test.YtpolojoeabmhdaaMZcoreg
set_option linter.unusedVariables false
set_option linter.unusedSimpArgs false
namespace Go.Proofs.Ytpolojoeabmhdaa.A
open Go.RowKit Go.Proofs.YtpolojoeabmhdaaW.PrintWords Go.Proofs.YtpolojoeabmhdaaW.PrintLast Go.Proofs.YtpolojoeabmhdaaW.PrintMore
attribute [local go_sem] max2_int min2_int max_two min_two max_three min_three max_four min_four
mutual
def snowlineref04_indices.l0 : Nat → List Int → Int → Int → List (S39) → Option (Bool)
 | 0, _, _, _, _ => none
 | k + 1, x1, x5, x779000, x779001 => if x5 < (x1.length : Int) then (if 0 ≤ x5 then (if (rd x1 x5) < 0 then (snowlineref04_indices.j1 k x1 x5 true x779000 x779001) else (snowlineref04_indices.j1 k x1 x5 (decide ((rd x1 x5) ≥ (x779001.length : Int))) x779000 x779001)) else (none)) else (some true)
def snowlineref04_indices.j1 : Nat → List Int → Int → Bool → Int → List (S39) → Option (Bool)
 | 0, _, _, _, _, _ => none
 | k + 1, x1, x5, x26, x779000, x779001 => if x26 = true then (some false) else (snowlineref04_indices.l0 k x1 (wrap64 (x5 + 1)) x779000 x779001)
end
def snowlineref04_indices.f (k : Nat) (a0_0 : Int) (l0_1 : List (S39)) (l1 : List Int) : Option (Bool) := snowlineref04_indices.l0 k l1 0 a0_0 l0_1
theorem snowlineref04_indices.mono_l : ∀ k, (∀ y0 y1 y2 y3, LeO (snowlineref04_indices.l0 k y0 y1 y2 y3) (snowlineref04_indices.l0 (k + 1) y0 y1 y2 y3)) ∧ (∀ y0 y1 y2 y3 y4, LeO (snowlineref04_indices.j1 k y0 y1 y2 y3 y4) (snowlineref04_indices.j1 (k + 1) y0 y1 y2 y3 y4))
 | 0 => ⟨fun _ _ _ _ r h => by simp [snowlineref04_indices.l0] at h, fun _ _ _ _ _ r h => by simp [snowlineref04_indices.j1] at h⟩
 | k + 1 => by
  obtain ⟨ih0, ih1⟩ := snowlineref04_indices.mono_l k; refine ⟨?_, ?_⟩ <;> intros <;> (first | unfold snowlineref04_indices.l0 | unfold snowlineref04_indices.j1) <;> repeat' first | (with_reducible first | exact ih0 _ _ _ _ | exact ih1 _ _ _ _ _ | exact LeO.refl _ | exact LeO.none _ | refine LeO.ite ?_ ?_ | refine LeO.bind ?_ (fun _ => ?_)) | exact ih0 _ _ _ _ | exact ih1 _ _ _ _ _ | exact LeO.none _ | refine LeO.ite ?_ ?_ | refine LeO.bind ?_ (fun _ => ?_)
theorem snowlineref04_indices.mono : ∀ a0 a1 a2 k, LeO (snowlineref04_indices.f k a0 a1 a2) (snowlineref04_indices.f (k + 1) a0 a1 a2) := by
 intro a0 a1 a2 k; obtain ⟨ih0, ih1⟩ := snowlineref04_indices.mono_l k; unfold snowlineref04_indices.f; repeat' first | (with_reducible first | exact ih0 _ _ _ _ | exact ih1 _ _ _ _ _ | exact LeO.refl _ | exact LeO.none _ | refine LeO.ite ?_ ?_ | refine LeO.bind ?_ (fun _ => ?_)) | exact ih0 _ _ _ _ | exact ih1 _ _ _ _ _ | exact LeO.none _ | refine LeO.ite ?_ ?_ | refine LeO.bind ?_ (fun _ => ?_)
set_option maxHeartbeats 8000000 in
set_option maxRecDepth 100000 in
theorem snowlineref04_indices.calls (k : Nat) (a0_0 : Int) (A0_1 : Option Addr) (c0_1 : Nat) (l0_1 : List (S39)) (A1 : Option Addr) (c1 : Nat) (l1 : List Int) (r : Bool) (w : World) (hr0_1 : Kd.C k39 w A0_1 l0_1.length l0_1) (hc0_1 : l0_1.length ≤ c0_1) (hr1 : Kd.C (Kd.int .i64) w A1 l1.length l1) (hc1 : l1.length ≤ c1) (h : snowlineref04_indices.f k a0_0 l0_1 l1 = some r) :
  Calls Try.prog 92 #[.agg #[.int .i64 a0_0, .slice A0_1 l0_1.length c0_1], .slice A1 l1.length c1] w fun e w' => e = .returned (.bool r) ∧ Below w.heap.size w w' := by
 have hu24 := Try.underlying24; have HR0_1 := Z_ hr0_1; have HC0_1 := Z_ hc0_1; clear hr0_1 hc0_1; have HR1 := Z_ hr1; have HC1 := Z_ hc1; clear hr1 hc1; have HB := Z_ (Below.refl w.heap.size w); have H : (snowlineref04_indices.l0 k l1 0 a0_0 l0_1) = some r := h; clear h; have H' := Z_ H; clear H; go_enter Try.func92, Try.ntmps92; go_wp2_with (first | ((with_reducible refine gate_dst (N := 2) rfl ?_); (try (refine gate_guard (by rfl) ?_; dsimp only)); refine bX_ 2 #[.int .i64 a0_0, .slice A0_1 l0_1.length c0_1] 24 ?_; intro gb778 hg w3 hbox hb; have BK778 := Z_ (hbox); have GW778 := Z_ ((by rw [hg]; exact (fZ_ hB_) : w.heap.size ≤ gb778)); have GE778 := Z_ ((by rw [hg]; exact (fZ_ hB_) : w.heap.size ≤ gb778)); replace HB := Z_ (fS_ hB_ hb); clear hb hbox hg)); repeat (go_quiet (first | ((with_reducible refine gate_dst (N := 2) rfl ?_); (try (refine gate_guard (by rfl) ?_; dsimp only)); refine bX_ 2 #[.int .i64 a0_0, .slice A0_1 l0_1.length c0_1] 24 ?_; intro gb778 hg w3 hbox hb; have BK778 := Z_ (hbox); have GW778 := Z_ ((by rw [hg]; exact (fZ_ hB_) : w.heap.size ≤ gb778)); have GE778 := Z_ ((by rw [hg]; exact (fZ_ hB_) : w.heap.size ≤ gb778)); replace HB := Z_ (fS_ hB_ hb); clear hb hbox hg)); try go_wp2_with (first | ((with_reducible refine gate_dst (N := 2) rfl ?_); (try (refine gate_guard (by rfl) ?_; dsimp only)); refine bX_ 2 #[.int .i64 a0_0, .slice A0_1 l0_1.length c0_1] 24 ?_; intro gb778 hg w3 hbox hb; have BK778 := Z_ (hbox); have GW778 := Z_ ((by rw [hg]; exact (fZ_ hB_) : w.heap.size ≤ gb778)); have GE778 := Z_ ((by rw [hg]; exact (fZ_ hB_) : w.heap.size ≤ gb778)); replace HB := Z_ (fS_ hB_ hb); clear hb hbox hg)))
 go_loopg [5] k (fun kq v5 w' => ∃ (x5_1 : Int), v5 = .int .i64 x5_1 ∧ Aside0 (snowlineref04_indices.l0 kq l1 x5_1 a0_0 l0_1 = some r) ∧ Aside0 (kq ≤ k) ∧ Aside0 (w'.heap[gb778]? = some (.cells #[.int .i64 a0_0, (.slice A0_1 l0_1.length c0_1)] 24 (0, 0))) ∧ Aside0 (Below w.heap.size w w'))
 case atStart => exact ⟨(0), rf_, H', ⟨nR_ _⟩, ⟨bR_ BK778.out⟩, ⟨hB_⟩⟩
 case round =>
  clear H'; (try clear c1); (try clear p2)
  obtain ⟨x5_1, rfl, HA, HK1, BK778, HB⟩ := hrel
  cases gk with
  | zero => exact absurd HA.out (by simp [snowlineref04_indices.l0])
  | succ k1 =>
   have H := HA.out; clear HA; simp only [snowlineref04_indices.l0] at H; by_cases c4 : x5_1 < (l1.length : Int)
   ·rw [if_pos c4] at H
    have c4b0 : decide (x5_1 < (l1.length : Int)) = true := eT_ c4; clear c4; have HC5 := Z_ H; clear H; go_upto_region 4 with (fail); repeat (go_quiet (fail); go_upto_region 4 with (fail))
    go_cut [26] (fun v26 wc => ∃ (kq : Nat) (x26_4 : Bool), v26 = .bool x26_4 ∧ Aside0 (snowlineref04_indices.j1 kq l1 x5_1 x26_4 a0_0 l0_1 = some r) ∧ Aside0 (kq ≤ k1) ∧ Aside0 (wc.heap[gb778]? = some (.cells #[.int .i64 a0_0, (.slice A0_1 l0_1.length c0_1)] 24 (0, 0))) ∧ Aside0 (Below w.heap.size w wc))
    case first =>
     have H := HC5.out; clear HC5; by_cases c6 : 0 ≤ x5_1
     ·rw [if_pos c6] at H
      have c6b0 : decide (0 ≤ x5_1) = true := eT_ c6; clear c6; (first | rw [c6b0] | (simp only [i64_w, i32_w]; rw [c6b0]) | skip)
      by_cases c7 : (rd l1 x5_1) < 0
      ·rw [if_pos c7] at H
       have c7b0 : decide ((rd l1 x5_1) < 0) = true := eT_ c7; clear c7; have H' := Z_ H; clear H; have p779 : 0 ≤ (x5_1 : Int) := dT_ as_; have q779 : x5_1 < (l1.length : Int) := dT_ as_; obtain ⟨ad779, e779, hx779_0⟩ := Kd.at_int HR1.out x5_1 p779 q779; cases e779
       replace hx779_0 := (HB.out.cell (World.block_lt_of_cell? w _ hx779_0)).trans hx779_0; replace p779 := eq_true p779; replace q779 := eq_true q779; go_wp2; repeat (go_quiet (fail); try go_wp2)
       go_meet
       case rel => exact ⟨_, (true), rf_, H', ⟨by have := HK1.out; first | omega | exact nR_ _⟩, ⟨bR_ BK778.out⟩, ⟨hB_⟩⟩
      rw [if_neg c7] at H; have c7b0 : decide ((rd l1 x5_1) < 0) = false := eF_ c7; clear c7; have H' := Z_ H; clear H; have p779 : 0 ≤ (x5_1 : Int) := dT_ as_; have q779 : x5_1 < (l1.length : Int) := dT_ as_; obtain ⟨ad779, e779, hx779_0⟩ := Kd.at_int HR1.out x5_1 p779 q779; cases e779
      replace hx779_0 := (HB.out.cell (World.block_lt_of_cell? w _ hx779_0)).trans hx779_0; replace p779 := eq_true p779; replace q779 := eq_true q779; have p780 : 0 ≤ (x5_1 : Int) := dT_ as_; have q780 : x5_1 < (l1.length : Int) := dT_ as_; obtain ⟨ad780, e780, hx780_0⟩ := Kd.at_int HR1.out x5_1 p780 q780; obtain rfl : ad779 = ad780 := (by injection e780); replace hx780_0 := (HB.out.cell (World.block_lt_of_cell? w _ hx780_0)).trans hx780_0; replace p780 := eq_true p780; replace q780 := eq_true q780; obtain ⟨⟨hcz8_0, hcz8_1⟩, hfz8_0, hfz8_1⟩ := f2_ BK778.out; go_wp2; repeat (go_quiet (fail); try go_wp2)
      go_meet
      case rel => exact ⟨_, (decide ((rd l1 x5_1) ≥ (l0_1.length : Int))), rf_, H', ⟨by have := HK1.out; first | omega | exact nR_ _⟩, ⟨bR_ BK778.out⟩, ⟨hB_⟩⟩
     rw [if_neg c6] at H; exact absurd H (by simp)
    case rest =>
     clear HC5; (try clear c1); (try clear p2); (try clear c4); (try clear c4b0); (try clear c6); (try clear c6b0); (try clear c7); (try clear c7b0); (try clear p7); (try clear q7); (try clear hx7); (try clear hcz8_0); (try clear hcz8_1); (try clear hfz8_0); (try clear hfz8_1); (try clear hx779_0); (try clear hx780_0); (try clear p2); (try clear p779); (try clear p780); (try clear q779); (try clear q780)
     obtain ⟨kq, x26_4, rfl, HA, HJ4, BK778, HB⟩ := hcut
     cases kq with
     | zero => exact absurd HA.out (by simp [snowlineref04_indices.j1])
     | succ kj4 =>
      have H := HA.out; clear HA; simp only [snowlineref04_indices.j1] at H; by_cases c9 : x26_4 = true
      ·subst c9
       rw [if_pos rfl] at H; obtain rfl := oI_ H; go_wp2; repeat (go_quiet (fail); try go_wp2)
       go_ret; exact ⟨eW_, hB_⟩
      replace c9 := bE_.mpr c9; subst c9; have H1 : (snowlineref04_indices.l0 kj4 l1 (wrap64 (x5_1 + 1)) a0_0 l0_1) = some r := by rw [if_neg (show ¬ (false = true) by decide)] at H; exact H
      clear H; have H := H1; clear H1; have H' := Z_ H; clear H; go_wp2; repeat (go_quiet (fail); try go_wp2)
      go_roundg kj4
      case measure => have := HK1.out; have := HJ4.out; omega
      case rel => exact ⟨(wrap64 (x5_1 + 1)), rf_, H', ⟨by have := HK1.out; have := HJ4.out; omega⟩, ⟨bR_ BK778.out⟩, ⟨hB_⟩⟩
   rw [if_neg c4] at H; have c4b0 : decide (x5_1 < (l1.length : Int)) = false := eF_ c4; clear c4; obtain rfl := oI_ H; go_wp2; repeat (go_quiet (fail); try go_wp2)
   go_ret; exact ⟨eW_, hB_⟩
def snowlineref04_walk.l0 : Nat → Int → List Int → Int → Int → Int → Int → List (S39) → Option (Int × Bool)
 | 0, _, _, _, _, _, _, _ => none
 | k + 1, x2, x3, x10, x11, x12, x782000, x782001 => if x12 < (x3.length : Int) then (if 0 ≤ x12 then (if 0 ≤ (rd x3 x12) then (if (rd x3 x12) < (x782001.length : Int) then (if ((rd_T39 x782001 (rd x3 x12)).f0) = x10 then (snowlineref04_walk.l0 k x2 x3 ((rd_T39 x782001 (rd x3 x12)).f1) (wrap64 (x11 + ((rd_T39 x782001 (rd x3 x12)).f2))) (wrap64 (x12 + 1)) x782000 x782001) else (some (0, false))) else (none)) else (none)) else (none)) else (some (x11, (x10 == x2)))
def snowlineref04_walk.f (k : Nat) (a0_0 : Int) (l0_1 : List (S39)) (a1 : Int) (a2 : Int) (l3 : List Int) : Option (Int × Bool) := snowlineref04_walk.l0 k a2 l3 a1 0 0 a0_0 l0_1
theorem snowlineref04_walk.mono_l : ∀ k, (∀ y0 y1 y2 y3 y4 y5 y6, LeO (snowlineref04_walk.l0 k y0 y1 y2 y3 y4 y5 y6) (snowlineref04_walk.l0 (k + 1) y0 y1 y2 y3 y4 y5 y6))
 | 0 => fun _ _ _ _ _ _ _ r h => by simp [snowlineref04_walk.l0] at h
 | k + 1 => by
  have ih0 := snowlineref04_walk.mono_l k; intro y0 y1 y2 y3 y4 y5 y6; unfold snowlineref04_walk.l0; repeat' first | (with_reducible first | exact ih0 _ _ _ _ _ _ _ | exact LeO.refl _ | exact LeO.none _ | refine LeO.ite ?_ ?_ | refine LeO.bind ?_ (fun _ => ?_)) | exact ih0 _ _ _ _ _ _ _ | exact LeO.none _ | refine LeO.ite ?_ ?_ | refine LeO.bind ?_ (fun _ => ?_)
theorem snowlineref04_walk.mono : ∀ a0 a1 a2 a3 a4 k, LeO (snowlineref04_walk.f k a0 a1 a2 a3 a4) (snowlineref04_walk.f (k + 1) a0 a1 a2 a3 a4) := by
 intro a0 a1 a2 a3 a4 k; have ih0 := snowlineref04_walk.mono_l k; unfold snowlineref04_walk.f; repeat' first | (with_reducible first | exact ih0 _ _ _ _ _ _ _ | exact LeO.refl _ | exact LeO.none _ | refine LeO.ite ?_ ?_ | refine LeO.bind ?_ (fun _ => ?_)) | exact ih0 _ _ _ _ _ _ _ | exact LeO.none _ | refine LeO.ite ?_ ?_ | refine LeO.bind ?_ (fun _ => ?_)
def snowlineref04_walk.T5 : Bool × List (List Nat × List Nat) := (true, [([], []), ([0], [0]), ([], []), ([], []), ([2, 3], [2, 3]), ([4], [4]), ([1, 5], [1, 5]), ([6], [6]), ([], []), ([8, 7, 0, 1, 2, 3, 4, 5, 6, 7, 8], [7, 8])])
def snowlineref04_walk.B5 : List Nat := [0, 1, 0, 0, 12, 28, 63, 127, 0, 511]
theorem snowlineref04_walk.tab5 : rtab .any (opsOf Try.f93 5) = snowlineref04_walk.T5 := by kernel_rfl
theorem snowlineref04_walk.bits5 : waitsOk snowlineref04_walk.T5.2 snowlineref04_walk.B5 = true := by kernel_rfl
set_option maxHeartbeats 8000000 in
set_option maxRecDepth 100000 in
theorem snowlineref04_walk.calls (k : Nat) (a0_0 : Int) (A0_1 : Option Addr) (c0_1 : Nat) (l0_1 : List (S39)) (a1 : Int) (a2 : Int) (A3 : Option Addr) (c3 : Nat) (l3 : List Int) (r1 : Int) (r2 : Bool) (w : World) (hr0_1 : Kd.C k39 w A0_1 l0_1.length l0_1) (hc0_1 : l0_1.length ≤ c0_1) (hr3 : Kd.C (Kd.int .i64) w A3 l3.length l3) (hc3 : l3.length ≤ c3) (h : snowlineref04_walk.f k a0_0 l0_1 a1 a2 l3 = some (r1, r2)) :
  Calls Try.prog 93 #[.agg #[.int .i64 a0_0, .slice A0_1 l0_1.length c0_1], .int .i64 a1, .int .i64 a2, .slice A3 l3.length c3] w fun e w' => e = .returned (.tuple #[.int .i64 r1, .bool r2]) ∧ Below w.heap.size w w' := by
 have hu24 := Try.underlying24; have hu39 := Try.underlying39; have HR0_1 := Z_ hr0_1; have HC0_1 := Z_ hc0_1; clear hr0_1 hc0_1; have HR3 := Z_ hr3; have HC3 := Z_ hc3; clear hr3 hc3; have HB := Z_ (Below.refl w.heap.size w); have H : (snowlineref04_walk.l0 k a2 l3 a1 0 0 a0_0 l0_1) = some (r1, r2) := h; clear h; have H' := Z_ H; clear H; go_enter Try.func93, Try.ntmps93; go_wp2_with (first | ((with_reducible refine gate_dst (N := 4) rfl ?_); refine bX_ 4 #[.int .i64 a0_0, .slice A0_1 l0_1.length c0_1] 24 ?_; intro gb781 hg w5 hbox hb; have BK781 := Z_ (hbox); have GW781 := Z_ ((by rw [hg]; exact (fZ_ hB_) : w.heap.size ≤ gb781)); have GE781 := Z_ ((by rw [hg]; exact (fZ_ hB_) : w.heap.size ≤ gb781)); replace HB := Z_ (fS_ hB_ hb); clear hb hbox hg)); go_loopg [10, 11, 12] k (fun kq v10 v11 v12 w' => ∃ (x10_1 : Int) (x11_1 : Int) (x12_1 : Int), v10 = .int .i64 x10_1 ∧ v11 = .int .i64 x11_1 ∧ v12 = .int .i64 x12_1 ∧ Aside0 (snowlineref04_walk.l0 kq a2 l3 x10_1 x11_1 x12_1 a0_0 l0_1 = some (r1, r2)) ∧ Aside0 (kq ≤ k) ∧ Aside0 (w'.heap[gb781]? = some (.cells #[.int .i64 a0_0, (.slice A0_1 l0_1.length c0_1)] 24 (0, 0))) ∧ Aside0 (Below w.heap.size w w'))
 case atStart => exact ⟨(a1), (0), (0), rf_, rf_, rf_, H', ⟨nR_ _⟩, ⟨bR_ BK781.out⟩, ⟨hB_⟩⟩
 case round =>
  clear H'; (try clear p2); (try clear c3)
  obtain ⟨x10_1, x11_1, x12_1, rfl, rfl, rfl, HA, HK1, BK781, HB⟩ := hrel
  cases gk with
  | zero => exact absurd HA.out (by simp [snowlineref04_walk.l0])
  | succ k1 =>
   have H := HA.out; clear HA; simp only [snowlineref04_walk.l0] at H; by_cases c6 : x12_1 < (l3.length : Int)
   ·rw [if_pos c6] at H
    have c6b0 : decide (x12_1 < (l3.length : Int)) = true := eT_ c6; clear c6; by_cases c7 : 0 ≤ x12_1
    ·rw [if_pos c7] at H
     have c7b0 : decide (0 ≤ x12_1) = true := eT_ c7; clear c7; by_cases c8 : 0 ≤ (rd l3 x12_1)
     ·rw [if_pos c8] at H
      have c8b0 : decide (0 ≤ (rd l3 x12_1)) = true := eT_ c8; clear c8; by_cases c9 : (rd l3 x12_1) < (l0_1.length : Int)
      ·rw [if_pos c9] at H
       have c9b0 : decide ((rd l3 x12_1) < (l0_1.length : Int)) = true := eT_ c9; clear c9; have HF10 := Z_ H; clear H; try go_wp2
       replace BK781 := Z_ (bD_ BK781.out); replace HB := Z_ (fD_ HB.out); have p782 : 0 ≤ (x12_1 : Int) := dT_ as_; have q782 : x12_1 < (l3.length : Int) := dT_ as_; obtain ⟨ad782, e782, hx782_0⟩ := Kd.at_int HR3.out x12_1 p782 q782; have hw782_0 := hx782_0; cases e782
       replace hx782_0 := (HB.out.cell (World.block_lt_of_cell? w _ hx782_0)).trans hx782_0; replace p782 := eq_true p782; replace q782 := eq_true q782; have p783 : 0 ≤ ((rd l3 x12_1) : Int) := dT_ as_; have q783 : (rd l3 x12_1) < (l0_1.length : Int) := dT_ as_; obtain ⟨ad783, e783, hx783_0, hx783_1, hx783_2⟩ := at_T39 HR0_1.out (rd l3 x12_1) p783 q783; have hw783_2 := hx783_2; have hw783_1 := hx783_1; have hw783_0 := hx783_0; cases e783
       replace hx783_0 := (HB.out.cell (World.block_lt_of_cell? w _ hx783_0)).trans hx783_0; replace hx783_1 := (HB.out.cell (World.block_lt_of_cell? w _ hx783_1)).trans hx783_1; replace hx783_2 := (HB.out.cell (World.block_lt_of_cell? w _ hx783_2)).trans hx783_2; replace p783 := eq_true p783; replace q783 := eq_true q783; refine start_ (n := 10) (S := fun w' => w'.cell? ⟨gb781, 0, none⟩ = some (.int .i64 a0_0) ∧ w'.cell? ⟨gb781, 1, none⟩ = some (.slice (some ad783) l0_1.length c0_1) ∧ w'.cell? (ad782.add (x12_1).toNat) = some (.int .i64 (rd l3 x12_1)) ∧ w'.cell? (ad783.add (((rd l3 x12_1)).toNat * 3)) = some (.int .i64 ((rd_T39 l0_1 (rd l3 x12_1)).f0)) ∧ w'.cell? ⟨(ad783.add (((rd l3 x12_1)).toNat * 3)).block, (ad783.add (((rd l3 x12_1)).toNat * 3)).off + 1, none⟩ = some (.int .i64 ((rd_T39 l0_1 (rd l3 x12_1)).f1)) ∧ w'.cell? ⟨(ad783.add (((rd l3 x12_1)).toNat * 3)).block, (ad783.add (((rd l3 x12_1)).toNat * 3)).off + 2, none⟩ = some (.int .i64 ((rd_T39 l0_1 (rd l3 x12_1)).f2))) (ds := []) #[false, false, false, false, false, false, false, false, false, false] (by kernel_rfl) rfl rfl ⟨(bC_ BK781.out 0).trans rfl, (bC_ BK781.out 1).trans rfl, ((HB.out.cell (World.block_lt_of_cell? w _ hw782_0)).trans hw782_0), ((HB.out.cell (World.block_lt_of_cell? w _ hw783_0)).trans hw783_0), ((HB.out.cell (World.block_lt_of_cell? w _ hw783_1)).trans hw783_1), ((HB.out.cell (World.block_lt_of_cell? w _ hw783_2)).trans hw783_2)⟩ (fun hHeld => ?_); refine with_tabW snowlineref04_walk.tab5 snowlineref04_walk.bits5 (fun HT_ HW_ => ?_); generalize wr.drew = w11 at BK781 HB hx782_0 hx783_0 hx783_1 hx783_2 hHeld ⊢; refine pP_ 0 21 ?_; refine pP_ 2 23 ?_; refine pP_ 3 24 ?_; refine pP_ 4 25 ?_; refine pT_ 1 22 ?_; refine pT_ 5 26 ?_; refine pP_ 6 27 ?_; refine pT_ 7 28 ?_; refine oN_ 8 (some 13) (fun K hK => ?_); refine box_step ?hg (N := 13) ?hd (cs := #[.int .i64 0, .int .i64 0, .int .i64 0]) (t := 39) ?hr ?_; (case hd => rfl); (case hg => rfl); (case hr => first | (go_simp; done) | (go_simp; rfl)); intro gb784 hg w12 hbox hb; have BK784 := Z_ (hbox); have GW784 := Z_ ((by rw [hg]; exact (fZ_ hB_) : w.heap.size ≤ gb784)); have GE784 := Z_ ((by rw [hg]; exact (fZ_ hB_) : w.heap.size ≤ gb784)); replace HB := Z_ (fS_ hB_ hb); have NB781_784 := Z_ ((by rw [hg]; exact Nat.ne_of_lt (blk_lt (g := gb781) (o := .cells #[.int .i64 a0_0, .slice (some ad783) l0_1.length c0_1] 24 (0, 0)) (bR_ BK781.out)) : gb781 ≠ gb784)); have NB784_781 := Z_ ((by rw [hg]; exact Nat.ne_of_gt (blk_lt (g := gb781) (o := .cells #[.int .i64 a0_0, .slice (some ad783) l0_1.length c0_1] 24 (0, 0)) (bR_ BK781.out)) : gb784 ≠ gb781)); replace BK781 := Z_ (bB_ (g := gb781) (o := .cells #[.int .i64 a0_0, .slice (some ad783) l0_1.length c0_1] 24 (0, 0)) (bR_ BK781.out) hb); clear hb hbox hg; refine hK.out _ _ ⟨(bC_ BK781.out 0).trans rfl, (bC_ BK781.out 1).trans rfl, ((HB.out.cell (World.block_lt_of_cell? w _ hw782_0)).trans hw782_0), ((HB.out.cell (World.block_lt_of_cell? w _ hw783_0)).trans hw783_0), ((HB.out.cell (World.block_lt_of_cell? w _ hw783_1)).trans hw783_1), ((HB.out.cell (World.block_lt_of_cell? w _ hw783_2)).trans hw783_2)⟩ (fun hHeld => ?_); clear hK K; refine nP_ 13 ?_; refine oN_ 9 none (fun K hK => ?_); have hs13 : w12.cell? ⟨gb784, 0, none⟩ = some (.int .i64 0) := (bC_ BK784.out 0).trans rfl; have hfs13 := bF_ BK784.out 0; have hns13_0 := NB781_784.out; have hms13_0 := NB784_781.out; have hs14 : w12.cell? ⟨gb784, 1, none⟩ = some (.int .i64 0) := (bC_ BK784.out 1).trans rfl; have hfs14 := bF_ BK784.out 1; have hns14_0 := NB781_784.out; have hms14_0 := NB784_781.out; have hs15 : w12.cell? ⟨gb784, 2, none⟩ = some (.int .i64 0) := (bC_ BK784.out 2).trans rfl; have hfs15 := bF_ BK784.out 2; have hns15_0 := NB781_784.out; have hms15_0 := NB784_781.out; refine skip_ (w1 := ?_) (by rfl) rfl ?_ ?_; rotate_left
       ·go_simp
        rfl
       refine hK.out _ _ ⟨((cell_far (p := ⟨gb784, _, none⟩) NB781_784.out _).trans (((cell_far (p := ⟨gb784, _, none⟩) NB781_784.out _).trans (((cell_far (p := ⟨gb784, _, none⟩) NB781_784.out _).trans (hHeld.1)))))), ((cell_far (p := ⟨gb784, _, none⟩) NB781_784.out _).trans (((cell_far (p := ⟨gb784, _, none⟩) NB781_784.out _).trans (((cell_far (p := ⟨gb784, _, none⟩) NB781_784.out _).trans (hHeld.2.1)))))), ((cell_far (p := ⟨gb784, _, none⟩) (by first | exact Nat.ne_of_lt (Nat.lt_of_lt_of_le (by have := World.block_lt_of_cell? _ _ hw782_0; first | rwa [add_block] at this | exact this) GW784.out) | (rw [add_block]; exact Nat.ne_of_lt (Nat.lt_of_lt_of_le (by have := World.block_lt_of_cell? _ _ hw782_0; first | rwa [add_block] at this | exact this) GW784.out)) | (show (Addr.add _ _).block ≠ _; rw [add_block]; exact Nat.ne_of_lt (Nat.lt_of_lt_of_le (by have := World.block_lt_of_cell? _ _ hw782_0; first | rwa [add_block] at this | exact this) GW784.out)) | (dsimp only; exact Nat.ne_of_lt (Nat.lt_of_lt_of_le (by have := World.block_lt_of_cell? _ _ hw782_0; first | rwa [add_block] at this | exact this) GW784.out))) _).trans (((cell_far (p := ⟨gb784, _, none⟩) (by first | exact Nat.ne_of_lt (Nat.lt_of_lt_of_le (by have := World.block_lt_of_cell? _ _ hw782_0; first | rwa [add_block] at this | exact this) GW784.out) | (rw [add_block]; exact Nat.ne_of_lt (Nat.lt_of_lt_of_le (by have := World.block_lt_of_cell? _ _ hw782_0; first | rwa [add_block] at this | exact this) GW784.out)) | (show (Addr.add _ _).block ≠ _; rw [add_block]; exact Nat.ne_of_lt (Nat.lt_of_lt_of_le (by have := World.block_lt_of_cell? _ _ hw782_0; first | rwa [add_block] at this | exact this) GW784.out)) | (dsimp only; exact Nat.ne_of_lt (Nat.lt_of_lt_of_le (by have := World.block_lt_of_cell? _ _ hw782_0; first | rwa [add_block] at this | exact this) GW784.out))) _).trans (((cell_far (p := ⟨gb784, _, none⟩) (by first | exact Nat.ne_of_lt (Nat.lt_of_lt_of_le (by have := World.block_lt_of_cell? _ _ hw782_0; first | rwa [add_block] at this | exact this) GW784.out) | (rw [add_block]; exact Nat.ne_of_lt (Nat.lt_of_lt_of_le (by have := World.block_lt_of_cell? _ _ hw782_0; first | rwa [add_block] at this | exact this) GW784.out)) | (show (Addr.add _ _).block ≠ _; rw [add_block]; exact Nat.ne_of_lt (Nat.lt_of_lt_of_le (by have := World.block_lt_of_cell? _ _ hw782_0; first | rwa [add_block] at this | exact this) GW784.out)) | (dsimp only; exact Nat.ne_of_lt (Nat.lt_of_lt_of_le (by have := World.block_lt_of_cell? _ _ hw782_0; first | rwa [add_block] at this | exact this) GW784.out))) _).trans (hHeld.2.2.1)))))), ((cell_far (p := ⟨gb784, _, none⟩) (by first | exact Nat.ne_of_lt (Nat.lt_of_lt_of_le (by have := World.block_lt_of_cell? _ _ hw783_0; first | rwa [add_block] at this | exact this) GW784.out) | (rw [add_block]; exact Nat.ne_of_lt (Nat.lt_of_lt_of_le (by have := World.block_lt_of_cell? _ _ hw783_0; first | rwa [add_block] at this | exact this) GW784.out)) | (show (Addr.add _ _).block ≠ _; rw [add_block]; exact Nat.ne_of_lt (Nat.lt_of_lt_of_le (by have := World.block_lt_of_cell? _ _ hw783_0; first | rwa [add_block] at this | exact this) GW784.out)) | (dsimp only; exact Nat.ne_of_lt (Nat.lt_of_lt_of_le (by have := World.block_lt_of_cell? _ _ hw783_0; first | rwa [add_block] at this | exact this) GW784.out))) _).trans (((cell_far (p := ⟨gb784, _, none⟩) (by first | exact Nat.ne_of_lt (Nat.lt_of_lt_of_le (by have := World.block_lt_of_cell? _ _ hw783_0; first | rwa [add_block] at this | exact this) GW784.out) | (rw [add_block]; exact Nat.ne_of_lt (Nat.lt_of_lt_of_le (by have := World.block_lt_of_cell? _ _ hw783_0; first | rwa [add_block] at this | exact this) GW784.out)) | (show (Addr.add _ _).block ≠ _; rw [add_block]; exact Nat.ne_of_lt (Nat.lt_of_lt_of_le (by have := World.block_lt_of_cell? _ _ hw783_0; first | rwa [add_block] at this | exact this) GW784.out)) | (dsimp only; exact Nat.ne_of_lt (Nat.lt_of_lt_of_le (by have := World.block_lt_of_cell? _ _ hw783_0; first | rwa [add_block] at this | exact this) GW784.out))) _).trans (((cell_far (p := ⟨gb784, _, none⟩) (by first | exact Nat.ne_of_lt (Nat.lt_of_lt_of_le (by have := World.block_lt_of_cell? _ _ hw783_0; first | rwa [add_block] at this | exact this) GW784.out) | (rw [add_block]; exact Nat.ne_of_lt (Nat.lt_of_lt_of_le (by have := World.block_lt_of_cell? _ _ hw783_0; first | rwa [add_block] at this | exact this) GW784.out)) | (show (Addr.add _ _).block ≠ _; rw [add_block]; exact Nat.ne_of_lt (Nat.lt_of_lt_of_le (by have := World.block_lt_of_cell? _ _ hw783_0; first | rwa [add_block] at this | exact this) GW784.out)) | (dsimp only; exact Nat.ne_of_lt (Nat.lt_of_lt_of_le (by have := World.block_lt_of_cell? _ _ hw783_0; first | rwa [add_block] at this | exact this) GW784.out))) _).trans (hHeld.2.2.2.1)))))), ((cell_far (p := ⟨gb784, _, none⟩) (by first | exact Nat.ne_of_lt (Nat.lt_of_lt_of_le (by have := World.block_lt_of_cell? _ _ hw783_1; first | rwa [add_block] at this | exact this) GW784.out) | (rw [add_block]; exact Nat.ne_of_lt (Nat.lt_of_lt_of_le (by have := World.block_lt_of_cell? _ _ hw783_1; first | rwa [add_block] at this | exact this) GW784.out)) | (show (Addr.add _ _).block ≠ _; rw [add_block]; exact Nat.ne_of_lt (Nat.lt_of_lt_of_le (by have := World.block_lt_of_cell? _ _ hw783_1; first | rwa [add_block] at this | exact this) GW784.out)) | (dsimp only; exact Nat.ne_of_lt (Nat.lt_of_lt_of_le (by have := World.block_lt_of_cell? _ _ hw783_1; first | rwa [add_block] at this | exact this) GW784.out))) _).trans (((cell_far (p := ⟨gb784, _, none⟩) (by first | exact Nat.ne_of_lt (Nat.lt_of_lt_of_le (by have := World.block_lt_of_cell? _ _ hw783_1; first | rwa [add_block] at this | exact this) GW784.out) | (rw [add_block]; exact Nat.ne_of_lt (Nat.lt_of_lt_of_le (by have := World.block_lt_of_cell? _ _ hw783_1; first | rwa [add_block] at this | exact this) GW784.out)) | (show (Addr.add _ _).block ≠ _; rw [add_block]; exact Nat.ne_of_lt (Nat.lt_of_lt_of_le (by have := World.block_lt_of_cell? _ _ hw783_1; first | rwa [add_block] at this | exact this) GW784.out)) | (dsimp only; exact Nat.ne_of_lt (Nat.lt_of_lt_of_le (by have := World.block_lt_of_cell? _ _ hw783_1; first | rwa [add_block] at this | exact this) GW784.out))) _).trans (((cell_far (p := ⟨gb784, _, none⟩) (by first | exact Nat.ne_of_lt (Nat.lt_of_lt_of_le (by have := World.block_lt_of_cell? _ _ hw783_1; first | rwa [add_block] at this | exact this) GW784.out) | (rw [add_block]; exact Nat.ne_of_lt (Nat.lt_of_lt_of_le (by have := World.block_lt_of_cell? _ _ hw783_1; first | rwa [add_block] at this | exact this) GW784.out)) | (show (Addr.add _ _).block ≠ _; rw [add_block]; exact Nat.ne_of_lt (Nat.lt_of_lt_of_le (by have := World.block_lt_of_cell? _ _ hw783_1; first | rwa [add_block] at this | exact this) GW784.out)) | (dsimp only; exact Nat.ne_of_lt (Nat.lt_of_lt_of_le (by have := World.block_lt_of_cell? _ _ hw783_1; first | rwa [add_block] at this | exact this) GW784.out))) _).trans (hHeld.2.2.2.2.1)))))), ((cell_far (p := ⟨gb784, _, none⟩) (by first | exact Nat.ne_of_lt (Nat.lt_of_lt_of_le (by have := World.block_lt_of_cell? _ _ hw783_2; first | rwa [add_block] at this | exact this) GW784.out) | (rw [add_block]; exact Nat.ne_of_lt (Nat.lt_of_lt_of_le (by have := World.block_lt_of_cell? _ _ hw783_2; first | rwa [add_block] at this | exact this) GW784.out)) | (show (Addr.add _ _).block ≠ _; rw [add_block]; exact Nat.ne_of_lt (Nat.lt_of_lt_of_le (by have := World.block_lt_of_cell? _ _ hw783_2; first | rwa [add_block] at this | exact this) GW784.out)) | (dsimp only; exact Nat.ne_of_lt (Nat.lt_of_lt_of_le (by have := World.block_lt_of_cell? _ _ hw783_2; first | rwa [add_block] at this | exact this) GW784.out))) _).trans (((cell_far (p := ⟨gb784, _, none⟩) (by first | exact Nat.ne_of_lt (Nat.lt_of_lt_of_le (by have := World.block_lt_of_cell? _ _ hw783_2; first | rwa [add_block] at this | exact this) GW784.out) | (rw [add_block]; exact Nat.ne_of_lt (Nat.lt_of_lt_of_le (by have := World.block_lt_of_cell? _ _ hw783_2; first | rwa [add_block] at this | exact this) GW784.out)) | (show (Addr.add _ _).block ≠ _; rw [add_block]; exact Nat.ne_of_lt (Nat.lt_of_lt_of_le (by have := World.block_lt_of_cell? _ _ hw783_2; first | rwa [add_block] at this | exact this) GW784.out)) | (dsimp only; exact Nat.ne_of_lt (Nat.lt_of_lt_of_le (by have := World.block_lt_of_cell? _ _ hw783_2; first | rwa [add_block] at this | exact this) GW784.out))) _).trans (((cell_far (p := ⟨gb784, _, none⟩) (by first | exact Nat.ne_of_lt (Nat.lt_of_lt_of_le (by have := World.block_lt_of_cell? _ _ hw783_2; first | rwa [add_block] at this | exact this) GW784.out) | (rw [add_block]; exact Nat.ne_of_lt (Nat.lt_of_lt_of_le (by have := World.block_lt_of_cell? _ _ hw783_2; first | rwa [add_block] at this | exact this) GW784.out)) | (show (Addr.add _ _).block ≠ _; rw [add_block]; exact Nat.ne_of_lt (Nat.lt_of_lt_of_le (by have := World.block_lt_of_cell? _ _ hw783_2; first | rwa [add_block] at this | exact this) GW784.out)) | (dsimp only; exact Nat.ne_of_lt (Nat.lt_of_lt_of_le (by have := World.block_lt_of_cell? _ _ hw783_2; first | rwa [add_block] at this | exact this) GW784.out))) _).trans (hHeld.2.2.2.2.2))))))⟩ (fun hHeld => ?_); clear hK K; refine dN_ ?_; have hnb16 := NB784_781.out; have hnc16 := NB781_784.out; obtain ⟨⟨hcz17_0, hcz17_1, hcz17_2⟩, hfz17_0, hfz17_1, hfz17_2⟩ := f3_ BK784.out; go_upto_if 32 with (fail); have H := HF10.out; clear HF10; by_cases c18 : ((rd_T39 l0_1 (rd l3 x12_1)).f0) = x10_1
       ·rw [if_pos c18] at H
        obtain ⟨c18b0, c18b1⟩ := be_ c18; clear c18; (first | rw [c18b0] | (simp only [i64_w, i32_w]; rw [c18b0]) | skip)
        have H' := Z_ H; clear H; have hnb19 := NB784_781.out; have hnc19 := NB781_784.out; obtain ⟨⟨hcz20_0, hcz20_1, hcz20_2⟩, hfz20_0, hfz20_1, hfz20_2⟩ := f3_ BK784.out; go_wp2; go_roundg k1
        case measure => have := HK1.out; omega
        case rel => exact ⟨((rd_T39 l0_1 (rd l3 x12_1)).f1), (wrap64 (x11_1 + ((rd_T39 l0_1 (rd l3 x12_1)).f2))), (wrap64 (x12_1 + 1)), rf_, rf_, rf_, H', ⟨by have := HK1.out; omega⟩, ⟨by (with_reducible repeat (first | refine bN_ ?_ _ | refine bD_ ?_)); refine blk_far ?_ NB781_784.out _; (with_reducible repeat (first | refine bN_ ?_ _ | refine bD_ ?_)); refine blk_far ?_ NB781_784.out _; (with_reducible repeat (first | refine bN_ ?_ _ | refine bD_ ?_)); refine blk_far ?_ NB781_784.out _; (with_reducible repeat (first | refine bN_ ?_ _ | refine bD_ ?_)); exact BK781.out⟩, ⟨hB_⟩⟩
       rw [if_neg c18] at H; obtain ⟨c18b0, c18b1⟩ := bn_ c18; (first | rw [c18b0] | (simp only [i64_w, i32_w]; rw [c18b0]) | skip)
       simp only [oJ_, pI_] at H; obtain ⟨rfl, rfl⟩ := H; go_wp2; go_ret2; exact ⟨eW_, hB_⟩
      rw [if_neg c9] at H; exact absurd H (by simp)
     rw [if_neg c8] at H; exact absurd H (by simp)
    rw [if_neg c7] at H; exact absurd H (by simp)
   rw [if_neg c6] at H; have c6b0 : decide (x12_1 < (l3.length : Int)) = false := eF_ c6; clear c6; simp only [oJ_, pI_] at H; obtain ⟨rfl, rfl⟩ := H; go_wp2; go_ret2; exact ⟨eW_, hB_⟩
end Go.Proofs.Ytpolojoeabmhdaa.A
/- The reference: indices, walk. -/
namespace Go.Proofs.Ytpolojoeabmhdaa.A
open Go.RowKit Go.Proofs.YtpolojoeabmhdaaW.PrintWords Go.Proofs.YtpolojoeabmhdaaW.PrintLast Go.Proofs.YtpolojoeabmhdaaW.PrintMore
section
variable {n : Nat} {L : List S39}
theorem rindices_l0 (l : List Int) (hl : l.length ≤ 17592186044416) (N : Int) : ∀ (q : Nat) (i : Int), (q : Int) + i = l.length → 0 ≤ i → (∀ j, 0 ≤ j → j < i → 0 ≤ rd l j ∧ rd l j < (L.length : Int)) →
    ∃ b, Ev (fun k => snowlineref04_indices.l0 k l i N L) b ∧ (b = true ↔ Idx L l) := by
  intro q
  induction q with
  | zero =>
    intro i hq h0 hb
    exact ⟨true, Ev.step (f := fun _ => some true) (fun k => by rw [snowlineref04_indices.l0, if_neg (by omega)]) (Ev.now _), fun _ j j0 j1 => hb j j0 (by omega), fun _ => rfl⟩
  | succ q ih =>
    intro i hq h0 hb
    have hlt : i < (l.length : Int) := by omega
    have hT : Ev (fun k => snowlineref04_indices.j1 k l i true N L) false := Ev.step (f := fun _ => some false) (fun k => by rw [snowlineref04_indices.j1]; rfl) (Ev.now _)
    by_cases c1 : rd l i < 0
    · exact ⟨false, Ev.step (f := fun k => snowlineref04_indices.j1 k l i true N L) (fun k => by rw [snowlineref04_indices.l0, if_pos hlt, if_pos h0, if_pos c1]) hT, fun h => (by cases h), fun h => by have := h i h0 hlt; omega⟩
    have hin : ∀ {b}, Ev (fun k => snowlineref04_indices.j1 k l i (decide (rd l i ≥ (L.length : Int))) N L) b → Ev (fun k => snowlineref04_indices.l0 k l i N L) b := fun h =>
      Ev.step (fun k => by rw [snowlineref04_indices.l0, if_pos hlt, if_pos h0, if_neg c1]) h
    by_cases c2 : rd l i ≥ (L.length : Int)
    · rw [decide_eq_true c2] at hin
      exact ⟨false, hin hT, fun h => (by cases h), fun h => by have := h i h0 hlt; omega⟩
    rw [decide_eq_false c2] at hin
    obtain ⟨b, g1, g2⟩ := ih (i + 1) (by omega) (by omega) (fun j j0 j1 => by
      by_cases e : j = i
      · rw [e]; omega
      · exact hb j j0 (by omega))
    exact ⟨b, hin (Ev.step (f := fun k => snowlineref04_indices.l0 k l (i + 1) N L) (fun k => by rw [snowlineref04_indices.j1, if_neg (by decide), wrap_id (x := i + 1) (by omega) (by omega)]) g1), g2⟩
theorem rindices_ev (l : List Int) (hl : l.length ≤ 17592186044416) (N : Int) : ∃ b, Ev (fun k => snowlineref04_indices.f k N L l) b ∧ (b = true ↔ Idx L l) :=
  rindices_l0 l hl N l.length 0 (by omega) (by omega) (fun j a b => by omega)
theorem rwalk_l0 (hE : EdgesOk n L) {l : List Int} (hi : Idx L l) (hl : l.length ≤ 65536) (tt N : Int) : ∀ (q : Nat) (i at_ acc : Int), (q : Int) + i = l.length → 0 ≤ i → -(i * 1073741824) ≤ acc → acc ≤ i * 1073741824 →
    ∃ W b, Ev (fun k => snowlineref04_walk.l0 k tt l at_ acc i N L) (W, b) ∧ (b = true → Wk L at_ (l.drop i.toNat) tt (W - acc)) ∧ (b = false → ∀ W', ¬ Wk L at_ (l.drop i.toNat) tt W') := by
  intro q
  induction q with
  | zero =>
    intro i at_ acc hq h0 h1 h2
    rw [List.drop_eq_nil_of_le (by omega)]
    refine ⟨acc, (at_ == tt), Ev.step (f := fun _ => some (acc, (at_ == tt))) (fun k => by rw [snowlineref04_walk.l0, if_neg (by omega)]) (Ev.now _), fun h => ⟨(beq_iff_eq.mp h).symm, by omega⟩, fun h W' hW => ?_⟩
    rw [hW.1] at h
    simp at h
  | succ q ih =>
    intro i at_ acc hq h0 h1 h2
    have hlt : i < (l.length : Int) := by omega
    have hx := hi i h0 hlt
    have hd := hE _ hx.1 hx.2
    have d1 := hd.e
    have d2 := hd.f
    rw [drop_rd l i h0 hlt]
    by_cases hc : (rd_T39 L (rd l i)).f0 = at_
    · obtain ⟨W, b, g1, g2, g3⟩ := ih (i + 1) (rd_T39 L (rd l i)).f1 (acc + (rd_T39 L (rd l i)).f2) (by omega) (by omega) (by omega) (by omega)
      refine ⟨W, b, Ev.step (fun k => ?_) g1, fun hb => ⟨hx, hc, ?_⟩, fun hb W' hW => g3 hb _ hW.2.2⟩
      · rw [snowlineref04_walk.l0, if_pos hlt, if_pos h0, if_pos hx.1, if_pos hx.2, if_pos hc, wrap_id (x := acc + _) (by omega) (by omega), wrap_id (x := i + 1) (by omega) (by omega)]
      · have := g2 hb
        rw [show W - acc - (rd_T39 L (rd l i)).f2 = W - (acc + (rd_T39 L (rd l i)).f2) from by omega]
        exact this
    · exact ⟨0, false, Ev.step (f := fun _ => some (0, false)) (fun k => by rw [snowlineref04_walk.l0, if_pos hlt, if_pos h0, if_pos hx.1, if_pos hx.2, if_neg hc]) (Ev.now _), fun h => (by cases h), fun _ W' hW => hc hW.2.1⟩
theorem rwalk_ev (hE : EdgesOk n L) {l : List Int} (hi : Idx L l) (hl : l.length ≤ 65536) (N u v : Int) : ∃ W b, Ev (fun k => snowlineref04_walk.f k N L u v l) (W, b) ∧ (b = true → Wk L u l v W) ∧ (b = false → ∀ W', ¬ Wk L u l v W') := by
  obtain ⟨W, b, h1, h2, h3⟩ := rwalk_l0 hE hi hl v N l.length 0 u 0 (by omega) (by omega) (by omega) (by omega)
  rw [Int.sub_zero] at h2
  exact ⟨W, b, h1, h2, h3⟩
end
end Go.Proofs.Ytpolojoeabmhdaa.A
namespace Go.Proofs.Ytpolojoeabmhdaa.A
open Go.RowKit Go.Proofs.YtpolojoeabmhdaaW.PrintWords Go.Proofs.YtpolojoeabmhdaaW.PrintLast Go.Proofs.YtpolojoeabmhdaaW.PrintMore
attribute [local go_sem] max2_int min2_int max_two min_two max_three min_three max_four min_four
mutual
def diffs_Path.j0 : Nat → Int → Int → Bool → Int → List (S39) → List Int → List Bool → List Int → Option (List Int × Bool × Int)
 | 0, _, _, _, _, _, _, _, _ => none
 | k + 1, x2, x11, x45, x866000, x866001, x883000, x883001, x883002 => if x45 = true then (some (([] : List Int), false, x11)) else (diffs_Path.l0 k ([] : List Int) x2 x866000 x866001 x883000 x883001 x883002)
def diffs_Path.l0 : Nat → List Int → Int → Int → List (S39) → List Int → List Bool → List Int → Option (List Int × Bool × Int)
 | 0, _, _, _, _, _, _, _ => none
 | k + 1, x12, x13, x866000, x866001, x883000, x883001, x883002 => if 0 ≤ x13 then (if x13 < (x883002.length : Int) then (if (rd x883002 x13) ≥ 0 then (if x12.length < 17592186044416 then (if 0 ≤ (rd x883002 x13) then (if (rd x883002 x13) < (x866001.length : Int) then (diffs_Path.l0 k (x12 ++ [rd x883002 x13]) ((rd_T39 x866001 (rd x883002 x13)).f0) x866000 x866001 x883000 x883001 x883002) else (none)) else (none)) else (none)) else ((slices_Reverse_int_int.f k x12).bind fun t891 => (some (t891, true, 0)))) else (none)) else (none)
end
def diffs_Path.f (k : Nat) (a0_0 : Int) (l0_1 : List (S39)) (a1 : Int) (a2 : Int) : Option (List Int × Bool × Int) := (diffs_in.f a1 0 (wrap64 (a0_0 - 1))).bind fun t866 => ((diffs_in.f a2 0 (wrap64 (a0_0 - 1))).bind fun t867 => ((diffs_asked.f k a0_0 l0_1 (([t866, t867] : List Bool))).bind fun t871 => (if t871 = 0 then ((diffs_reach.f k a0_0 l0_1 a1).bind fun bt872 => (if bt872.2.2.2 = 0 then (if 0 ≤ a2 then (if a2 < (bt872.2.1.length : Int) then (diffs_Path.j0 k a2 bt872.2.2.2 (!(rdOf false bt872.2.1 a2)) a0_0 l0_1 bt872.1 bt872.2.1 bt872.2.2.1) else (none)) else (none)) else (diffs_Path.j0 k a2 bt872.2.2.2 true a0_0 l0_1 bt872.1 bt872.2.1 bt872.2.2.1))) else (some (([] : List Int), false, t871)))))
theorem diffs_Path.mono_l : ∀ k, (∀ y0 y1 y2 y3 y4 y5 y6 y7, LeO (diffs_Path.j0 k y0 y1 y2 y3 y4 y5 y6 y7) (diffs_Path.j0 (k + 1) y0 y1 y2 y3 y4 y5 y6 y7)) ∧ (∀ y0 y1 y2 y3 y4 y5 y6, LeO (diffs_Path.l0 k y0 y1 y2 y3 y4 y5 y6) (diffs_Path.l0 (k + 1) y0 y1 y2 y3 y4 y5 y6))
 | 0 => ⟨fun _ _ _ _ _ _ _ _ r h => by simp [diffs_Path.j0] at h, fun _ _ _ _ _ _ _ r h => by simp [diffs_Path.l0] at h⟩
 | k + 1 => by
  obtain ⟨ih0, ih1⟩ := diffs_Path.mono_l k; refine ⟨?_, ?_⟩ <;> intros <;> (first | unfold diffs_Path.j0 | unfold diffs_Path.l0) <;> repeat' first | (with_reducible first | exact ih0 _ _ _ _ _ _ _ _ | exact ih1 _ _ _ _ _ _ _ | exact diffs_asked.mono _ _ _ _ | exact diffs_reach.mono _ _ _ _ | exact slices_Reverse_int_int.mono _ _ | exact LeO.refl _ | exact LeO.none _ | refine LeO.ite ?_ ?_ | refine LeO.bind ?_ (fun _ => ?_)) | exact ih0 _ _ _ _ _ _ _ _ | exact ih1 _ _ _ _ _ _ _ | exact diffs_asked.mono _ _ _ _ | exact diffs_reach.mono _ _ _ _ | exact slices_Reverse_int_int.mono _ _ | exact LeO.none _ | refine LeO.ite ?_ ?_ | refine LeO.bind ?_ (fun _ => ?_)
theorem diffs_Path.mono : ∀ a0 a1 a2 a3 k, LeO (diffs_Path.f k a0 a1 a2 a3) (diffs_Path.f (k + 1) a0 a1 a2 a3) := by
 intro a0 a1 a2 a3 k; obtain ⟨ih0, ih1⟩ := diffs_Path.mono_l k; unfold diffs_Path.f; repeat' first | (with_reducible first | exact ih0 _ _ _ _ _ _ _ _ | exact ih1 _ _ _ _ _ _ _ | exact diffs_asked.mono _ _ _ _ | exact diffs_reach.mono _ _ _ _ | exact slices_Reverse_int_int.mono _ _ | exact LeO.refl _ | exact LeO.none _ | refine LeO.ite ?_ ?_ | refine LeO.bind ?_ (fun _ => ?_)) | exact ih0 _ _ _ _ _ _ _ _ | exact ih1 _ _ _ _ _ _ _ | exact diffs_asked.mono _ _ _ _ | exact diffs_reach.mono _ _ _ _ | exact slices_Reverse_int_int.mono _ _ | exact LeO.none _ | refine LeO.ite ?_ ?_ | refine LeO.bind ?_ (fun _ => ?_)
def diffs_Path.T1 : Bool × List (List Nat × List Nat) := (true, [([], []), ([], []), ([], []), ([2], [2]), ([3], [3]), ([1, 4], [1, 4]), ([], []), ([], []), ([7], [7]), ([8], [8]), ([6, 9, 5], [6, 9]), ([5, 10], [5, 10]), ([0, 11, 10], [0, 11]), ([12, 12, 0, 1, 2, 3, 4, 5, 6, 7, 8, 9, 10, 11, 12], [12])])
def diffs_Path.B1 : List Nat := [0, 0, 0, 4, 12, 30, 0, 0, 128, 384, 1022, 2046, 4095, 8191]
theorem diffs_Path.tab1 : rtab .any (opsOf Try.f46 1) = diffs_Path.T1 := by kernel_rfl
theorem diffs_Path.bits1 : waitsOk diffs_Path.T1.2 diffs_Path.B1 = true := by kernel_rfl
def diffs_Path.T10 : Bool × List (List Nat × List Nat) := (true, [([], []), ([0], [0]), ([], []), ([2], [2]), ([], []), ([3, 4], [3, 4]), ([5], [5]), ([1, 6], [1, 6]), ([7], [7]), ([8], [8]), ([9, 0, 1, 2, 3, 4, 5, 6, 7, 8, 9], [4, 9])])
def diffs_Path.B10 : List Nat := [0, 1, 0, 4, 0, 28, 60, 127, 255, 511, 1023]
theorem diffs_Path.tab10 : rtab .any (opsOf Try.f46 10) = diffs_Path.T10 := by kernel_rfl
theorem diffs_Path.bits10 : waitsOk diffs_Path.T10.2 diffs_Path.B10 = true := by kernel_rfl
set_option maxHeartbeats 8000000 in
set_option maxRecDepth 100000 in
theorem diffs_Path.calls (k : Nat) (a0_0 : Int) (A0_1 : Option Addr) (c0_1 : Nat) (l0_1 : List (S39)) (a1 : Int) (a2 : Int) (r1 : List Int) (r2 : Bool) (r3 : Int) (w : World) (hr0_1 : Kd.C k39 w A0_1 l0_1.length l0_1) (hc0_1 : l0_1.length ≤ c0_1) (h : diffs_Path.f k a0_0 l0_1 a1 a2 = some (r1, r2, r3)) :
  Calls Try.prog 46 #[.agg #[.int .i64 a0_0, .slice A0_1 l0_1.length c0_1], .int .i64 a1, .int .i64 a2] w fun e w' => ∃ v0_ : Value, e = .returned (.tuple #[v0_, .bool r2, .int .i64 r3]) ∧ Kd.R (Kd.int .i64) 3 w' w.heap.size (fun _ => True) v0_ r1 ∧ Below w.heap.size w w' := by
 have hu24 := Try.underlying24; have hu88 := Try.underlying88; have HR0_1 := Z_ hr0_1; have HC0_1 := Z_ hc0_1; clear hr0_1 hc0_1; have HB := Z_ (Below.refl w.heap.size w); have H : ((diffs_in.f a1 0 (wrap64 (a0_0 - 1))).bind fun t866 => ((diffs_in.f a2 0 (wrap64 (a0_0 - 1))).bind fun t867 => ((diffs_asked.f k a0_0 l0_1 (([t866, t867] : List Bool))).bind fun t871 => (if t871 = 0 then ((diffs_reach.f k a0_0 l0_1 a1).bind fun bt872 => (if bt872.2.2.2 = 0 then (if 0 ≤ a2 then (if a2 < (bt872.2.1.length : Int) then (diffs_Path.j0 k a2 bt872.2.2.2 (!(rdOf false bt872.2.1 a2)) a0_0 l0_1 bt872.1 bt872.2.1 bt872.2.2.1) else (none)) else (none)) else (diffs_Path.j0 k a2 bt872.2.2.2 true a0_0 l0_1 bt872.1 bt872.2.1 bt872.2.2.1))) else (some (([] : List Int), false, t871)))))) = some (r1, r2, r3) := h; clear h; replace H := oS_.mp H; obtain ⟨t866, A40, H⟩ := H; have A4 := Z_ A40; clear A40; replace H := oS_.mp H; obtain ⟨t867, A50, H⟩ := H; have A5 := Z_ A50; clear A50; obtain ⟨y868, hy868⟩ : ∃ y_ : List Bool, y_ = (([t866, t867] : List Bool)) := ⟨_, rfl⟩; replace H : ((diffs_asked.f k a0_0 l0_1 y868).bind fun t871 => (if t871 = 0 then ((diffs_reach.f k a0_0 l0_1 a1).bind fun bt872 => (if bt872.2.2.2 = 0 then (if 0 ≤ a2 then (if a2 < (bt872.2.1.length : Int) then (diffs_Path.j0 k a2 bt872.2.2.2 (!(rdOf false bt872.2.1 a2)) a0_0 l0_1 bt872.1 bt872.2.1 bt872.2.2.1) else (none)) else (none)) else (diffs_Path.j0 k a2 bt872.2.2.2 true a0_0 l0_1 bt872.1 bt872.2.1 bt872.2.2.1))) else (some (([] : List Int), false, t871)))) = some (r1, r2, r3) := by first | (rw [hy868]; with_reducible exact H) | (have H2_ := (oB_ _ _).symm.trans H; rw [hy868]; with_reducible exact H2_) | (have H2_ := (oB_ _ _).symm.trans H; with_reducible exact H2_) | with_reducible exact H | (rw [hy868]; exact H) | exact H
 have Ny868 := Z_ hy868; clear hy868; replace H := oS_.mp H; obtain ⟨t871, A60, H⟩ := H; have A6 := Z_ A60; clear A60; have HF7 := Z_ H; clear H; go_enter Try.func46, Try.ntmps46; try go_wp2_with (first | ((with_reducible refine gate_dst (N := 3) rfl ?_); refine bX_ 3 #[.int .i64 a0_0, .slice A0_1 l0_1.length c0_1] 24 ?_; intro gb865 hg w8 hbox hb; have BK865 := Z_ (hbox); have GW865 := Z_ ((by rw [hg]; exact (fZ_ hB_) : w.heap.size ≤ gb865)); have GE865 := Z_ ((by rw [hg]; exact (fZ_ hB_) : w.heap.size ≤ gb865)); replace HB := Z_ (fS_ hB_ hb); clear hb hbox hg))
 replace BK865 := Z_ (bD_ BK865.out); replace HB := Z_ (fD_ HB.out); refine start_ (n := 14) (S := fun w' => w'.cell? ⟨gb865, 0, none⟩ = some (.int .i64 a0_0) ∧ w'.cell? ⟨gb865, 1, none⟩ = some (.slice A0_1 l0_1.length c0_1)) (ds := []) #[false, false, false, false, false, false, false, false, false, false, false, false, false, false] (by kernel_rfl) rfl rfl ⟨(bC_ BK865.out 0).trans rfl, (bC_ BK865.out 1).trans rfl⟩ (fun hHeld => ?_); refine with_tabW diffs_Path.tab1 diffs_Path.bits1 (fun HT_ HW_ => ?_); generalize w8.drew = w9 at BK865 HB hHeld ⊢; refine pP_ 1 15 ?_; refine pP_ 2 16 ?_; refine pP_ 6 20 ?_; refine pP_ 7 21 ?_; refine pT_ 0 14 ?_; refine pT_ 3 17 ?_; refine pP_ 4 18 ?_; refine pT_ 8 22 ?_; refine pP_ 9 23 ?_; refine oN_ 5 (some 19) (fun K hK => ?_); refine gO_ Try.func75 #[.int .i64 a1, .int .i64 0, .int .i64 (wrap64 (a0_0 - 1))] ?_; with_reducible refine (diffs_in.calls a1 0 (wrap64 (a0_0 - 1)) t866 _ A4.out).mono ?_
 rintro e w' ⟨rfl, ⟨nd, rfl⟩⟩; refine ⟨_, rfl, ?_⟩; refine hK.out _ _ ⟨(bC_ BK865.out 0).trans rfl, (bC_ BK865.out 1).trans rfl⟩ (fun hHeld => ?_); clear hK K; refine nP_ 19 ?_; refine oN_ 10 (some 24) (fun K hK => ?_); refine gO_ Try.func75 #[.int .i64 a2, .int .i64 0, .int .i64 (wrap64 (a0_0 - 1))] ?_; with_reducible refine (diffs_in.calls a2 0 (wrap64 (a0_0 - 1)) t867 _ A5.out).mono ?_
 rintro e w' ⟨rfl, ⟨nd, rfl⟩⟩; refine ⟨_, rfl, ?_⟩; refine hK.out _ _ ⟨(bC_ BK865.out 0).trans rfl, (bC_ BK865.out 1).trans rfl⟩ (fun hHeld => ?_); clear hK K; refine nP_ 24 ?_; refine oN_ 11 (some 25) (fun K hK => ?_); refine Kd.R_lit_step Kd.bool _ 4 ?hg (N := 25) ?hd (xs := ([t866, t867] : List Bool)) (inner := [.bool t866, .bool t867]) (ok := fun _ => True) (okp := fun _ => True) ?hr ?hp (fun _ hk => hk) trivial (Below.refl _ _) (nR_ _) (by simp) ?_; (case hd => rfl); (case hg => rfl); (case hr => first | (go_simp; done) | (go_simp; rfl)); (case hp => exact (Reps.one (show Kd.M Kd.bool _ _ _ t866 [.bool t866] from rfl) (Reps.one (show Kd.M Kd.bool _ _ _ t867 [.bool t867] from rfl) (Reps.none _ _)))); intro v869 w10 ho11 hb hg_ hnew_; clear hg_ hnew_; (first | rw [← Ny868.out] at ho11 | (simp only [Int.reduceToNat] at ho11; rw [← Ny868.out] at ho11))
 have HO870 := Z_ (rL_ ho11 (fZ_ hB_)); replace BK865 := Z_ (bB_ (g := gb865) (o := .cells #[.int .i64 a0_0, .slice A0_1 l0_1.length c0_1] 24 (0, 0)) (bR_ BK865.out) hb); replace HB := Z_ (fS_ hB_ hb); clear hb ho11; obtain ⟨Ao12, co12, eo12⟩ := rS_ HO870.out; (first | subst eo12 | (injection eo12 with f1_ f2_ f3_; have f4_ := f1_.symm; have f5_ := f3_.symm; clear f1_ f2_ f3_; subst f4_; subst f5_))
 refine hK.out _ _ ⟨(bC_ BK865.out 0).trans rfl, (bC_ BK865.out 1).trans rfl⟩ (fun hHeld => ?_); clear hK K; refine nP_ 25 ?_; refine oN_ 12 (some 26) (fun K hK => ?_); refine gO_ Try.func77 #[.agg #[.int .i64 a0_0, .slice A0_1 l0_1.length c0_1], .slice Ao12 y868.length co12] ?_; with_reducible refine (diffs_asked.calls k a0_0 _ _ l0_1 _ _ y868 t871 _ ?side1 ?side2 ?side3 ?side4 A6.out).mono ?_
 (case side1 => exact cS_ (cB_ HR0_1.out HB.out))
 (case side2 => exact HC0_1.out)
 (case side3 => repeat (first | exact (rR_ HO870.out).2.2 | (with_reducible refine Kd.C_alloc ?_ _) | (with_reducible refine Kd.C_drewN ?_ _) | (with_reducible refine Kd.C_drew ?_)))
 (case side4 => exact (rR_ HO870.out).2.1)
 rintro e w13 ⟨rfl, hb⟩; refine ⟨_, rfl, ?_⟩; replace HO870 := Z_ (rB_ (rK_ HO870.out) hb); replace BK865 := Z_ (bB_ (g := gb865) (o := .cells #[.int .i64 a0_0, .slice A0_1 l0_1.length c0_1] 24 (0, 0)) (bR_ BK865.out) hb); replace HB := Z_ (fS_ hB_ hb); (try clear hb)
 (try clear hb2)
 (try clear hk)
 (try clear hi)
 refine hK.out _ _ ⟨(bC_ BK865.out 0).trans rfl, (bC_ BK865.out 1).trans rfl⟩ (fun hHeld => ?_); clear hK K; refine nP_ 26 ?_; refine pP_ 13 9 ?_; refine dN_ ?_; go_upto_if 28 with (fail); have H := HF7.out; clear HF7; by_cases c14 : t871 = 0
 ·rw [if_pos c14] at H
  obtain ⟨c14b0, c14b1⟩ := be_ c14; clear c14; (first | rw [c14b0] | (simp only [i64_w, i32_w]; rw [c14b0]) | skip)
  replace H := oS_.mp H; obtain ⟨⟨t872, t875, t878, t881⟩, A150, H⟩ := H; have A15 := Z_ A150; clear A150; have HC16 := Z_ H; clear H; obtain ⟨⟨hcz17_0, hcz17_1⟩, hfz17_0, hfz17_1⟩ := f2_ BK865.out; go_upto_region 5 with (first | ((with_reducible refine gate_callee (f := 78) rfl ?_); refine gL_ (some 33) Try.func78 #[.agg #[.int .i64 a0_0, .slice A0_1 l0_1.length c0_1], .int .i64 a1] ?_; (with_reducible refine (diffs_reach.calls k a0_0 _ _ l0_1 a1 t872 t875 t878 t881 _ ?side1 ?side2 A15.out).mono ?_); (case side1 => exact cS_ (cB_ HR0_1.out HB.out)); (case side2 => exact HC0_1.out); rintro e w18 ⟨v873, v876, v879, rfl, ho0, ho1, ho2, hb⟩; refine ⟨_, rfl, ?_⟩; have HO874 := Z_ (rL_ ho0 (fZ_ hB_)); have HO877 := Z_ (rL_ (Kd.R_new' ho1 (Kd.R_lt (rK_ HO870.out))) (fZ_ hB_)); replace HO870 := Z_ (Kd.R_elder' (rK_ HO870.out) (Kd.R_base ho1) hb); have HO880 := Z_ (rL_ ho2 (fZ_ hB_)); replace BK865 := Z_ (bB_ (g := gb865) (o := .cells #[.int .i64 a0_0, .slice A0_1 l0_1.length c0_1] 24 (0, 0)) (bR_ BK865.out) hb); replace HB := Z_ (fS_ hB_ hb); (try clear hb); (try clear hb2); (try clear hk); (try clear hi); (try clear ho0); (try clear ho1); (try clear ho2)) | ((with_reducible refine gate_dst (N := 10) rfl ?_); refine bX_ 10 #[.slice none 0 0, .slice none 0 0, .slice none 0 0] 88 ?_; intro gb882 hg w19 hbox hb; replace HO870 := Z_ (rB_ (rK_ HO870.out) hb); replace HO874 := Z_ (rB_ (rK_ HO874.out) hb); replace HO877 := Z_ (rB_ (rK_ HO877.out) hb); replace HO880 := Z_ (rB_ (rK_ HO880.out) hb); have BK882 := Z_ (hbox); have GW882 := Z_ ((by rw [hg]; exact (fZ_ hB_) : w.heap.size ≤ gb882)); have GE882 := Z_ ((by rw [hg]; exact (fZ_ hB_) : w.heap.size ≤ gb882)); replace HB := Z_ (fS_ hB_ hb); have NB865_882 := Z_ ((by rw [hg]; exact Nat.ne_of_lt (blk_lt (g := gb865) (o := .cells #[.int .i64 a0_0, .slice A0_1 l0_1.length c0_1] 24 (0, 0)) (bR_ BK865.out)) : gb865 ≠ gb882)); have NB882_865 := Z_ ((by rw [hg]; exact Nat.ne_of_gt (blk_lt (g := gb865) (o := .cells #[.int .i64 a0_0, .slice A0_1 l0_1.length c0_1] 24 (0, 0)) (bR_ BK865.out)) : gb882 ≠ gb865)); replace BK865 := Z_ (bB_ (g := gb865) (o := .cells #[.int .i64 a0_0, .slice A0_1 l0_1.length c0_1] 24 (0, 0)) (bR_ BK865.out) hb); clear hb hbox hg; obtain ⟨Ao20, co20, eo20⟩ := rS_ HO874.out; subst eo20; have hnb21 := NB882_865.out; have hnc21 := NB865_882.out; obtain ⟨⟨hcz22_0, hcz22_1, hcz22_2⟩, hfz22_0, hfz22_1, hfz22_2⟩ := f3_ BK882.out; obtain ⟨Ao23, co23, eo23⟩ := rS_ HO877.out; subst eo23; obtain ⟨Ao24, co24, eo24⟩ := rS_ HO880.out; subst eo24)); (try simp only [Act.put, sT_, sZ_, sS_])
  go_cut [45] (fun v45 wc => ∃ (kq : Nat) (x45_15 : Bool), v45 = .bool x45_15 ∧ Aside0 (diffs_Path.j0 kq a2 t881 x45_15 a0_0 l0_1 t872 t875 t878 = some (r1, r2, r3)) ∧ Aside0 (kq ≤ k) ∧ Aside0 (Kd.R (Kd.int .i64) 3 wc w.heap.size (fun k_ => some k_ ≠ ((.slice Ao24 t878.length co24) : Value).ownBlock) (.slice Ao20 t872.length co20) t872) ∧ Aside0 (Kd.R Kd.bool 4 wc w.heap.size (fun _ => True) (.slice Ao23 t875.length co23) t875) ∧ Aside0 (Kd.R (Kd.int .i64) 3 wc w.heap.size (fun k_ => some k_ ≠ ((.slice Ao20 t872.length co20) : Value).ownBlock) (.slice Ao24 t878.length co24) t878) ∧ Aside0 (wc.heap[gb865]? = some (.cells #[.int .i64 a0_0, (.slice A0_1 l0_1.length c0_1)] 24 (0, 0))) ∧ Aside0 (wc.heap[gb882]? = some (.cells #[(.slice Ao20 t872.length co20), (.slice Ao23 t875.length co23), (.slice Ao24 t878.length co24)] 88 (0, 0))) ∧ Aside0 (Below w.heap.size w wc))
  case first =>
   have H := HC16.out; clear HC16; by_cases c25 : t881 = 0
   ·rw [if_pos c25] at H
    obtain ⟨c25b0, c25b1⟩ := be_ c25; clear c25; (first | rw [c25b0] | (simp only [i64_w, i32_w]; rw [c25b0]) | skip)
    by_cases c26 : 0 ≤ a2
    ·rw [if_pos c26] at H
     have c26b0 : decide (0 ≤ a2) = true := eT_ c26; clear c26; by_cases c27 : a2 < (t875.length : Int)
     ·rw [if_pos c27] at H
      have c27b0 : decide (a2 < (t875.length : Int)) = true := eT_ c27; clear c27; have H' := Z_ H; clear H; have hnb28 := NB882_865.out; have hnc28 := NB865_882.out; obtain ⟨⟨hcz29_0, hcz29_1, hcz29_2⟩, hfz29_0, hfz29_1, hfz29_2⟩ := f3_ BK882.out; have p883 : 0 ≤ (a2 : Int) := dT_ as_; have q883 : a2 < (t875.length : Int) := dT_ as_; obtain ⟨ad883, e883, hx883_0⟩ := Kd.at_bool (rR_ HO877.out).2.2 a2 p883 q883; cases e883
      have hn883_0 : ad883.block ≠ gb882 := Kd.own_blk (Kd.R_ne HO877.out BK882.out (by decide)); have hn883_1 : ad883.block ≠ gb882 := Kd.own_blk (Kd.R_ne HO877.out BK882.out (by decide)); have hn883_2 : ad883.block ≠ gb882 := Kd.own_blk (Kd.R_ne HO877.out BK882.out (by decide)); replace hx883_0 := (cell_far (p := ⟨gb882, 0, none⟩) (by first | (rw [add_block]; exact hn883_0) | (show (Addr.add _ _).block ≠ _; rw [add_block]; exact hn883_0) | exact hn883_0) (.slice Ao20 t872.length co20)).trans hx883_0; replace hx883_0 := (cell_far (p := ⟨gb882, 1, none⟩) (by first | (rw [add_block]; exact hn883_1) | (show (Addr.add _ _).block ≠ _; rw [add_block]; exact hn883_1) | exact hn883_1) (.slice (some ad883) t875.length co23)).trans hx883_0; replace hx883_0 := (cell_far (p := ⟨gb882, 2, none⟩) (by first | (rw [add_block]; exact hn883_2) | (show (Addr.add _ _).block ≠ _; rw [add_block]; exact hn883_2) | exact hn883_2) (.slice Ao24 t878.length co24)).trans hx883_0; clear hn883_0; clear hn883_1; clear hn883_2; replace p883 := eq_true p883; replace q883 := eq_true q883; go_wp2; go_meet
      case rel => exact ⟨_, (!(rdOf false t875 a2)), rf_, H', ⟨oL_⟩, ⟨by (with_reducible repeat (first | apply rN_ | apply rD_)); exact rM_ (rF_ (p := ⟨gb882, 2, none⟩) (rF_ (p := ⟨gb882, 1, none⟩) (rF_ (p := ⟨gb882, 0, none⟩) (Kd.R_types HO874.out BK882.out (by decide)) (fun _ hk => hk.2) (.slice Ao20 t872.length co20)) (fun _ hk => hk.2) (.slice (some ad883) t875.length co23)) (fun _ hk => hk.2) (.slice Ao24 t878.length co24)) (fun _ hk => hk.1)⟩, ⟨by (with_reducible repeat (first | apply rN_ | apply rD_)); exact rM_ (rF_ (p := ⟨gb882, 2, none⟩) (rF_ (p := ⟨gb882, 1, none⟩) (rF_ (p := ⟨gb882, 0, none⟩) (Kd.R_types HO877.out BK882.out (by decide)) (fun _ hk => hk.2) (.slice Ao20 t872.length co20)) (fun _ hk => hk.2) (.slice (some ad883) t875.length co23)) (fun _ hk => hk.2) (.slice Ao24 t878.length co24)) (fun _ hk => trivial)⟩, ⟨by (with_reducible repeat (first | apply rN_ | apply rD_)); exact rM_ (rF_ (p := ⟨gb882, 2, none⟩) (rF_ (p := ⟨gb882, 1, none⟩) (rF_ (p := ⟨gb882, 0, none⟩) (Kd.R_types HO880.out BK882.out (by decide)) (fun _ hk => hk.2) (.slice Ao20 t872.length co20)) (fun _ hk => hk.2) (.slice (some ad883) t875.length co23)) (fun _ hk => hk.2) (.slice Ao24 t878.length co24)) (fun _ hk => hk.1)⟩, ⟨by (with_reducible repeat (first | refine bN_ ?_ _ | refine bD_ ?_)); refine blk_far ?_ NB865_882.out _; (with_reducible repeat (first | refine bN_ ?_ _ | refine bD_ ?_)); refine blk_far ?_ NB865_882.out _; (with_reducible repeat (first | refine bN_ ?_ _ | refine bD_ ?_)); refine blk_far ?_ NB865_882.out _; (with_reducible repeat (first | refine bN_ ?_ _ | refine bD_ ?_)); exact BK865.out⟩, ⟨by (with_reducible repeat (first | refine bN_ ?_ _ | refine bD_ ?_)); refine blk_put (cs := #[.slice Ao20 t872.length co20, .slice (some ad883) t875.length co23, .slice none 0 0]) ?_ 2 _ rfl; (with_reducible repeat (first | refine bN_ ?_ _ | refine bD_ ?_)); refine blk_put (cs := #[.slice Ao20 t872.length co20, .slice none 0 0, .slice none 0 0]) ?_ 1 _ rfl; (with_reducible repeat (first | refine bN_ ?_ _ | refine bD_ ?_)); refine blk_put (cs := #[.slice none 0 0, .slice none 0 0, .slice none 0 0]) ?_ 0 _ rfl; (with_reducible repeat (first | refine bN_ ?_ _ | refine bD_ ?_)); exact BK882.out⟩, ⟨hB_⟩⟩
     rw [if_neg c27] at H; exact absurd H (by simp)
    rw [if_neg c26] at H; exact absurd H (by simp)
   rw [if_neg c25] at H; obtain ⟨c25b0, c25b1⟩ := bn_ c25; (first | rw [c25b0] | (simp only [i64_w, i32_w]; rw [c25b0]) | skip)
   have H' := Z_ H; clear H; go_wp2; go_meet
   case rel => exact ⟨_, (true), rf_, H', ⟨oL_⟩, ⟨by (with_reducible repeat (first | apply rN_ | apply rD_)); exact rM_ (rF_ (p := ⟨gb882, 2, none⟩) (rF_ (p := ⟨gb882, 1, none⟩) (rF_ (p := ⟨gb882, 0, none⟩) (Kd.R_types HO874.out BK882.out (by decide)) (fun _ hk => hk.2) (.slice Ao20 t872.length co20)) (fun _ hk => hk.2) (.slice Ao23 t875.length co23)) (fun _ hk => hk.2) (.slice Ao24 t878.length co24)) (fun _ hk => hk.1)⟩, ⟨by (with_reducible repeat (first | apply rN_ | apply rD_)); exact rM_ (rF_ (p := ⟨gb882, 2, none⟩) (rF_ (p := ⟨gb882, 1, none⟩) (rF_ (p := ⟨gb882, 0, none⟩) (Kd.R_types HO877.out BK882.out (by decide)) (fun _ hk => hk.2) (.slice Ao20 t872.length co20)) (fun _ hk => hk.2) (.slice Ao23 t875.length co23)) (fun _ hk => hk.2) (.slice Ao24 t878.length co24)) (fun _ hk => trivial)⟩, ⟨by (with_reducible repeat (first | apply rN_ | apply rD_)); exact rM_ (rF_ (p := ⟨gb882, 2, none⟩) (rF_ (p := ⟨gb882, 1, none⟩) (rF_ (p := ⟨gb882, 0, none⟩) (Kd.R_types HO880.out BK882.out (by decide)) (fun _ hk => hk.2) (.slice Ao20 t872.length co20)) (fun _ hk => hk.2) (.slice Ao23 t875.length co23)) (fun _ hk => hk.2) (.slice Ao24 t878.length co24)) (fun _ hk => hk.1)⟩, ⟨by (with_reducible repeat (first | refine bN_ ?_ _ | refine bD_ ?_)); refine blk_far ?_ NB865_882.out _; (with_reducible repeat (first | refine bN_ ?_ _ | refine bD_ ?_)); refine blk_far ?_ NB865_882.out _; (with_reducible repeat (first | refine bN_ ?_ _ | refine bD_ ?_)); refine blk_far ?_ NB865_882.out _; (with_reducible repeat (first | refine bN_ ?_ _ | refine bD_ ?_)); exact BK865.out⟩, ⟨by (with_reducible repeat (first | refine bN_ ?_ _ | refine bD_ ?_)); refine blk_put (cs := #[.slice Ao20 t872.length co20, .slice Ao23 t875.length co23, .slice none 0 0]) ?_ 2 _ rfl; (with_reducible repeat (first | refine bN_ ?_ _ | refine bD_ ?_)); refine blk_put (cs := #[.slice Ao20 t872.length co20, .slice none 0 0, .slice none 0 0]) ?_ 1 _ rfl; (with_reducible repeat (first | refine bN_ ?_ _ | refine bD_ ?_)); refine blk_put (cs := #[.slice none 0 0, .slice none 0 0, .slice none 0 0]) ?_ 0 _ rfl; (with_reducible repeat (first | refine bN_ ?_ _ | refine bD_ ?_)); exact BK882.out⟩, ⟨hB_⟩⟩
  case rest =>
   clear HC16; (try clear c1); (try clear c2); (try clear p2); (try clear c4); (try clear p6); (try clear c7); (try clear p8); (try clear q8); (try clear hx8); (try clear c14); (try clear c14b0); (try clear c14b1); (try clear c21); (try clear c25); (try clear c25b0); (try clear c25b1); (try clear c26); (try clear c26b0); (try clear c27); (try clear c27b0); (try clear c28); (try clear hcz17_0); (try clear hcz17_1); (try clear hcz22_0); (try clear hcz22_1); (try clear hcz22_2); (try clear hcz29_0); (try clear hcz29_1); (try clear hcz29_2); (try clear hfz17_0); (try clear hfz17_1); (try clear hfz22_0); (try clear hfz22_1); (try clear hfz22_2); (try clear hfz29_0); (try clear hfz29_1); (try clear hfz29_2); (try clear hx883_0); (try clear p883); (try clear q883)
   obtain ⟨kq, x45_15, rfl, HA, HJ15, HO_883000, HO_883001, HO_883002, BK865, BK882, HB⟩ := hcut
   cases kq with
   | zero => exact absurd HA.out (by simp [diffs_Path.j0])
   | succ kj15 =>
    have H := HA.out; clear HA; simp only [diffs_Path.j0] at H; by_cases c30 : x45_15 = true
    ·subst c30
     rw [if_pos rfl] at H; simp only [oJ_, pI_] at H; obtain ⟨rfl, rfl, rfl⟩ := H; go_wp2; go_ret3; exact ⟨_, eW_, by first | exact Kd.R_nil _ _ _ _ _ | exact Kd.N_nil _ _ _ _ _ | exact Kd.V_nil _ _ _ _ _ | exact Kd.Q_nil _ _ _ _ _ | exact Kd.S_nil _ _ _ _ _, hB_⟩
    replace c30 := bE_.mpr c30; subst c30; have H1 : (diffs_Path.l0 kj15 ([] : List Int) a2 a0_0 l0_1 t872 t875 t878) = some (r1, r2, r3) := by rw [if_neg (show ¬ (false = true) by decide)] at H; exact H
    clear H; have H := H1; clear H1; have H' := Z_ H; clear H; go_wp2; go_loopg [12, 13] kj15 (fun kq v12 v13 w' => ∃ (x12_2 : List Int) (x13_2 : Int), v13 = .int .i64 x13_2 ∧ Aside0 (diffs_Path.l0 kq x12_2 x13_2 a0_0 l0_1 t872 t875 t878 = some (r1, r2, r3)) ∧ Aside0 (kq ≤ kj15) ∧ Aside0 (Kd.R (Kd.int .i64) 3 w' w.heap.size (fun k_ => some k_ ≠ ((.slice Ao20 t872.length co20) : Value).ownBlock ∧ some k_ ≠ ((.slice Ao24 t878.length co24) : Value).ownBlock) v12 x12_2) ∧ Aside0 (Kd.R (Kd.int .i64) 3 w' w.heap.size (fun k_ => some k_ ≠ (v12 : Value).ownBlock ∧ some k_ ≠ ((.slice Ao24 t878.length co24) : Value).ownBlock) (.slice Ao20 t872.length co20) t872) ∧ Aside0 (Kd.R Kd.bool 4 w' w.heap.size (fun _ => True) (.slice Ao23 t875.length co23) t875) ∧ Aside0 (Kd.R (Kd.int .i64) 3 w' w.heap.size (fun k_ => some k_ ≠ (v12 : Value).ownBlock ∧ some k_ ≠ ((.slice Ao20 t872.length co20) : Value).ownBlock) (.slice Ao24 t878.length co24) t878) ∧ Aside0 (w'.heap[gb865]? = some (.cells #[.int .i64 a0_0, (.slice A0_1 l0_1.length c0_1)] 24 (0, 0))) ∧ Aside0 (w'.heap[gb882]? = some (.cells #[(.slice Ao20 t872.length co20), (.slice Ao23 t875.length co23), (.slice Ao24 t878.length co24)] 88 (0, 0))) ∧ Aside0 (Below w.heap.size w w'))
    case atStart => exact ⟨(([] : List Int)), (a2), rf_, H', ⟨nR_ _⟩, ⟨by first | exact Kd.R_nil _ _ _ _ _ | exact Kd.N_nil _ _ _ _ _ | exact Kd.V_nil _ _ _ _ _ | exact Kd.Q_nil _ _ _ _ _ | exact Kd.S_nil _ _ _ _ _⟩, ⟨by (with_reducible repeat (first | apply rN_ | apply rD_)); exact rM_ HO_883000.out (fun _ hk => ⟨(by simp [Value.ownBlock]), hk⟩)⟩, ⟨rK_ HO_883001.out⟩, ⟨by (with_reducible repeat (first | apply rN_ | apply rD_)); exact rM_ HO_883002.out (fun _ hk => ⟨(by simp [Value.ownBlock]), hk⟩)⟩, ⟨bR_ BK865.out⟩, ⟨bR_ BK882.out⟩, ⟨hB_⟩⟩
    case round =>
     clear H'; (try clear c1); (try clear c2); (try clear p2); (try clear c3); (try clear c4); (try clear p6); (try clear c7); (try clear p8); (try clear q8); (try clear hx8); (try clear c14); (try clear c14b0); (try clear c14b1); (try clear c21); (try clear c25); (try clear c25b0); (try clear c25b1); (try clear c26); (try clear c26b0); (try clear c27); (try clear c27b0); (try clear c28); (try clear c30); (try clear hcz17_0); (try clear hcz17_1); (try clear hcz22_0); (try clear hcz22_1); (try clear hcz22_2); (try clear hcz29_0); (try clear hcz29_1); (try clear hcz29_2); (try clear hfz17_0); (try clear hfz17_1); (try clear hfz22_0); (try clear hfz22_1); (try clear hfz22_2); (try clear hfz29_0); (try clear hfz29_1); (try clear hfz29_2); (try clear hx883_0); (try clear p2); (try clear p6); (try clear p8); (try clear p883); (try clear q8); (try clear q883)
     obtain ⟨x12_2, x13_2, rfl, HA, HK2, HO_12, HO_883000, HO_883001, HO_883002, BK865, BK882, HB⟩ := hrel
     cases gk with
     | zero => exact absurd HA.out (by simp [diffs_Path.l0])
     | succ k2 =>
      have H := HA.out; clear HA; simp only [diffs_Path.l0] at H; by_cases c31 : 0 ≤ x13_2
      ·rw [if_pos c31] at H
       have c31b0 : decide (0 ≤ x13_2) = true := eT_ c31; clear c31; by_cases c32 : x13_2 < (t878.length : Int)
       ·rw [if_pos c32] at H
        have c32b0 : decide (x13_2 < (t878.length : Int)) = true := eT_ c32; clear c32; by_cases c33 : (rd t878 x13_2) ≥ 0
        ·rw [if_pos c33] at H
         have c33b0 : decide (0 ≤ (rd t878 x13_2)) = true := eT_ c33; clear c33; by_cases c34 : x12_2.length < 17592186044416
         ·rw [if_pos c34] at H
          have LMc34 := Z_ c34; clear c34; obtain ⟨y886, hy886⟩ : ∃ y_ : List Int, y_ = (x12_2 ++ [rd t878 x13_2]) := ⟨_, rfl⟩; replace H : (if 0 ≤ (rd t878 x13_2) then (if (rd t878 x13_2) < (l0_1.length : Int) then (diffs_Path.l0 k2 y886 ((rd_T39 l0_1 (rd t878 x13_2)).f0) a0_0 l0_1 t872 t875 t878) else (none)) else (none)) = some (r1, r2, r3) := by first | (rw [hy886]; with_reducible exact H) | (have H2_ := (oB_ _ _).symm.trans H; rw [hy886]; with_reducible exact H2_) | (have H2_ := (oB_ _ _).symm.trans H; with_reducible exact H2_) | with_reducible exact H | (rw [hy886]; exact H) | exact H
          have Ny886 := Z_ hy886; clear hy886; by_cases c35 : 0 ≤ (rd t878 x13_2)
          ·rw [if_pos c35] at H
           have c35b0 : decide (0 ≤ (rd t878 x13_2)) = true := eT_ c35; clear c35; by_cases c36 : (rd t878 x13_2) < (l0_1.length : Int)
           ·rw [if_pos c36] at H
            have c36b0 : decide ((rd t878 x13_2) < (l0_1.length : Int)) = true := eT_ c36; clear c36; have H' := Z_ H; clear H; have hnb37 := NB882_865.out; have hnc37 := NB865_882.out; obtain ⟨⟨hcz38_0, hcz38_1, hcz38_2⟩, hfz38_0, hfz38_1, hfz38_2⟩ := f3_ BK882.out; have p884 : 0 ≤ (x13_2 : Int) := dT_ as_; have q884 : x13_2 < (t878.length : Int) := dT_ as_; obtain ⟨ad884, e884, hx884_0⟩ := Kd.at_int (rR_ HO_883002.out).2.2 x13_2 p884 q884; cases e884
            replace p884 := eq_true p884; replace q884 := eq_true q884; have p885 : 0 ≤ (x13_2 : Int) := dT_ as_; have q885 : x13_2 < (t878.length : Int) := dT_ as_; obtain ⟨ad885, e885, hx885_0⟩ := Kd.at_int (rR_ HO_883002.out).2.2 x13_2 p885 q885; obtain rfl : ad884 = ad885 := (by injection e885); replace p885 := eq_true p885; replace q885 := eq_true q885; try go_wp2_with (first | ((with_reducible refine gate_builtin (b := .append) (xs := #[.tmp 64, .tmp 70]) rfl ?_); at_builtin; refine Kd.R_append (Kd.int .i64) (w0 := w) w.heap.size rfl (.tmp 64) (.tmp 70) 29 3 (.int .i64 0) 8 rfl Try.underlying29 info3 rfl (by decide) (by omega) u12 x12_2 (rd t878 x13_2) [.int .i64 (rd t878 x13_2)] (fun k_ => some k_ ≠ (.slice Ao20 t872.length co20 : Value).ownBlock ∧ some k_ ≠ (.slice (some ad884) t878.length co24 : Value).ownBlock) (fun _ => False) rfl rfl ?aP (fun _ hk => hk.elim) ?aF ?aO ?aB ?aS ?aL ?_; (case aP => exact rfl); (case aB => exact hB_); (case aF => exact (fun k_ hk => ⟨Kd.fresh' (Kd.R_lt (rK_ HO_883000.out)) k_ hk, Kd.fresh' (Kd.R_lt (rK_ HO_883002.out)) k_ hk⟩)); (case aO => exact (rK_ HO_12.out)); (case aS => exact (fZ_ hB_)); (case aL => have := LMc34.out; omega); intro v887 w39 ho hb hg hat; rw [← Ny886.out] at ho; replace HO_883000 := Z_ (Kd.R_after (ok := (fun k_ => some k_ ≠ (.slice (some ad884) t878.length co24 : Value).ownBlock)) (by (with_reducible repeat (first | apply rN_ | apply rD_)); exact rM_ HO_883000.out (fun _ hk => ⟨hk.2, hk.1⟩)) hg hat); replace HO_883001 := Z_ (Kd.R_over' (rK_ HO_883001.out) (Kd.R_typed (rK_ HO_12.out)) (by decide) hg); replace HO_883002 := Z_ (Kd.R_after (ok := (fun k_ => some k_ ≠ (.slice Ao20 t872.length co20 : Value).ownBlock)) (by (with_reducible repeat (first | apply rN_ | apply rD_)); exact rM_ HO_883002.out (fun _ hk => ⟨hk.2, hk.1⟩)) hg hat); replace BK865 := Z_ (blk_grown (g := gb865) (o := .cells #[.int .i64 a0_0, .slice A0_1 l0_1.length c0_1] 24 (0, 0)) (bR_ BK865.out) hg (Kd.R_ne HO_12.out BK865.out (by decide))); replace BK882 := Z_ (blk_grown (g := gb882) (o := .cells #[.slice Ao20 t872.length co20, .slice Ao23 t875.length co23, .slice (some ad884) t878.length co24] 88 (0, 0)) (bR_ BK882.out) hg (Kd.R_ne HO_12.out BK882.out (by decide))); replace HB := Z_ (hb); have HO888 := Z_ (ho); clear HO_12; clear ho hb hg hat))
            replace HO_883000 := Z_ (rD_ HO_883000.out); replace HO_883001 := Z_ (rD_ HO_883001.out); replace HO_883002 := Z_ (rD_ HO_883002.out); replace HO888 := Z_ (rD_ HO888.out); replace BK865 := Z_ (bD_ BK865.out); replace BK882 := Z_ (bD_ BK882.out); replace HB := Z_ (fD_ HB.out); have p889 : 0 ≤ (x13_2 : Int) := dT_ as_; have q889 : x13_2 < (t878.length : Int) := dT_ as_; obtain ⟨ad889, e889, hx889_0⟩ := Kd.at_int (rR_ HO_883002.out).2.2 x13_2 p889 q889; obtain rfl : ad884 = ad889 := (by injection e889); replace p889 := eq_true p889; replace q889 := eq_true q889; have p890 : 0 ≤ ((rd t878 x13_2) : Int) := dT_ as_; have q890 : (rd t878 x13_2) < (l0_1.length : Int) := dT_ as_; obtain ⟨ad890, e890, hx890_0, hx890_1, hx890_2⟩ := at_T39 HR0_1.out (rd t878 x13_2) p890 q890; have hw890_2 := hx890_2; have hw890_1 := hx890_1; have hw890_0 := hx890_0; cases e890
            replace hx890_0 := (HB.out.cell (World.block_lt_of_cell? w _ hx890_0)).trans hx890_0; replace hx890_1 := (HB.out.cell (World.block_lt_of_cell? w _ hx890_1)).trans hx890_1; replace hx890_2 := (HB.out.cell (World.block_lt_of_cell? w _ hx890_2)).trans hx890_2; replace p890 := eq_true p890; replace q890 := eq_true q890; refine start_ (n := 11) (S := fun w' => w'.cell? ⟨gb865, 0, none⟩ = some (.int .i64 a0_0) ∧ w'.cell? ⟨gb865, 1, none⟩ = some (.slice (some ad890) l0_1.length c0_1) ∧ w'.cell? ⟨gb882, 0, none⟩ = some (.slice Ao20 t872.length co20) ∧ w'.cell? ⟨gb882, 1, none⟩ = some (.slice Ao23 t875.length co23) ∧ w'.cell? ⟨gb882, 2, none⟩ = some (.slice (some ad884) t878.length co24) ∧ w'.cell? (ad884.add (x13_2).toNat) = some (.int .i64 (rd t878 x13_2)) ∧ w'.cell? (ad890.add (((rd t878 x13_2)).toNat * 3)) = some (.int .i64 ((rd_T39 l0_1 (rd t878 x13_2)).f0)) ∧ w'.cell? ⟨(ad890.add (((rd t878 x13_2)).toNat * 3)).block, (ad890.add (((rd t878 x13_2)).toNat * 3)).off + 1, none⟩ = some (.int .i64 ((rd_T39 l0_1 (rd t878 x13_2)).f1)) ∧ w'.cell? ⟨(ad890.add (((rd t878 x13_2)).toNat * 3)).block, (ad890.add (((rd t878 x13_2)).toNat * 3)).off + 2, none⟩ = some (.int .i64 ((rd_T39 l0_1 (rd t878 x13_2)).f2))) (ds := []) #[false, false, false, false, false, false, false, false, false, false, false] (by kernel_rfl) rfl rfl ⟨(bC_ BK865.out 0).trans rfl, (bC_ BK865.out 1).trans rfl, (bC_ BK882.out 0).trans rfl, (bC_ BK882.out 1).trans rfl, (bC_ BK882.out 2).trans rfl, hx889_0, ((HB.out.cell (World.block_lt_of_cell? w _ hw890_0)).trans hw890_0), ((HB.out.cell (World.block_lt_of_cell? w _ hw890_1)).trans hw890_1), ((HB.out.cell (World.block_lt_of_cell? w _ hw890_2)).trans hw890_2)⟩ (fun hHeld => ?_); refine with_tabW diffs_Path.tab10 diffs_Path.bits10 (fun HT_ HW_ => ?_); generalize w39.drew = w40 at HO_883000 HO_883001 HO_883002 HO888 BK865 BK882 HB hx889_0 hx890_0 hx890_1 hx890_2 hHeld ⊢; refine pP_ 0 54 ?_; refine pP_ 2 56 ?_; refine pP_ 4 58 ?_; refine pT_ 1 55 ?_; refine pT_ 3 57 ?_; refine pP_ 5 59 ?_; refine pT_ 6 60 ?_; refine pP_ 7 61 ?_; refine pP_ 8 62 ?_; refine pT_ 9 63 ?_; refine pP_ 10 13 ?_; refine dN_ ?_; try go_wp2
            go_roundg k2
            case measure => have := HJ15.out; have := HK2.out; omega
            case rel => exact ⟨(y886), ((rd_T39 l0_1 (rd t878 x13_2)).f0), rf_, H', ⟨by have := HJ15.out; have := HK2.out; omega⟩, ⟨rK_ HO888.out⟩, ⟨by (with_reducible repeat (first | apply rN_ | apply rD_)); exact rM_ HO_883000.out (fun _ hk => ⟨hk.2, hk.1⟩)⟩, ⟨rK_ HO_883001.out⟩, ⟨by (with_reducible repeat (first | apply rN_ | apply rD_)); exact rM_ HO_883002.out (fun _ hk => ⟨hk.2, hk.1⟩)⟩, ⟨bR_ BK865.out⟩, ⟨bR_ BK882.out⟩, ⟨hB_⟩⟩
           rw [if_neg c36] at H; exact absurd H (by simp)
          rw [if_neg c35] at H; exact absurd H (by simp)
         rw [if_neg c34] at H; exact absurd H (by simp)
        rw [if_neg c33] at H; have c33b0 : decide (0 ≤ (rd t878 x13_2)) = false := eF_ c33; clear c33; replace H := oS_.mp H; obtain ⟨t891, A410, H⟩ := H; have A41 := Z_ A410; clear A410; simp only [oJ_, pI_] at H; obtain ⟨rfl, rfl, rfl⟩ := H; have hnb42 := NB882_865.out; have hnc42 := NB865_882.out; obtain ⟨⟨hcz43_0, hcz43_1, hcz43_2⟩, hfz43_0, hfz43_1, hfz43_2⟩ := f3_ BK882.out; have p884 : 0 ≤ (x13_2 : Int) := dT_ as_; have q884 : x13_2 < (t878.length : Int) := dT_ as_; obtain ⟨ad884, e884, hx884_0⟩ := Kd.at_int (rR_ HO_883002.out).2.2 x13_2 p884 q884; cases e884
        replace p884 := eq_true p884; replace q884 := eq_true q884; obtain ⟨Ao44, co44, eo44⟩ := rS_ HO_12.out; subst eo44; go_wp2_with (first | ((with_reducible refine gate_callee (f := 94) rfl ?_); refine gL_ (some 73) Try.func94 #[.slice Ao44 x12_2.length co44] ?_; (with_reducible refine (slices_Reverse_int_int.calls k2 (fun k_ => some k_ = (.slice Ao44 x12_2.length co44 : Value).ownBlock) (.slice Ao44 x12_2.length co44) x12_2 t891 w _ ?side1 ?side2 A41.out).mono ?_); (case side1 => repeat (first | (with_reducible first | exact HB.out | apply fA_ | apply pB_ | apply fD_ | refine fE_ ?_ GE865.out | refine fE_ ?_ GE882.out) | exact HB.out)); (case side2 => exact Kd.R_tight rfl HO_12.out); rintro e w45 ⟨rfl, hy0, hb, hkp⟩; refine ⟨_, rfl, ?_⟩; replace HO_883000 := Z_ (rM_ (ok' := fun k_ => some k_ ≠ (.slice Ao44 x12_2.length co44 : Value).ownBlock ∧ some k_ ≠ (.slice (some ad884) t878.length co24 : Value).ownBlock) (Kd.R_keptB (HO_883000.out) hkp (fun k_ hk_ hs_ => (hk_.1) hs_)) (fun k_ hk_ => ⟨hk_.1.1, hk_.1.2⟩)); replace HO_883001 := Z_ (rM_ (ok' := fun k_ => True) (Kd.R_keptB ((Kd.R_apart' HO_883001.out (Kd.R_typed HO_12.out) (by decide))) hkp (fun k_ hk_ hs_ => (hk_.2) hs_)) (fun k_ hk_ => trivial)); replace HO_883002 := Z_ (rM_ (ok' := fun k_ => some k_ ≠ (.slice Ao44 x12_2.length co44 : Value).ownBlock ∧ some k_ ≠ (.slice Ao20 t872.length co20 : Value).ownBlock) (Kd.R_keptB (HO_883002.out) hkp (fun k_ hk_ hs_ => (hk_.1) hs_)) (fun k_ hk_ => ⟨hk_.1.1, hk_.1.2⟩)); replace BK865 := Z_ (blk_kept (bR_ BK865.out) hkp (fun hs_ => (fun e_ => (Kd.R_ne HO_12.out BK865.out (by decide)) e_) hs_)); replace BK882 := Z_ (blk_kept (bR_ BK882.out) hkp (fun hs_ => (fun e_ => (Kd.R_ne HO_12.out BK882.out (by decide)) e_) hs_)); replace HO_12 := Z_ (Kd.R_reok rfl hy0 (fun k_ e_ => HO_12.out.1 k_ e_)); replace HB := Z_ (hb); (try clear hb); (try clear hkp); (try clear hy0))); go_ret3; exact ⟨_, eW_, by (with_reducible repeat (first | apply rN_ | apply rD_)); exact rM_ HO_12.out (fun _ hk => trivial), hB_⟩
       rw [if_neg c32] at H; exact absurd H (by simp)
      rw [if_neg c31] at H; exact absurd H (by simp)
 rw [if_neg c14] at H; obtain ⟨c14b0, c14b1⟩ := bn_ c14; (first | rw [c14b0] | (simp only [i64_w, i32_w]; rw [c14b0]) | skip)
 simp only [oJ_, pI_] at H; obtain ⟨rfl, rfl, rfl⟩ := H; go_wp2; go_ret3; exact ⟨_, eW_, by first | exact Kd.R_nil _ _ _ _ _ | exact Kd.N_nil _ _ _ _ _ | exact Kd.V_nil _ _ _ _ _ | exact Kd.Q_nil _ _ _ _ _ | exact Kd.S_nil _ _ _ _ _, hB_⟩
end Go.Proofs.Ytpolojoeabmhdaa.A
/- CheckPath, Apart, Path: what they answer. -/
namespace Go.Proofs.Ytpolojoeabmhdaa.A
open Go.RowKit Go.Proofs.YtpolojoeabmhdaaW.PrintWords Go.Proofs.YtpolojoeabmhdaaW.PrintLast Go.Proofs.YtpolojoeabmhdaaW.PrintMore
section
variable {n : Nat} {L : List S39}
structure PathIs (n : Nat) (L : List S39) (u v a : Int) (l : List Int) : Prop where
  i : Idx L l
  c : (l.length : Int) ≤ n - 1
  w : ∃ W, W ≤ a ∧ Wk L u l v W
def Nodes (n : Nat) (u v : Int) : Prop := (0 ≤ u ∧ u < n) ∧ (0 ≤ v ∧ v < n)
/-- CheckPath of the program. -/
theorem cpath_ev (hV : Valid n L) (u v a : Int) (l : List Int) (hl : l.length ≤ 17592186044416) : ∃ e, Ev (fun k => diffs_CheckPath.f k n L u v a l) e ∧ Code (Nodes n u v ∧ Idx L l) (PathIs n L u v a l) e := by
  have hn1 := hV.n1
  have hn2 := hV.n2
  obtain ⟨b, b1, b2⟩ := indices_iff (n := (n : Int)) (L := L) (l := l)
  have hask := fun p q r : Bool => asked_ev n L [p, q, r] (by simp)
  simp only [if_pos (validB_iff.2 hV)] at hask
  unfold diffs_CheckPath.f
  simp only [in_some, b1, Option.bind_some, wrap_id (show (-9223372036854775808 : Int) ≤ (n : Int) - 1 by omega) (show (n : Int) - 1 < 9223372036854775808 by omega)]
  have e1 : (decide (0 ≤ u) && decide (u ≤ (n : Int) - 1)) = true ↔ 0 ≤ u ∧ u < (n : Int) := by simp; omega
  have e2 : (decide (0 ≤ v) && decide (v ≤ (n : Int) - 1)) = true ↔ 0 ≤ v ∧ v < (n : Int) := by simp; omega
  generalize (decide (0 ≤ u) && decide (u ≤ (n : Int) - 1)) = p at e1 ⊢
  generalize (decide (0 ≤ v) && decide (v ≤ (n : Int) - 1)) = q at e2 ⊢
  by_cases hA : p = true ∧ q = true ∧ b = true
  case neg =>
    have h1 : Ev (fun k => diffs_asked.f k n L [p, q, b]) 1 := by
      have := hask p q b
      rw [if_pos (by cases p <;> cases q <;> cases b <;> first | rfl | exact absurd ⟨rfl, rfl, rfl⟩ hA)] at this
      exact this
    have hno : ¬ (Nodes n u v ∧ Idx L l) := fun h => hA ⟨e1.2 h.1.1, e2.2 h.1.2, b2.2 h.2⟩
    exact ⟨1, h1.bind (Ev.neg (by decide) (Ev.now _)), fun _ => rfl, fun h => absurd h hno, fun h => absurd h hno⟩
  obtain ⟨rfl, rfl, rfl⟩ := hA
  have hi := b2.1 rfl
  have hN : Nodes n u v := ⟨e1.1 rfl, e2.1 rfl⟩
  have h0 : Ev (fun k => diffs_asked.f k n L [true, true, true]) 0 := by
    have := hask true true true
    rw [if_neg (by decide)] at this
    exact this
  obtain ⟨W, c, g1, g2, g3⟩ := walk_ev hV.e hi hl n u v
  have hT : Ev (fun k => diffs_CheckPath.j0 k true) 43 := Ev.step (f := fun _ => some 43) (fun k => by rw [diffs_CheckPath.j0]; rfl) (Ev.now _)
  have hF : Ev (fun k => diffs_CheckPath.j0 k false) 0 := Ev.step (f := fun _ => some 0) (fun k => by rw [diffs_CheckPath.j0]; rfl) (Ev.now _)
  cases c with
  | false =>
    exact ⟨43, h0.bind (Ev.pos rfl (g1.bind (Ev.neg (by simp) hT))), fun h => absurd ⟨hN, hi⟩ h, fun _ _ => rfl, fun _ h => by
      obtain ⟨W', _, h2⟩ := h.w
      exact absurd h2 (g3 rfl _)⟩
  | true =>
    obtain ⟨W', w1, w2⟩ := g2 rfl
    by_cases c1 : (l.length : Int) > (n : Int) - 1
    · exact ⟨43, h0.bind (Ev.pos rfl (g1.bind (Ev.pos rfl (Ev.pos c1 hT)))), fun h => absurd ⟨hN, hi⟩ h, fun _ _ => rfl, fun _ h => by have := h.c; omega⟩
    obtain rfl := w2 (by omega)
    by_cases c2 : W' > a
    · refine ⟨43, h0.bind (Ev.pos rfl (g1.bind (Ev.pos rfl (Ev.neg c1 ?_)))), fun h => absurd ⟨hN, hi⟩ h, fun _ _ => rfl, fun _ h => by
        obtain ⟨W'', h1, h2⟩ := h.w
        have := w1.unique h2
        omega⟩
      simp only [decide_eq_true c2]; exact hT
    · refine ⟨0, h0.bind (Ev.pos rfl (g1.bind (Ev.pos rfl (Ev.neg c1 ?_)))), fun h => absurd ⟨hN, hi⟩ h, fun _ h => absurd ⟨hi, by omega, W', by omega, w1⟩ h, fun _ _ => rfl⟩
      simp only [decide_eq_false c2]; exact hF
theorem cpath_bad {m : Int} (hv : ¬ validB m L = true) (u v a : Int) (l : List Int) : Ev (fun k => diffs_CheckPath.f k m L u v a l) 40 := by
  obtain ⟨b, b1, _⟩ := indices_iff (n := m) (L := L) (l := l)
  unfold diffs_CheckPath.f
  simp only [in_some, b1, Option.bind_some]
  generalize (decide (0 ≤ u) && decide (u ≤ wrap64 (m - 1))) = p
  generalize (decide (0 ≤ v) && decide (v ≤ wrap64 (m - 1))) = q
  have hask := asked_ev m L [p, q, b] (by simp)
  rw [if_neg hv] at hask
  exact hask.bind (Ev.neg (by decide) (Ev.now _))
/-- A walk that comes to no node twice. -/
def Simple (L : List S39) (l : List Int) : Prop := (∀ i j : Int, 0 ≤ i → i < j → j < l.length → (rd_T39 L (rd l i)).f1 ≠ (rd_T39 L (rd l j)).f1)
theorem path_l0 {la : List Int} (hla : la.length = n) (hn : n ≤ 256) {v : Int} {c : Nat} (hcn : (c : Int) < n) (hnode : ∀ i, i ≤ c → 0 ≤ it L la i v ∧ it L la i v < n) (hidx : ∀ i, i < c → 0 ≤ rd la (it L la i v) ∧ rd la (it L la i v) < (L.length : Int)) (hr : rd la (it L la c v) = -1) (N : Int) (lo : List Int) (ha : List Bool) : ∀ (q i : Nat), q + i = c →
    Ev (fun k => diffs_Path.l0 k (chain L la i v) (it L la i v) N L lo ha la) ((chain L la c v).reverse, true, 0) := by
  intro q
  induction q with
  | zero =>
    intro i hi
    obtain rfl : i = c := by omega
    have hy := hnode i (Nat.le_refl _)
    refine Ev.step (f := fun k => (slices_Reverse_int_int.f k (chain L la i v)).bind fun t => some (t, true, 0)) (fun k => ?_) ((reverse_ev _ (by rw [chain_len L la]; omega)).bind (Ev.now _))
    rw [diffs_Path.l0, if_pos hy.1, if_pos (by omega), hr, if_neg (by omega)]
  | succ q ih =>
    intro i hi
    have hx := hidx i (by omega)
    have hy := hnode i (by omega)
    refine Ev.step (fun k => ?_) (ih (i + 1) (by omega))
    rw [diffs_Path.l0, if_pos hy.1, if_pos (by omega), if_pos hx.1, if_pos (by rw [chain_len L la]; omega), if_pos hx.1, if_pos hx.2, chain_snoc, it_succ]
    rfl
/-- Apart and Path together. -/
theorem apath_ev (hV : Valid n L) (u v : Int) : ∃ a b e p, Ev (fun k => diffs_Apart.f k n L u v) (a, b, e) ∧ ApartIs n L u v a b e ∧ Ev (fun k => diffs_Path.f k n L u v) (p, b, e) ∧ (b = false → p = []) ∧ (b = true → Nodes n u v ∧ Idx L p ∧ (p.length : Int) ≤ n - 1 ∧ Wk L u p v a ∧ Simple L p ∧ ∀ i : Int, 0 ≤ i → i < p.length → (rd_T39 L (rd p i)).f1 ≠ u) := by
  have hn0 : 0 < n := by have := hV.n1; omega
  have hn : n ≤ 256 := by have := hV.n2; omega
  have hm := hmul hV
  obtain ⟨a, b, e, g1, g2⟩ := apart_ev hV hm u v
  have hask : ∀ p q : Bool, Ev (fun k => diffs_asked.f k n L [p, q]) (if (p && q) = true then 0 else 1) := fun p q => by
    have := asked_ev n L [p, q] (by simp)
    rw [if_pos (validB_iff.2 hV)] at this
    cases p <;> cases q <;> exact this
  have hT : ∀ e', Ev (fun k => diffs_Path.j0 k v e' true n L [] [] []) ([], false, e') := fun e' => Ev.step (f := fun _ => some ([], false, e')) (fun k => by rw [diffs_Path.j0]; rfl) (Ev.now _)
  have hpath : ∃ p, Ev (fun k => diffs_Path.f k n L u v) (p, b, e) ∧ (b = false → p = []) ∧ (b = true → Nodes n u v ∧ Idx L p ∧ (p.length : Int) ≤ n - 1 ∧ Wk L u p v a ∧ Simple L p ∧ ∀ i : Int, 0 ≤ i → i < p.length → (rd_T39 L (rd p i)).f1 ≠ u) := by
    unfold diffs_Path.f
    simp only [in_some, Option.bind_some, wrap_id (show (-9223372036854775808 : Int) ≤ (n : Int) - 1 by omega) (show (n : Int) - 1 < 9223372036854775808 by omega)]
    by_cases hnode : 0 ≤ u ∧ u < (n : Int) ∧ 0 ≤ v ∧ v < (n : Int)
    · have e1 : (decide (0 ≤ u) && decide (u ≤ (n : Int) - 1)) = true := by simp; omega
      have e2 : (decide (0 ≤ v) && decide (v ≤ (n : Int) - 1)) = true := by simp; omega
      rw [e1, e2]
      have hA := hask true true
      rw [if_pos (by simp)] at hA
      by_cases hs : Solv L
      · obtain ⟨rfl, hsh⟩ := g2.ok hnode hs
        obtain ⟨s, k1, k2, hf, k3⟩ := reach_yes hn0 (by omega) hV.e hm hs hnode.1 hnode.2.1
        have hsh2 := tree_short hV.e hnode.1 hnode.2.1 k2 hf hnode.2.2.1 hnode.2.2.2
        obtain ⟨hab, hbb⟩ := hsh.unique hsh2
        obtain ⟨B, T, hb, hb2, hB⟩ := k2.bf
        have l1 := hB.l1
        have l2 := hB.l2
        have l3 := hB.l3
        have hin : ∀ {r}, Ev (fun k => diffs_Path.j0 k v 0 (!(rdOf false s.ha v)) n L s.lo s.ha s.la) r → Ev (fun k => (diffs_asked.f k n L [true, true]).bind fun t871 => (if t871 = 0 then ((diffs_reach.f k n L u).bind fun bt872 => (if bt872.2.2.2 = 0 then (if 0 ≤ v then (if v < (bt872.2.1.length : Int) then (diffs_Path.j0 k v bt872.2.2.2 (!(rdOf false bt872.2.1 v)) n L bt872.1 bt872.2.1 bt872.2.2.1) else (none)) else (none)) else (diffs_Path.j0 k v bt872.2.2.2 true n L bt872.1 bt872.2.1 bt872.2.2.1))) else (some (([] : List Int), false, t871)))) r := fun h =>
          hA.bind (Ev.pos rfl (k3.bind (Ev.pos rfl (Ev.pos hnode.2.2.1 (Ev.pos (by simp only; omega) h)))))
        cases b with
        | false =>
          rw [← hbb] at hin
          refine ⟨[], hin (Ev.step (f := fun _ => some ([], false, 0)) (fun k => by rw [diffs_Path.j0]; rfl) (Ev.now _)), fun _ => rfl, fun h => by cases h⟩
        | true =>
          rw [← hbb] at hin
          obtain ⟨c, hc⟩ := k2.tree hV.e hf hnode.2.2.1 hnode.2.2.2 hbb.symm
          have hsrc : it L s.la c v = u := by have := hc.src; simpa using this
          have hidx : ∀ i, i < c → 0 ≤ rd s.la (it L s.la i v) ∧ rd s.la (it L s.la i v) < (L.length : Int) := fun i hi => by
            have hg := (goes_add L s.la i 1 v).1 (goes_le hc.goes (by omega))
            have hp := hg.2.1
            have hy := hc.node i (by omega)
            have := hB.p _ hy.1 hy.2 (hB.la_pos hy.1 hy.2 hp)
            exact ⟨this.1, this.2.1⟩
          have hlen : (chain L s.la c v).reverse.length = c := by rw [List.length_reverse, chain_len L s.la]
          have hfew := hc.few
          have hrd : ∀ i : Int, 0 ≤ i → i < c → rd (chain L s.la c v).reverse i = rd s.la (it L s.la (c - 1 - i.toNat) v) := fun i i0 i1 => by
            rw [rd_reverse _ i0 (by rw [chain_len L s.la]; omega), chain_len L s.la, show (c : Int) - 1 - i = ((c - 1 - i.toNat : Nat) : Int) from by omega, rd_chain L s.la c v _ (by omega)]
          have hto : ∀ i : Int, 0 ≤ i → i < c → (rd_T39 L (rd (chain L s.la c v).reverse i)).f1 = it L s.la (c - 1 - i.toNat) v := fun i i0 i1 => by
            rw [hrd i i0 i1]
            have hg := (goes_add L s.la (c - 1 - i.toNat) 1 v).1 (goes_le hc.goes (by omega))
            have hy := hc.node (c - 1 - i.toNat) (by omega)
            exact (hB.p _ hy.1 hy.2 (hB.la_pos hy.1 hy.2 hg.2.1)).2.2.2.1
          refine ⟨(chain L s.la c v).reverse, hin (Ev.step (f := fun k => diffs_Path.l0 k [] v n L s.lo s.ha s.la) (fun k => by rw [diffs_Path.j0]; rfl) ?_), fun h => (by cases h), fun _ => ⟨⟨⟨hnode.1, hnode.2.1⟩, hnode.2.2⟩, fun i i0 i1 => ?_, by omega, ?_, fun i j i0 ij j1 => ?_, fun i i0 i1 => ?_⟩⟩
          · exact path_l0 (by omega) hn hfew hc.node hidx hc.root n s.lo s.ha c 0 (by omega)
          · rw [hlen] at i1
            rw [hrd i i0 i1]
            exact hidx _ (by omega)
          · have := hc.walk
            rw [hsrc, ← hab] at this
            exact this
          · rw [hlen] at j1
            rw [hto i i0 (by omega), hto j (by omega) j1]
            exact fun h => hc.apart (c - 1 - j.toNat) (c - 1 - i.toNat) (by omega) (by omega) h.symm
          · rw [hlen] at i1
            rw [hto i i0 i1, ← hsrc]
            exact hc.apart (c - 1 - i.toNat) c (by omega) (Nat.le_refl _)
      · obtain ⟨rfl, rfl, rfl⟩ := g2.clash hnode hs
        exact ⟨[], hA.bind (Ev.pos rfl ((reach_no hn0 (by omega) hV.e hm hs u).bind (Ev.neg (by decide) (hT 41)))), fun _ => rfl, fun h => by cases h⟩
    · obtain ⟨rfl, rfl, rfl⟩ := g2.arg hnode
      have e : ((decide (0 ≤ u) && decide (u ≤ (n : Int) - 1)) && (decide (0 ≤ v) && decide (v ≤ (n : Int) - 1))) = false := by
        rw [Bool.eq_false_iff]
        simp only [ne_eq, Bool.and_eq_true, decide_eq_true_eq]
        omega
      have hA := hask (decide (0 ≤ u) && decide (u ≤ (n : Int) - 1)) (decide (0 ≤ v) && decide (v ≤ (n : Int) - 1))
      rw [e, if_neg (by simp)] at hA
      exact ⟨[], hA.bind (Ev.neg (by decide) (Ev.now _)), fun _ => rfl, fun h => by cases h⟩
  obtain ⟨p, p1, p2, p3⟩ := hpath
  exact ⟨a, b, e, p, g1, g2, p1, p2, p3⟩
end
end Go.Proofs.Ytpolojoeabmhdaa.A
namespace Go.Proofs.Ytpolojoeabmhdaa.A
open Go.RowKit Go.Proofs.YtpolojoeabmhdaaW.PrintWords Go.Proofs.YtpolojoeabmhdaaW.PrintLast Go.Proofs.YtpolojoeabmhdaaW.PrintMore
attribute [local go_sem] max2_int min2_int max_two min_two max_three min_three max_four min_four
mutual
def snowlineref04_CheckPath.j0 : Nat → Int → Int → Int → List Int → Bool → Int → List (S39) → Option (Int)
 | 0, _, _, _, _, _, _, _ => none
 | k + 1, x1, x2, x3, x4, x33, x842000, x842001 => if x33 = true then (some 1) else (if (x4.length : Int) > (wrap64 (x842000 - 1)) then (some 43) else ((snowlineref04_walk.f k x842000 x842001 x1 x2 x4).bind fun bt846 => (if bt846.2 = true then (snowlineref04_CheckPath.j1 k (decide (bt846.1 > x3))) else (snowlineref04_CheckPath.j1 k true))))
def snowlineref04_CheckPath.j1 : Nat → Bool → Option (Int)
 | 0, _ => none
 | k + 1, x54 => if x54 = true then (some 43) else (some 0)
end
def snowlineref04_CheckPath.f (k : Nat) (a0_0 : Int) (l0_1 : List (S39)) (a1 : Int) (a2 : Int) (a3 : Int) (l4 : List Int) : Option (Int) := (snowlineref04_Check.f k a0_0 l0_1).bind fun t842 => (if t842 = 0 then ((snowlineref04_node.f a1 a0_0).bind fun t843 => (if t843 = true then ((snowlineref04_node.f a2 a0_0).bind fun t844 => (if t844 = true then ((snowlineref04_indices.f k a0_0 l0_1 l4).bind fun t845 => (snowlineref04_CheckPath.j0 k a1 a2 a3 l4 (!t845) a0_0 l0_1)) else (snowlineref04_CheckPath.j0 k a1 a2 a3 l4 true a0_0 l0_1))) else (snowlineref04_CheckPath.j0 k a1 a2 a3 l4 true a0_0 l0_1))) else (some 40))
theorem snowlineref04_CheckPath.mono_l : ∀ k, (∀ y0 y1 y2 y3 y4 y5 y6, LeO (snowlineref04_CheckPath.j0 k y0 y1 y2 y3 y4 y5 y6) (snowlineref04_CheckPath.j0 (k + 1) y0 y1 y2 y3 y4 y5 y6)) ∧ (∀ y0, LeO (snowlineref04_CheckPath.j1 k y0) (snowlineref04_CheckPath.j1 (k + 1) y0))
 | 0 => ⟨fun _ _ _ _ _ _ _ r h => by simp [snowlineref04_CheckPath.j0] at h, fun _ r h => by simp [snowlineref04_CheckPath.j1] at h⟩
 | k + 1 => by
  obtain ⟨ih0, ih1⟩ := snowlineref04_CheckPath.mono_l k; refine ⟨?_, ?_⟩ <;> intros <;> (first | unfold snowlineref04_CheckPath.j0 | unfold snowlineref04_CheckPath.j1) <;> repeat' first | (with_reducible first | exact ih0 _ _ _ _ _ _ _ | exact ih1 _ | exact snowlineref04_Check.mono _ _ _ | exact snowlineref04_indices.mono _ _ _ _ | exact snowlineref04_walk.mono _ _ _ _ _ _ | exact LeO.refl _ | exact LeO.none _ | refine LeO.ite ?_ ?_ | refine LeO.bind ?_ (fun _ => ?_)) | exact ih0 _ _ _ _ _ _ _ | exact ih1 _ | exact snowlineref04_Check.mono _ _ _ | exact snowlineref04_indices.mono _ _ _ _ | exact snowlineref04_walk.mono _ _ _ _ _ _ | exact LeO.none _ | refine LeO.ite ?_ ?_ | refine LeO.bind ?_ (fun _ => ?_)
theorem snowlineref04_CheckPath.mono : ∀ a0 a1 a2 a3 a4 a5 k, LeO (snowlineref04_CheckPath.f k a0 a1 a2 a3 a4 a5) (snowlineref04_CheckPath.f (k + 1) a0 a1 a2 a3 a4 a5) := by
 intro a0 a1 a2 a3 a4 a5 k; obtain ⟨ih0, ih1⟩ := snowlineref04_CheckPath.mono_l k; unfold snowlineref04_CheckPath.f; repeat' first | (with_reducible first | exact ih0 _ _ _ _ _ _ _ | exact ih1 _ | exact snowlineref04_Check.mono _ _ _ | exact snowlineref04_indices.mono _ _ _ _ | exact snowlineref04_walk.mono _ _ _ _ _ _ | exact LeO.refl _ | exact LeO.none _ | refine LeO.ite ?_ ?_ | refine LeO.bind ?_ (fun _ => ?_)) | exact ih0 _ _ _ _ _ _ _ | exact ih1 _ | exact snowlineref04_Check.mono _ _ _ | exact snowlineref04_indices.mono _ _ _ _ | exact snowlineref04_walk.mono _ _ _ _ _ _ | exact LeO.none _ | refine LeO.ite ?_ ?_ | refine LeO.bind ?_ (fun _ => ?_)
set_option maxHeartbeats 8000000 in
set_option maxRecDepth 100000 in
theorem snowlineref04_CheckPath.calls (k : Nat) (a0_0 : Int) (A0_1 : Option Addr) (c0_1 : Nat) (l0_1 : List (S39)) (a1 : Int) (a2 : Int) (a3 : Int) (A4 : Option Addr) (c4 : Nat) (l4 : List Int) (r : Int) (w : World) (hr0_1 : Kd.C k39 w A0_1 l0_1.length l0_1) (hc0_1 : l0_1.length ≤ c0_1) (hr4 : Kd.C (Kd.int .i64) w A4 l4.length l4) (hc4 : l4.length ≤ c4) (h : snowlineref04_CheckPath.f k a0_0 l0_1 a1 a2 a3 l4 = some r) :
  Calls Try.prog 44 #[.agg #[.int .i64 a0_0, .slice A0_1 l0_1.length c0_1], .int .i64 a1, .int .i64 a2, .int .i64 a3, .slice A4 l4.length c4] w fun e w' => e = .returned (.int .i64 r) ∧ Below w.heap.size w w' := by
 have hu24 := Try.underlying24; have HR0_1 := Z_ hr0_1; have HC0_1 := Z_ hc0_1; clear hr0_1 hc0_1; have HR4 := Z_ hr4; have HC4 := Z_ hc4; clear hr4 hc4; have HB := Z_ (Below.refl w.heap.size w); have H : ((snowlineref04_Check.f k a0_0 l0_1).bind fun t842 => (if t842 = 0 then ((snowlineref04_node.f a1 a0_0).bind fun t843 => (if t843 = true then ((snowlineref04_node.f a2 a0_0).bind fun t844 => (if t844 = true then ((snowlineref04_indices.f k a0_0 l0_1 l4).bind fun t845 => (snowlineref04_CheckPath.j0 k a1 a2 a3 l4 (!t845) a0_0 l0_1)) else (snowlineref04_CheckPath.j0 k a1 a2 a3 l4 true a0_0 l0_1))) else (snowlineref04_CheckPath.j0 k a1 a2 a3 l4 true a0_0 l0_1))) else (some 40))) = some r := h; clear h; replace H := oS_.mp H; obtain ⟨t842, A60, H⟩ := H; have A6 := Z_ A60; clear A60; have HF7 := Z_ H; clear H; go_enter Try.func44, Try.ntmps44; go_upto_if 15 with (first | ((with_reducible refine gate_dst (N := 5) rfl ?_); refine bX_ 5 #[.int .i64 a0_0, .slice A0_1 l0_1.length c0_1] 24 ?_; intro gb841 hg w8 hbox hb; have BK841 := Z_ (hbox); have GW841 := Z_ ((by rw [hg]; exact (fZ_ hB_) : w.heap.size ≤ gb841)); have GE841 := Z_ ((by rw [hg]; exact (fZ_ hB_) : w.heap.size ≤ gb841)); replace HB := Z_ (fS_ hB_ hb); clear hb hbox hg; obtain ⟨⟨hcz9_0, hcz9_1⟩, hfz9_0, hfz9_1⟩ := f2_ BK841.out) | ((with_reducible refine gate_callee (f := 22) rfl ?_); refine gL_ (some 14) Try.func22 #[.agg #[.int .i64 a0_0, .slice A0_1 l0_1.length c0_1]] ?_; (with_reducible refine (snowlineref04_Check.calls k a0_0 _ _ l0_1 t842 _ ?side1 ?side2 A6.out).mono ?_); (case side1 => exact cS_ (cB_ HR0_1.out HB.out)); (case side2 => exact HC0_1.out); rintro e w10 ⟨rfl, hb⟩; refine ⟨_, rfl, ?_⟩; replace BK841 := Z_ (bB_ (g := gb841) (o := .cells #[.int .i64 a0_0, .slice A0_1 l0_1.length c0_1] 24 (0, 0)) (bR_ BK841.out) hb); replace HB := Z_ (fS_ hB_ hb); (try clear hb); (try clear hb2); (try clear hk); (try clear hi))); (try simp only [Act.put, sT_, sZ_, sS_])
 have H := HF7.out; clear HF7; by_cases c11 : t842 = 0
 ·rw [if_pos c11] at H
  obtain ⟨c11b0, c11b1⟩ := be_ c11; clear c11; (first | rw [c11b0] | (simp only [i64_w, i32_w]; rw [c11b0]) | skip)
  have HC12 := Z_ H; clear H; go_upto_region 3 with (fail); go_cut [33] (fun v33 wc => ∃ (kq : Nat) (x33_11 : Bool), v33 = .bool x33_11 ∧ Aside0 (snowlineref04_CheckPath.j0 kq a1 a2 a3 l4 x33_11 a0_0 l0_1 = some r) ∧ Aside0 (kq ≤ k) ∧ Aside0 (wc.heap[gb841]? = some (.cells #[.int .i64 a0_0, (.slice A0_1 l0_1.length c0_1)] 24 (0, 0))) ∧ Aside0 (Below w.heap.size w wc))
  case first =>
   have H := HC12.out; clear HC12; replace H := oS_.mp H; obtain ⟨t843, A130, H⟩ := H; have A13 := Z_ A130; clear A130; by_cases c14 : t843 = true
   ·subst c14
    rw [if_pos rfl] at H; replace H := oS_.mp H; obtain ⟨t844, A150, H⟩ := H; have A15 := Z_ A150; clear A150; by_cases c16 : t844 = true
    ·subst c16
     rw [if_pos rfl] at H; replace H := oS_.mp H; obtain ⟨t845, A170, H⟩ := H; have A17 := Z_ A170; clear A170; have H' := Z_ H; clear H; obtain ⟨⟨hcz18_0, hcz18_1⟩, hfz18_0, hfz18_1⟩ := f2_ BK841.out; go_wp2_with (first | ((with_reducible refine gate_callee (f := 96) rfl ?_); refine gL_ (some 19) Try.func96 #[.int .i64 a1, .int .i64 a0_0] ?_; (with_reducible refine (snowlineref04_node.calls a1 a0_0 true _ A13.out).mono ?_); rintro e w' ⟨rfl, ⟨nd, rfl⟩⟩; refine ⟨_, rfl, ?_⟩) | (go_at_call 96; (with_reducible refine (snowlineref04_node.calls a2 a0_0 true _ A15.out).mono ?_); rintro e w' ⟨rfl, ⟨nd, rfl⟩⟩) | (go_at_call 92; (with_reducible refine (snowlineref04_indices.calls k a0_0 _ _ l0_1 _ _ l4 t845 _ ?side1 ?side2 ?side3 ?side4 A17.out).mono ?_); (case side1 => repeat (first | exact (cB_ HR0_1.out hB_) | (with_reducible refine Kd.C_alloc ?_ _) | (with_reducible refine Kd.C_drewN ?_ _) | (with_reducible refine Kd.C_drew ?_))); (case side2 => exact HC0_1.out); (case side3 => repeat (first | exact (cB_ HR4.out hB_) | (with_reducible refine Kd.C_alloc ?_ _) | (with_reducible refine Kd.C_drewN ?_ _) | (with_reducible refine Kd.C_drew ?_))); (case side4 => exact HC4.out); rintro e w19 ⟨rfl, hb⟩; replace BK841 := Z_ (bB_ (g := gb841) (o := .cells #[.int .i64 a0_0, .slice A0_1 l0_1.length c0_1] 24 (0, 0)) (bR_ BK841.out) hb); replace HB := Z_ (fS_ hB_ hb); (try clear hb); (try clear hb2); (try clear hk); (try clear hi))); go_meet
     case rel => exact ⟨_, (!t845), rf_, H', ⟨oL_⟩, ⟨bR_ BK841.out⟩, ⟨hB_⟩⟩
    replace c16 := bE_.mpr c16; subst c16; have H1 : (snowlineref04_CheckPath.j0 k a1 a2 a3 l4 true a0_0 l0_1) = some r := by rw [if_neg (show ¬ (false = true) by decide)] at H; exact H
    clear H; have H := H1; clear H1; have H' := Z_ H; clear H; obtain ⟨⟨hcz20_0, hcz20_1⟩, hfz20_0, hfz20_1⟩ := f2_ BK841.out; go_wp2_with (first | ((with_reducible refine gate_callee (f := 96) rfl ?_); refine gL_ (some 19) Try.func96 #[.int .i64 a1, .int .i64 a0_0] ?_; (with_reducible refine (snowlineref04_node.calls a1 a0_0 true _ A13.out).mono ?_); rintro e w' ⟨rfl, ⟨nd, rfl⟩⟩; refine ⟨_, rfl, ?_⟩) | (go_at_call 96; (with_reducible refine (snowlineref04_node.calls a2 a0_0 false _ A15.out).mono ?_); rintro e w' ⟨rfl, ⟨nd, rfl⟩⟩)); go_meet
    case rel => exact ⟨_, (true), rf_, H', ⟨oL_⟩, ⟨bR_ BK841.out⟩, ⟨hB_⟩⟩
   replace c14 := bE_.mpr c14; subst c14; have H1 : (snowlineref04_CheckPath.j0 k a1 a2 a3 l4 true a0_0 l0_1) = some r := by rw [if_neg (show ¬ (false = true) by decide)] at H; exact H
   clear H; have H := H1; clear H1; have H' := Z_ H; clear H; obtain ⟨⟨hcz21_0, hcz21_1⟩, hfz21_0, hfz21_1⟩ := f2_ BK841.out; go_wp2_with (first | ((with_reducible refine gate_callee (f := 96) rfl ?_); refine gL_ (some 19) Try.func96 #[.int .i64 a1, .int .i64 a0_0] ?_; (with_reducible refine (snowlineref04_node.calls a1 a0_0 false _ A13.out).mono ?_); rintro e w' ⟨rfl, ⟨nd, rfl⟩⟩; refine ⟨_, rfl, ?_⟩)); go_meet
   case rel => exact ⟨_, (true), rf_, H', ⟨oL_⟩, ⟨bR_ BK841.out⟩, ⟨hB_⟩⟩
  case rest =>
   clear HC12; (try clear c1); (try clear c2); (try clear p2); (try clear c4); (try clear c9); (try clear c11); (try clear c11b0); (try clear c11b1); (try clear c14); (try clear c16); (try clear hcz18_0); (try clear hcz18_1); (try clear hcz20_0); (try clear hcz20_1); (try clear hcz21_0); (try clear hcz21_1); (try clear hcz9_0); (try clear hcz9_1); (try clear hfz18_0); (try clear hfz18_1); (try clear hfz20_0); (try clear hfz20_1); (try clear hfz21_0); (try clear hfz21_1); (try clear hfz9_0); (try clear hfz9_1)
   obtain ⟨kq, x33_11, rfl, HA, HJ11, BK841, HB⟩ := hcut
   cases kq with
   | zero => exact absurd HA.out (by simp [snowlineref04_CheckPath.j0])
   | succ kj11 =>
    have H := HA.out; clear HA; simp only [snowlineref04_CheckPath.j0] at H; by_cases c22 : x33_11 = true
    ·subst c22
     rw [if_pos rfl] at H; obtain rfl := oI_ H; go_wp2; go_ret; exact ⟨eW_, hB_⟩
    replace c22 := bE_.mpr c22; subst c22; have H1 : (if (l4.length : Int) > (wrap64 (a0_0 - 1)) then (some 43) else ((snowlineref04_walk.f kj11 a0_0 l0_1 a1 a2 l4).bind fun bt846 => (if bt846.2 = true then (snowlineref04_CheckPath.j1 kj11 (decide (bt846.1 > a3))) else (snowlineref04_CheckPath.j1 kj11 true)))) = some r := by rw [if_neg (show ¬ (false = true) by decide)] at H; exact H
    clear H; have H := H1; clear H1; by_cases c23 : (l4.length : Int) > (wrap64 (a0_0 - 1))
    ·rw [if_pos c23] at H
     have c23b0 : decide ((wrap64 (a0_0 - 1)) < (l4.length : Int)) = true := eT_ c23; clear c23; obtain rfl := oI_ H; obtain ⟨⟨hcz24_0, hcz24_1⟩, hfz24_0, hfz24_1⟩ := f2_ BK841.out; go_wp2; go_ret; exact ⟨eW_, hB_⟩
    rw [if_neg c23] at H; have c23b0 : decide ((wrap64 (a0_0 - 1)) < (l4.length : Int)) = false := eF_ c23; clear c23; replace H := oS_.mp H; obtain ⟨⟨t846, t847⟩, A250, H⟩ := H; have A25 := Z_ A250; clear A250; have HC26 := Z_ H; clear H; obtain ⟨⟨hcz27_0, hcz27_1⟩, hfz27_0, hfz27_1⟩ := f2_ BK841.out; go_upto_region 8 with (first | ((with_reducible refine gate_callee (f := 93) rfl ?_); refine gL_ (some 45) Try.func93 #[.agg #[.int .i64 a0_0, .slice A0_1 l0_1.length c0_1], .int .i64 a1, .int .i64 a2, .slice A4 l4.length c4] ?_; (with_reducible refine (snowlineref04_walk.calls kj11 a0_0 _ _ l0_1 a1 a2 _ _ l4 t846 t847 _ ?side1 ?side2 ?side3 ?side4 A25.out).mono ?_); (case side1 => exact cS_ (cB_ HR0_1.out HB.out)); (case side2 => exact HC0_1.out); (case side3 => exact cS_ (cB_ HR4.out HB.out)); (case side4 => exact HC4.out); rintro e w28 ⟨rfl, hb⟩; refine ⟨_, rfl, ?_⟩; replace BK841 := Z_ (bB_ (g := gb841) (o := .cells #[.int .i64 a0_0, .slice A0_1 l0_1.length c0_1] 24 (0, 0)) (bR_ BK841.out) hb); replace HB := Z_ (fS_ hB_ hb); (try clear hb); (try clear hb2); (try clear hk); (try clear hi))); (try simp only [Act.put, sT_, sZ_, sS_])
    go_cut [54] (fun v54 wc => ∃ (kq : Nat) (x54_25 : Bool), v54 = .bool x54_25 ∧ Aside0 (snowlineref04_CheckPath.j1 kq x54_25 = some r) ∧ Aside0 (kq ≤ kj11) ∧ Aside0 (wc.heap[gb841]? = some (.cells #[.int .i64 a0_0, (.slice A0_1 l0_1.length c0_1)] 24 (0, 0))) ∧ Aside0 (Below w.heap.size w wc))
    case first =>
     have H := HC26.out; clear HC26; by_cases c29 : t847 = true
     ·subst c29
      rw [if_pos rfl] at H; have H' := Z_ H; clear H; go_wp2; go_meet
      case rel => exact ⟨_, (decide (t846 > a3)), rf_, H', ⟨by have := HJ11.out; first | omega | exact nR_ _⟩, ⟨bR_ BK841.out⟩, ⟨hB_⟩⟩
     replace c29 := bE_.mpr c29; subst c29; have H1 : (snowlineref04_CheckPath.j1 kj11 true) = some r := by rw [if_neg (show ¬ (false = true) by decide)] at H; exact H
     clear H; have H := H1; clear H1; have H' := Z_ H; clear H; go_wp2; go_meet
     case rel => exact ⟨_, (true), rf_, H', ⟨by have := HJ11.out; first | omega | exact nR_ _⟩, ⟨bR_ BK841.out⟩, ⟨hB_⟩⟩
    case rest =>
     clear HC26; (try clear c1); (try clear c2); (try clear p2); (try clear c4); (try clear p6); (try clear c9); (try clear c11); (try clear c11b0); (try clear c11b1); (try clear c14); (try clear c16); (try clear c22); (try clear c23); (try clear c23b0); (try clear c29); (try clear hcz18_0); (try clear hcz18_1); (try clear hcz20_0); (try clear hcz20_1); (try clear hcz21_0); (try clear hcz21_1); (try clear hcz24_0); (try clear hcz24_1); (try clear hcz27_0); (try clear hcz27_1); (try clear hcz9_0); (try clear hcz9_1); (try clear hfz18_0); (try clear hfz18_1); (try clear hfz20_0); (try clear hfz20_1); (try clear hfz21_0); (try clear hfz21_1); (try clear hfz24_0); (try clear hfz24_1); (try clear hfz27_0); (try clear hfz27_1); (try clear hfz9_0); (try clear hfz9_1); (try clear p2)
     obtain ⟨kq, x54_25, rfl, HA, HJ25, BK841, HB⟩ := hcut
     cases kq with
     | zero => exact absurd HA.out (by simp [snowlineref04_CheckPath.j1])
     | succ kj25 =>
      have H := HA.out; clear HA; simp only [snowlineref04_CheckPath.j1] at H; by_cases c30 : x54_25 = true
      ·subst c30
       rw [if_pos rfl] at H; obtain rfl := oI_ H; go_wp2; go_ret; exact ⟨eW_, hB_⟩
      replace c30 := bE_.mpr c30; subst c30; have H1 : (some 0) = some r := by rw [if_neg (show ¬ (false = true) by decide)] at H; exact H
      clear H; have H := H1; clear H1; obtain rfl := oI_ H; go_wp2; go_ret; exact ⟨eW_, hB_⟩
 rw [if_neg c11] at H; obtain ⟨c11b0, c11b1⟩ := bn_ c11; (first | rw [c11b0] | (simp only [i64_w, i32_w]; rw [c11b0]) | skip)
 obtain rfl := oI_ H; go_wp2; go_ret; exact ⟨eW_, hB_⟩
def snowlineref04_Apart.j0 : Nat → Int → Int → Bool → Int → List (S39) → Option (Int × Bool × Int)
 | 0, _, _, _, _, _ => none
 | k + 1, x1, x2, x26, x849000, x849001 => if x26 = true then (some (0, false, 1)) else ((snowlineref04_Solvable.f k x849000 x849001).bind fun t852 => (if t852 = true then ((snowlineref04_marks.f k x849000 x849001 false x1).bind fun t853 => ((snowlineref04_Lengths.f k x849000 x849001 t853).bind fun bt856 => (if 0 ≤ x2 then (if x2 < (bt856.2.1.length : Int) then (if rdOf false bt856.2.1 x2 = true then (if x2 < (bt856.1.length : Int) then (some (rd bt856.1 x2, true, 0)) else (none)) else (some (0, false, 0))) else (none)) else (none)))) else (some (0, false, 41))))
def snowlineref04_Apart.f (k : Nat) (a0_0 : Int) (l0_1 : List (S39)) (a1 : Int) (a2 : Int) : Option (Int × Bool × Int) := (snowlineref04_Check.f k a0_0 l0_1).bind fun t849 => (if t849 = 0 then ((snowlineref04_node.f a1 a0_0).bind fun t850 => (if t850 = true then ((snowlineref04_node.f a2 a0_0).bind fun t851 => (snowlineref04_Apart.j0 k a1 a2 (!t851) a0_0 l0_1)) else (snowlineref04_Apart.j0 k a1 a2 true a0_0 l0_1))) else (some (0, false, 40)))
theorem snowlineref04_Apart.mono_l : ∀ k, (∀ y0 y1 y2 y3 y4, LeO (snowlineref04_Apart.j0 k y0 y1 y2 y3 y4) (snowlineref04_Apart.j0 (k + 1) y0 y1 y2 y3 y4))
 | 0 => fun _ _ _ _ _ r h => by simp [snowlineref04_Apart.j0] at h
 | k + 1 => by
  have ih0 := snowlineref04_Apart.mono_l k; intro y0 y1 y2 y3 y4; unfold snowlineref04_Apart.j0; repeat' first | (with_reducible first | exact ih0 _ _ _ _ _ | exact snowlineref04_Check.mono _ _ _ | exact snowlineref04_Lengths.mono _ _ _ _ | exact snowlineref04_Solvable.mono _ _ _ | exact snowlineref04_marks.mono _ _ _ _ _ | exact LeO.refl _ | exact LeO.none _ | refine LeO.ite ?_ ?_ | refine LeO.bind ?_ (fun _ => ?_)) | exact ih0 _ _ _ _ _ | exact snowlineref04_Check.mono _ _ _ | exact snowlineref04_Lengths.mono _ _ _ _ | exact snowlineref04_Solvable.mono _ _ _ | exact snowlineref04_marks.mono _ _ _ _ _ | exact LeO.none _ | refine LeO.ite ?_ ?_ | refine LeO.bind ?_ (fun _ => ?_)
theorem snowlineref04_Apart.mono : ∀ a0 a1 a2 a3 k, LeO (snowlineref04_Apart.f k a0 a1 a2 a3) (snowlineref04_Apart.f (k + 1) a0 a1 a2 a3) := by
 intro a0 a1 a2 a3 k; have ih0 := snowlineref04_Apart.mono_l k; unfold snowlineref04_Apart.f; repeat' first | (with_reducible first | exact ih0 _ _ _ _ _ | exact snowlineref04_Check.mono _ _ _ | exact snowlineref04_Lengths.mono _ _ _ _ | exact snowlineref04_Solvable.mono _ _ _ | exact snowlineref04_marks.mono _ _ _ _ _ | exact LeO.refl _ | exact LeO.none _ | refine LeO.ite ?_ ?_ | refine LeO.bind ?_ (fun _ => ?_)) | exact ih0 _ _ _ _ _ | exact snowlineref04_Check.mono _ _ _ | exact snowlineref04_Lengths.mono _ _ _ _ | exact snowlineref04_Solvable.mono _ _ _ | exact snowlineref04_marks.mono _ _ _ _ _ | exact LeO.none _ | refine LeO.ite ?_ ?_ | refine LeO.bind ?_ (fun _ => ?_)
def snowlineref04_Apart.T7 : Bool × List (List Nat × List Nat) := (true, [([], []), ([], []), ([], []), ([1, 2], [1, 2]), ([0, 3, 3], [0, 3]), ([4], [4]), ([5], [5]), ([5], [5]), ([5], [5]), ([6, 4, 0, 1, 2, 3, 4, 5, 6], [6]), ([7, 9, 0, 1, 2, 3, 4, 5, 6, 7, 9], [7]), ([8, 10, 0, 1, 2, 3, 4, 5, 6, 7, 8, 9, 10], [8])])
def snowlineref04_Apart.B7 : List Nat := [0, 0, 0, 6, 15, 31, 63, 63, 63, 127, 767, 2047]
theorem snowlineref04_Apart.tab7 : rtab .any (opsOf Try.f45 7) = snowlineref04_Apart.T7 := by kernel_rfl
theorem snowlineref04_Apart.bits7 : waitsOk snowlineref04_Apart.T7.2 snowlineref04_Apart.B7 = true := by kernel_rfl
set_option maxHeartbeats 8000000 in
set_option maxRecDepth 100000 in
theorem snowlineref04_Apart.calls (k : Nat) (a0_0 : Int) (A0_1 : Option Addr) (c0_1 : Nat) (l0_1 : List (S39)) (a1 : Int) (a2 : Int) (r1 : Int) (r2 : Bool) (r3 : Int) (w : World) (hr0_1 : Kd.C k39 w A0_1 l0_1.length l0_1) (hc0_1 : l0_1.length ≤ c0_1) (h : snowlineref04_Apart.f k a0_0 l0_1 a1 a2 = some (r1, r2, r3)) :
  Calls Try.prog 45 #[.agg #[.int .i64 a0_0, .slice A0_1 l0_1.length c0_1], .int .i64 a1, .int .i64 a2] w fun e w' => e = .returned (.tuple #[.int .i64 r1, .bool r2, .int .i64 r3]) ∧ Below w.heap.size w w' := by
 have hu24 := Try.underlying24; have HR0_1 := Z_ hr0_1; have HC0_1 := Z_ hc0_1; clear hr0_1 hc0_1; have HB := Z_ (Below.refl w.heap.size w); have H : ((snowlineref04_Check.f k a0_0 l0_1).bind fun t849 => (if t849 = 0 then ((snowlineref04_node.f a1 a0_0).bind fun t850 => (if t850 = true then ((snowlineref04_node.f a2 a0_0).bind fun t851 => (snowlineref04_Apart.j0 k a1 a2 (!t851) a0_0 l0_1)) else (snowlineref04_Apart.j0 k a1 a2 true a0_0 l0_1))) else (some (0, false, 40)))) = some (r1, r2, r3) := h; clear h; replace H := oS_.mp H; obtain ⟨t849, A40, H⟩ := H; have A4 := Z_ A40; clear A40; have HF5 := Z_ H; clear H; go_enter Try.func45, Try.ntmps45; go_upto_if 14 with (first | ((with_reducible refine gate_dst (N := 3) rfl ?_); refine bX_ 3 #[.int .i64 a0_0, .slice A0_1 l0_1.length c0_1] 24 ?_; intro gb848 hg w6 hbox hb; have BK848 := Z_ (hbox); have GW848 := Z_ ((by rw [hg]; exact (fZ_ hB_) : w.heap.size ≤ gb848)); have GE848 := Z_ ((by rw [hg]; exact (fZ_ hB_) : w.heap.size ≤ gb848)); replace HB := Z_ (fS_ hB_ hb); clear hb hbox hg; obtain ⟨⟨hcz7_0, hcz7_1⟩, hfz7_0, hfz7_1⟩ := f2_ BK848.out) | ((with_reducible refine gate_callee (f := 22) rfl ?_); refine gL_ (some 13) Try.func22 #[.agg #[.int .i64 a0_0, .slice A0_1 l0_1.length c0_1]] ?_; (with_reducible refine (snowlineref04_Check.calls k a0_0 _ _ l0_1 t849 _ ?side1 ?side2 A4.out).mono ?_); (case side1 => exact cS_ (cB_ HR0_1.out HB.out)); (case side2 => exact HC0_1.out); rintro e w8 ⟨rfl, hb⟩; refine ⟨_, rfl, ?_⟩; replace BK848 := Z_ (bB_ (g := gb848) (o := .cells #[.int .i64 a0_0, .slice A0_1 l0_1.length c0_1] 24 (0, 0)) (bR_ BK848.out) hb); replace HB := Z_ (fS_ hB_ hb); (try clear hb); (try clear hb2); (try clear hk); (try clear hi))); (try simp only [Act.put, sT_, sZ_, sS_])
 have H := HF5.out; clear HF5; by_cases c9 : t849 = 0
 ·rw [if_pos c9] at H
  obtain ⟨c9b0, c9b1⟩ := be_ c9; clear c9; (first | rw [c9b0] | (simp only [i64_w, i32_w]; rw [c9b0]) | skip)
  have HC10 := Z_ H; clear H; go_upto_region 3 with (fail); go_cut [26] (fun v26 wc => ∃ (kq : Nat) (x26_9 : Bool), v26 = .bool x26_9 ∧ Aside0 (snowlineref04_Apart.j0 kq a1 a2 x26_9 a0_0 l0_1 = some (r1, r2, r3)) ∧ Aside0 (kq ≤ k) ∧ Aside0 (wc.heap[gb848]? = some (.cells #[.int .i64 a0_0, (.slice A0_1 l0_1.length c0_1)] 24 (0, 0))) ∧ Aside0 (Below w.heap.size w wc))
  case first =>
   have H := HC10.out; clear HC10; replace H := oS_.mp H; obtain ⟨t850, A110, H⟩ := H; have A11 := Z_ A110; clear A110; by_cases c12 : t850 = true
   ·subst c12
    rw [if_pos rfl] at H; replace H := oS_.mp H; obtain ⟨t851, A130, H⟩ := H; have A13 := Z_ A130; clear A130; have H' := Z_ H; clear H; obtain ⟨⟨hcz14_0, hcz14_1⟩, hfz14_0, hfz14_1⟩ := f2_ BK848.out; go_wp2_with (first | ((with_reducible refine gate_callee (f := 96) rfl ?_); refine gL_ (some 18) Try.func96 #[.int .i64 a1, .int .i64 a0_0] ?_; (with_reducible refine (snowlineref04_node.calls a1 a0_0 true _ A11.out).mono ?_); rintro e w' ⟨rfl, ⟨nd, rfl⟩⟩; refine ⟨_, rfl, ?_⟩) | (go_at_call 96; (with_reducible refine (snowlineref04_node.calls a2 a0_0 t851 _ A13.out).mono ?_); rintro e w' ⟨rfl, ⟨nd, rfl⟩⟩)); go_meet
    case rel => exact ⟨_, (!t851), rf_, H', ⟨oL_⟩, ⟨bR_ BK848.out⟩, ⟨hB_⟩⟩
   replace c12 := bE_.mpr c12; subst c12; have H1 : (snowlineref04_Apart.j0 k a1 a2 true a0_0 l0_1) = some (r1, r2, r3) := by rw [if_neg (show ¬ (false = true) by decide)] at H; exact H
   clear H; have H := H1; clear H1; have H' := Z_ H; clear H; obtain ⟨⟨hcz15_0, hcz15_1⟩, hfz15_0, hfz15_1⟩ := f2_ BK848.out; go_wp2_with (first | ((with_reducible refine gate_callee (f := 96) rfl ?_); refine gL_ (some 18) Try.func96 #[.int .i64 a1, .int .i64 a0_0] ?_; (with_reducible refine (snowlineref04_node.calls a1 a0_0 false _ A11.out).mono ?_); rintro e w' ⟨rfl, ⟨nd, rfl⟩⟩; refine ⟨_, rfl, ?_⟩)); go_meet
   case rel => exact ⟨_, (true), rf_, H', ⟨oL_⟩, ⟨bR_ BK848.out⟩, ⟨hB_⟩⟩
  case rest =>
   clear HC10; (try clear c1); (try clear c2); (try clear p2); (try clear c4); (try clear c9); (try clear c9b0); (try clear c9b1); (try clear c12); (try clear hcz14_0); (try clear hcz14_1); (try clear hcz15_0); (try clear hcz15_1); (try clear hcz7_0); (try clear hcz7_1); (try clear hfz14_0); (try clear hfz14_1); (try clear hfz15_0); (try clear hfz15_1); (try clear hfz7_0); (try clear hfz7_1)
   obtain ⟨kq, x26_9, rfl, HA, HJ9, BK848, HB⟩ := hcut
   cases kq with
   | zero => exact absurd HA.out (by simp [snowlineref04_Apart.j0])
   | succ kj9 =>
    have H := HA.out; clear HA; simp only [snowlineref04_Apart.j0] at H; by_cases c16 : x26_9 = true
    ·subst c16
     rw [if_pos rfl] at H; simp only [oJ_, pI_] at H; obtain ⟨rfl, rfl, rfl⟩ := H; go_wp2; go_ret3; exact ⟨eW_, hB_⟩
    replace c16 := bE_.mpr c16; subst c16; have H1 : ((snowlineref04_Solvable.f kj9 a0_0 l0_1).bind fun t852 => (if t852 = true then ((snowlineref04_marks.f kj9 a0_0 l0_1 false a1).bind fun t853 => ((snowlineref04_Lengths.f kj9 a0_0 l0_1 t853).bind fun bt856 => (if 0 ≤ a2 then (if a2 < (bt856.2.1.length : Int) then (if rdOf false bt856.2.1 a2 = true then (if a2 < (bt856.1.length : Int) then (some (rd bt856.1 a2, true, 0)) else (none)) else (some (0, false, 0))) else (none)) else (none)))) else (some (0, false, 41)))) = some (r1, r2, r3) := by rw [if_neg (show ¬ (false = true) by decide)] at H; exact H
    clear H; have H := H1; clear H1; replace H := oS_.mp H; obtain ⟨t852, A170, H⟩ := H; have A17 := Z_ A170; clear A170; have HF18 := Z_ H; clear H; obtain ⟨⟨hcz19_0, hcz19_1⟩, hfz19_0, hfz19_1⟩ := f2_ BK848.out; go_upto_if 29 with (first | ((with_reducible refine gate_callee (f := 41) rfl ?_); refine gL_ (some 28) Try.func41 #[.agg #[.int .i64 a0_0, .slice A0_1 l0_1.length c0_1]] ?_; (with_reducible refine (snowlineref04_Solvable.calls kj9 a0_0 _ _ l0_1 t852 _ ?side1 ?side2 A17.out).mono ?_); (case side1 => exact cS_ (cB_ HR0_1.out HB.out)); (case side2 => exact HC0_1.out); rintro e w20 ⟨rfl, hb⟩; refine ⟨_, rfl, ?_⟩; replace BK848 := Z_ (bB_ (g := gb848) (o := .cells #[.int .i64 a0_0, .slice A0_1 l0_1.length c0_1] 24 (0, 0)) (bR_ BK848.out) hb); replace HB := Z_ (fS_ hB_ hb); (try clear hb); (try clear hb2); (try clear hk); (try clear hi))); (try simp only [Act.put, sT_, sZ_, sS_])
    have H := HF18.out; clear HF18; by_cases c21 : t852 = true
    ·subst c21
     rw [if_pos rfl] at H; replace H := oS_.mp H; obtain ⟨t853, A220, H⟩ := H; have A22 := Z_ A220; clear A220; replace H := oS_.mp H; obtain ⟨⟨t856, t859, t862⟩, A230, H⟩ := H; have A23 := Z_ A230; clear A230; by_cases c24 : 0 ≤ a2
     ·rw [if_pos c24] at H
      have c24b0 : decide (0 ≤ a2) = true := eT_ c24; clear c24; (first | rw [c24b0] | (simp only [i64_w, i32_w]; rw [c24b0]) | skip)
      by_cases c25 : a2 < (t859.length : Int)
      ·rw [if_pos c25] at H
       have c25b0 : decide (a2 < (t859.length : Int)) = true := eT_ c25; clear c25; have HF26 := Z_ H; clear H; try go_wp2
       replace BK848 := Z_ (bD_ BK848.out); replace HB := Z_ (fD_ HB.out); refine start_ (n := 12) (S := fun w' => w'.cell? ⟨gb848, 0, none⟩ = some (.int .i64 a0_0) ∧ w'.cell? ⟨gb848, 1, none⟩ = some (.slice A0_1 l0_1.length c0_1)) (ds := []) #[false, false, false, false, false, false, false, false, false, false, false, false] (by kernel_rfl) rfl rfl ⟨(bC_ BK848.out 0).trans rfl, (bC_ BK848.out 1).trans rfl⟩ (fun hHeld => ?_); refine with_tabW snowlineref04_Apart.tab7 snowlineref04_Apart.bits7 (fun HT_ HW_ => ?_); generalize w20.drew = w27 at BK848 HB hHeld ⊢; refine pP_ 2 33 ?_; refine pT_ 0 31 ?_; refine pT_ 1 32 ?_; refine oN_ 3 (some 34) (fun K hK => ?_); refine gO_ Try.func72 #[.agg #[.int .i64 a0_0, .slice A0_1 l0_1.length c0_1], .bool false, .int .i64 a1] ?_; with_reducible refine (snowlineref04_marks.calls kj9 a0_0 _ _ l0_1 false a1 t853 _ ?side1 ?side2 A22.out).mono ?_
       (case side1 => exact cS_ (cB_ HR0_1.out HB.out))
       (case side2 => exact HC0_1.out)
       rintro e w28 ⟨v854, rfl, ho0, hb⟩; refine ⟨_, rfl, ?_⟩; have HO855 := Z_ (rL_ ho0 (fZ_ hB_)); replace BK848 := Z_ (bB_ (g := gb848) (o := .cells #[.int .i64 a0_0, .slice A0_1 l0_1.length c0_1] 24 (0, 0)) (bR_ BK848.out) hb); replace HB := Z_ (fS_ hB_ hb); (try clear hb)
       (try clear hb2)
       (try clear hk)
       (try clear hi)
       (try clear ho0)
       obtain ⟨Ao29, co29, eo29⟩ := rS_ HO855.out; (first | subst eo29 | (injection eo29 with f1_ f2_ f3_; have f4_ := f1_.symm; have f5_ := f3_.symm; clear f1_ f2_ f3_; subst f4_; subst f5_))
       refine hK.out _ _ ⟨(bC_ BK848.out 0).trans rfl, (bC_ BK848.out 1).trans rfl⟩ (fun hHeld => ?_); clear hK K; refine nP_ 34 ?_; refine oN_ 4 (some 35) (fun K hK => ?_); refine gO_ Try.func71 #[.agg #[.int .i64 a0_0, .slice A0_1 l0_1.length c0_1], .slice Ao29 t853.length co29] ?_; with_reducible refine (snowlineref04_Lengths.calls kj9 a0_0 _ _ l0_1 _ _ t853 t856 t859 t862 _ ?side1 ?side2 ?side3 ?side4 A23.out).mono ?_
       (case side1 => exact cS_ (cB_ HR0_1.out HB.out))
       (case side2 => exact HC0_1.out)
       (case side3 => repeat (first | exact (rR_ HO855.out).2.2 | (with_reducible refine Kd.C_alloc ?_ _) | (with_reducible refine Kd.C_drewN ?_ _) | (with_reducible refine Kd.C_drew ?_)))
       (case side4 => exact (rR_ HO855.out).2.1)
       rintro e w30 ⟨v857, v860, rfl, ho0, ho1, hb⟩; refine ⟨_, rfl, ?_⟩; have HO858 := Z_ (rL_ ho0 (fZ_ hB_)); have HO861 := Z_ (rL_ (Kd.R_new' ho1 (Kd.R_lt (rK_ HO855.out))) (fZ_ hB_)); replace HO855 := Z_ (Kd.R_elder' (rK_ HO855.out) (Kd.R_base ho1) hb); replace BK848 := Z_ (bB_ (g := gb848) (o := .cells #[.int .i64 a0_0, .slice A0_1 l0_1.length c0_1] 24 (0, 0)) (bR_ BK848.out) hb); replace HB := Z_ (fS_ hB_ hb); (try clear hb)
       (try clear hb2)
       (try clear hk)
       (try clear hi)
       (try clear ho0)
       (try clear ho1)
       refine hK.out _ _ ⟨(bC_ BK848.out 0).trans rfl, (bC_ BK848.out 1).trans rfl⟩ (fun hHeld => ?_); clear hK K; refine nP_ 35 ?_; refine pP_ 5 30 ?_; refine pP_ 6 36 ?_; refine pP_ 7 37 ?_; refine pP_ 8 38 ?_; refine pP_ 9 9 ?_; refine pP_ 10 10 ?_; refine pP_ 11 11 ?_; refine dN_ ?_; obtain ⟨Ao31, co31, eo31⟩ := rS_ HO861.out; subst eo31; have p863 : 0 ≤ (a2 : Int) := dT_ as_; have q863 : a2 < (t859.length : Int) := dT_ as_; obtain ⟨ad863, e863, hx863_0⟩ := Kd.at_bool (rR_ HO861.out).2.2 a2 p863 q863; cases e863
       replace p863 := eq_true p863; replace q863 := eq_true q863; go_upto_if 43 with (fail); have H := HF26.out; clear HF26; obtain ⟨bq32, hbq32⟩ : ∃ b_ : Bool, b_ = (rdOf false t859 a2) := ⟨_, rfl⟩; replace H : (if bq32 = true then (if a2 < (t856.length : Int) then (some (rd t856 a2, true, 0)) else (none)) else (some (0, false, 0))) = some (r1, r2, r3) := by rw [← hbq32] at H; exact H
       have Nbq32 := Z_ hbq32; clear hbq32; (try rw [← Nbq32.out])
       by_cases c33 : bq32 = true
       ·subst c33
        rw [if_pos rfl] at H; by_cases c34 : a2 < (t856.length : Int)
        ·rw [if_pos c34] at H
         have c34b0 : decide (a2 < (t856.length : Int)) = true := eT_ c34; clear c34; simp only [oJ_, pI_] at H; obtain ⟨rfl, rfl, rfl⟩ := H; obtain ⟨Ao35, co35, eo35⟩ := rS_ HO858.out; subst eo35; have p864 : 0 ≤ (a2 : Int) := dT_ as_; have q864 : a2 < (t856.length : Int) := dT_ as_; obtain ⟨ad864, e864, hx864_0⟩ := Kd.at_int (rR_ HO858.out).2.2 a2 p864 q864; cases e864
         replace p864 := eq_true p864; replace q864 := eq_true q864; go_wp2; go_ret3; exact ⟨eW_, hB_⟩
        rw [if_neg c34] at H; exact absurd H (by simp)
       replace c33 := bE_.mpr c33; subst c33; have H1 : (some (0, false, 0)) = some (r1, r2, r3) := by rw [if_neg (show ¬ (false = true) by decide)] at H; exact H
       clear H; have H := H1; clear H1; simp only [oJ_, pI_] at H; obtain ⟨rfl, rfl, rfl⟩ := H; go_wp2; go_ret3; exact ⟨eW_, hB_⟩
      rw [if_neg c25] at H; exact absurd H (by simp)
     rw [if_neg c24] at H; exact absurd H (by simp)
    replace c21 := bE_.mpr c21; subst c21; have H1 : (some (0, false, 41)) = some (r1, r2, r3) := by rw [if_neg (show ¬ (false = true) by decide)] at H; exact H
    clear H; have H := H1; clear H1; simp only [oJ_, pI_] at H; obtain ⟨rfl, rfl, rfl⟩ := H; go_wp2; go_ret3; exact ⟨eW_, hB_⟩
 rw [if_neg c9] at H; obtain ⟨c9b0, c9b1⟩ := bn_ c9; (first | rw [c9b0] | (simp only [i64_w, i32_w]; rw [c9b0]) | skip)
 simp only [oJ_, pI_] at H; obtain ⟨rfl, rfl, rfl⟩ := H; go_wp2; go_ret3; exact ⟨eW_, hB_⟩
mutual
def snowlineref04_Simple.l0 : Nat → List Int → List Int → Int → Int → List (S39) → Option (Bool)
 | 0, _, _, _, _, _ => none
 | k + 1, x2, x7, x8, x893000, x893001 => if x8 < (x2.length : Int) then (if 0 ≤ x8 then (if 0 ≤ (rd x2 x8) then (if (rd x2 x8) < (x893001.length : Int) then (snowlineref04_Simple.l1 k x2 x7 x8 ((rd_T39 x893001 (rd x2 x8)).f1) 0 x893000 x893001) else (none)) else (none)) else (none)) else (some true)
def snowlineref04_Simple.l1 : Nat → List Int → List Int → Int → Int → Int → Int → List (S39) → Option (Bool)
 | 0, _, _, _, _, _, _, _ => none
 | k + 1, x2, x7, x8, x9, x10, x893000, x893001 => if x10 < (x7.length : Int) then (if 0 ≤ x10 then (if (rd x7 x10) = x9 then (some false) else (snowlineref04_Simple.l1 k x2 x7 x8 x9 (wrap64 (x10 + 1)) x893000 x893001)) else (none)) else (if x7.length < 17592186044416 then (snowlineref04_Simple.l0 k x2 (x7 ++ [x9]) (wrap64 (x8 + 1)) x893000 x893001) else (none))
end
def snowlineref04_Simple.f (k : Nat) (a0_0 : Int) (l0_1 : List (S39)) (a1 : Int) (l2 : List Int) : Option (Bool) := snowlineref04_Simple.l0 k l2 (([a1] : List Int)) 0 a0_0 l0_1
theorem snowlineref04_Simple.mono_l : ∀ k, (∀ y0 y1 y2 y3 y4, LeO (snowlineref04_Simple.l0 k y0 y1 y2 y3 y4) (snowlineref04_Simple.l0 (k + 1) y0 y1 y2 y3 y4)) ∧ (∀ y0 y1 y2 y3 y4 y5 y6, LeO (snowlineref04_Simple.l1 k y0 y1 y2 y3 y4 y5 y6) (snowlineref04_Simple.l1 (k + 1) y0 y1 y2 y3 y4 y5 y6))
 | 0 => ⟨fun _ _ _ _ _ r h => by simp [snowlineref04_Simple.l0] at h, fun _ _ _ _ _ _ _ r h => by simp [snowlineref04_Simple.l1] at h⟩
 | k + 1 => by
  obtain ⟨ih0, ih1⟩ := snowlineref04_Simple.mono_l k; refine ⟨?_, ?_⟩ <;> intros <;> (first | unfold snowlineref04_Simple.l0 | unfold snowlineref04_Simple.l1) <;> repeat' first | (with_reducible first | exact ih0 _ _ _ _ _ | exact ih1 _ _ _ _ _ _ _ | exact LeO.refl _ | exact LeO.none _ | refine LeO.ite ?_ ?_ | refine LeO.bind ?_ (fun _ => ?_)) | exact ih0 _ _ _ _ _ | exact ih1 _ _ _ _ _ _ _ | exact LeO.none _ | refine LeO.ite ?_ ?_ | refine LeO.bind ?_ (fun _ => ?_)
theorem snowlineref04_Simple.mono : ∀ a0 a1 a2 a3 k, LeO (snowlineref04_Simple.f k a0 a1 a2 a3) (snowlineref04_Simple.f (k + 1) a0 a1 a2 a3) := by
 intro a0 a1 a2 a3 k; obtain ⟨ih0, ih1⟩ := snowlineref04_Simple.mono_l k; unfold snowlineref04_Simple.f; repeat' first | (with_reducible first | exact ih0 _ _ _ _ _ | exact ih1 _ _ _ _ _ _ _ | exact LeO.refl _ | exact LeO.none _ | refine LeO.ite ?_ ?_ | refine LeO.bind ?_ (fun _ => ?_)) | exact ih0 _ _ _ _ _ | exact ih1 _ _ _ _ _ _ _ | exact LeO.none _ | refine LeO.ite ?_ ?_ | refine LeO.bind ?_ (fun _ => ?_)
set_option maxHeartbeats 8000000 in
set_option maxRecDepth 100000 in
theorem snowlineref04_Simple.calls (k : Nat) (a0_0 : Int) (A0_1 : Option Addr) (c0_1 : Nat) (l0_1 : List (S39)) (a1 : Int) (A2 : Option Addr) (c2 : Nat) (l2 : List Int) (r : Bool) (w : World) (hr0_1 : Kd.C k39 w A0_1 l0_1.length l0_1) (hc0_1 : l0_1.length ≤ c0_1) (hr2 : Kd.C (Kd.int .i64) w A2 l2.length l2) (hc2 : l2.length ≤ c2) (h : snowlineref04_Simple.f k a0_0 l0_1 a1 l2 = some r) :
  Calls Try.prog 47 #[.agg #[.int .i64 a0_0, .slice A0_1 l0_1.length c0_1], .int .i64 a1, .slice A2 l2.length c2] w fun e w' => e = .returned (.bool r) ∧ Below w.heap.size w w' := by
 have hu24 := Try.underlying24; have HR0_1 := Z_ hr0_1; have HC0_1 := Z_ hc0_1; clear hr0_1 hc0_1; have HR2 := Z_ hr2; have HC2 := Z_ hc2; clear hr2 hc2; have HB := Z_ (Below.refl w.heap.size w); have H : (snowlineref04_Simple.l0 k l2 (([a1] : List Int)) 0 a0_0 l0_1) = some r := h; clear h; obtain ⟨y893, hy893⟩ : ∃ y_ : List Int, y_ = (([a1] : List Int)) := ⟨_, rfl⟩; replace H : (snowlineref04_Simple.l0 k l2 y893 0 a0_0 l0_1) = some r := by first | (rw [hy893]; with_reducible exact H) | (have H2_ := (oB_ _ _).symm.trans H; rw [hy893]; with_reducible exact H2_) | (have H2_ := (oB_ _ _).symm.trans H; with_reducible exact H2_) | with_reducible exact H | (rw [hy893]; exact H) | exact H
 have Ny893 := Z_ hy893; clear hy893; have H' := Z_ H; clear H; go_enter Try.func47, Try.ntmps47; go_wp2_with (first | ((with_reducible refine gate_dst (N := 3) rfl ?_); refine bX_ 3 #[.int .i64 a0_0, .slice A0_1 l0_1.length c0_1] 24 ?_; intro gb892 hg w4 hbox hb; have BK892 := Z_ (hbox); have GW892 := Z_ ((by rw [hg]; exact (fZ_ hB_) : w.heap.size ≤ gb892)); have GE892 := Z_ ((by rw [hg]; exact (fZ_ hB_) : w.heap.size ≤ gb892)); replace HB := Z_ (fS_ hB_ hb); clear hb hbox hg) | ((with_reducible refine gate_dst (N := 12) rfl ?_); refine Kd.R_lit (Kd.int .i64) _ 3 ?hg (N := 12) ?hd (xs := ([a1] : List Int)) (inner := [.int .i64 a1]) (ok := fun _ => True) (okp := fun _ => True) ?hr ?hp (fun _ hk => hk) trivial (Below.refl _ _) (nR_ _) (by simp) ?_; (case hd => rfl); (case hg => rfl); (case hr => first | (go_simp; done) | (go_simp; rfl)); (case hp => exact (Reps.one (show Kd.M (Kd.int .i64) _ _ _ a1 [.int .i64 a1] from rfl) (Reps.none _ _))); intro v894 w5 ho6 hb hg_ hnew_; clear hg_ hnew_; (first | rw [← Ny893.out] at ho6 | (simp only [Int.reduceToNat] at ho6; rw [← Ny893.out] at ho6)); have HO895 := Z_ (rL_ ho6 (fZ_ hB_)); replace BK892 := Z_ (bB_ (g := gb892) (o := .cells #[.int .i64 a0_0, .slice A0_1 l0_1.length c0_1] 24 (0, 0)) (bR_ BK892.out) hb); replace HB := Z_ (fS_ hB_ hb); clear hb ho6)); repeat (go_quiet (first | ((with_reducible refine gate_dst (N := 3) rfl ?_); refine bX_ 3 #[.int .i64 a0_0, .slice A0_1 l0_1.length c0_1] 24 ?_; intro gb892 hg w4 hbox hb; have BK892 := Z_ (hbox); have GW892 := Z_ ((by rw [hg]; exact (fZ_ hB_) : w.heap.size ≤ gb892)); have GE892 := Z_ ((by rw [hg]; exact (fZ_ hB_) : w.heap.size ≤ gb892)); replace HB := Z_ (fS_ hB_ hb); clear hb hbox hg) | ((with_reducible refine gate_dst (N := 12) rfl ?_); refine Kd.R_lit (Kd.int .i64) _ 3 ?hg (N := 12) ?hd (xs := ([a1] : List Int)) (inner := [.int .i64 a1]) (ok := fun _ => True) (okp := fun _ => True) ?hr ?hp (fun _ hk => hk) trivial (Below.refl _ _) (nR_ _) (by simp) ?_; (case hd => rfl); (case hg => rfl); (case hr => first | (go_simp; done) | (go_simp; rfl)); (case hp => exact (Reps.one (show Kd.M (Kd.int .i64) _ _ _ a1 [.int .i64 a1] from rfl) (Reps.none _ _))); intro v894 w5 ho6 hb hg_ hnew_; clear hg_ hnew_; (first | rw [← Ny893.out] at ho6 | (simp only [Int.reduceToNat] at ho6; rw [← Ny893.out] at ho6)); have HO895 := Z_ (rL_ ho6 (fZ_ hB_)); replace BK892 := Z_ (bB_ (g := gb892) (o := .cells #[.int .i64 a0_0, .slice A0_1 l0_1.length c0_1] 24 (0, 0)) (bR_ BK892.out) hb); replace HB := Z_ (fS_ hB_ hb); clear hb ho6)); try go_wp2_with (first | ((with_reducible refine gate_dst (N := 3) rfl ?_); refine bX_ 3 #[.int .i64 a0_0, .slice A0_1 l0_1.length c0_1] 24 ?_; intro gb892 hg w4 hbox hb; have BK892 := Z_ (hbox); have GW892 := Z_ ((by rw [hg]; exact (fZ_ hB_) : w.heap.size ≤ gb892)); have GE892 := Z_ ((by rw [hg]; exact (fZ_ hB_) : w.heap.size ≤ gb892)); replace HB := Z_ (fS_ hB_ hb); clear hb hbox hg) | ((with_reducible refine gate_dst (N := 12) rfl ?_); refine Kd.R_lit (Kd.int .i64) _ 3 ?hg (N := 12) ?hd (xs := ([a1] : List Int)) (inner := [.int .i64 a1]) (ok := fun _ => True) (okp := fun _ => True) ?hr ?hp (fun _ hk => hk) trivial (Below.refl _ _) (nR_ _) (by simp) ?_; (case hd => rfl); (case hg => rfl); (case hr => first | (go_simp; done) | (go_simp; rfl)); (case hp => exact (Reps.one (show Kd.M (Kd.int .i64) _ _ _ a1 [.int .i64 a1] from rfl) (Reps.none _ _))); intro v894 w5 ho6 hb hg_ hnew_; clear hg_ hnew_; (first | rw [← Ny893.out] at ho6 | (simp only [Int.reduceToNat] at ho6; rw [← Ny893.out] at ho6)); have HO895 := Z_ (rL_ ho6 (fZ_ hB_)); replace BK892 := Z_ (bB_ (g := gb892) (o := .cells #[.int .i64 a0_0, .slice A0_1 l0_1.length c0_1] 24 (0, 0)) (bR_ BK892.out) hb); replace HB := Z_ (fS_ hB_ hb); clear hb ho6)))
 go_loopg [7, 8] k (fun kq v7 v8 w' => ∃ (x7_1 : List Int) (x8_1 : Int), v8 = .int .i64 x8_1 ∧ Aside0 (snowlineref04_Simple.l0 kq l2 x7_1 x8_1 a0_0 l0_1 = some r) ∧ Aside0 (kq ≤ k) ∧ Aside0 (Kd.R (Kd.int .i64) 3 w' w.heap.size (fun _ => True) v7 x7_1) ∧ Aside0 (w'.heap[gb892]? = some (.cells #[.int .i64 a0_0, (.slice A0_1 l0_1.length c0_1)] 24 (0, 0))) ∧ Aside0 (Below w.heap.size w w'))
 case atStart => exact ⟨(y893), (0), rf_, H', ⟨nR_ _⟩, ⟨rK_ HO895.out⟩, ⟨bR_ BK892.out⟩, ⟨hB_⟩⟩
 case round =>
  clear H'; (try clear c2); (try clear p2); (try clear c4)
  obtain ⟨x7_1, x8_1, rfl, HA, HK1, HO_7, BK892, HB⟩ := hrel
  cases gk with
  | zero => exact absurd HA.out (by simp [snowlineref04_Simple.l0])
  | succ k1 =>
   have H := HA.out; clear HA; simp only [snowlineref04_Simple.l0] at H; by_cases c7 : x8_1 < (l2.length : Int)
   ·rw [if_pos c7] at H
    have c7b0 : decide (x8_1 < (l2.length : Int)) = true := eT_ c7; clear c7; by_cases c8 : 0 ≤ x8_1
    ·rw [if_pos c8] at H
     have c8b0 : decide (0 ≤ x8_1) = true := eT_ c8; clear c8; by_cases c9 : 0 ≤ (rd l2 x8_1)
     ·rw [if_pos c9] at H
      have c9b0 : decide (0 ≤ (rd l2 x8_1)) = true := eT_ c9; clear c9; by_cases c10 : (rd l2 x8_1) < (l0_1.length : Int)
      ·rw [if_pos c10] at H
       have c10b0 : decide ((rd l2 x8_1) < (l0_1.length : Int)) = true := eT_ c10; clear c10; have H' := Z_ H; clear H; obtain ⟨⟨hcz11_0, hcz11_1⟩, hfz11_0, hfz11_1⟩ := f2_ BK892.out; have p896 : 0 ≤ (x8_1 : Int) := dT_ as_; have q896 : x8_1 < (l2.length : Int) := dT_ as_; obtain ⟨ad896, e896, hx896_0⟩ := Kd.at_int HR2.out x8_1 p896 q896; cases e896
       replace hx896_0 := (HB.out.cell (World.block_lt_of_cell? w _ hx896_0)).trans hx896_0; replace p896 := eq_true p896; replace q896 := eq_true q896; have p897 : 0 ≤ ((rd l2 x8_1) : Int) := dT_ as_; have q897 : (rd l2 x8_1) < (l0_1.length : Int) := dT_ as_; obtain ⟨ad897, e897, hx897_0, hx897_1, hx897_2⟩ := at_T39 HR0_1.out (rd l2 x8_1) p897 q897; cases e897
       replace hx897_0 := (HB.out.cell (World.block_lt_of_cell? w _ hx897_0)).trans hx897_0; replace hx897_1 := (HB.out.cell (World.block_lt_of_cell? w _ hx897_1)).trans hx897_1; replace hx897_2 := (HB.out.cell (World.block_lt_of_cell? w _ hx897_2)).trans hx897_2; replace p897 := eq_true p897; replace q897 := eq_true q897; go_wp2; repeat (go_quiet (fail); try go_wp2)
       go_loopg [10] k1 (fun kq v10 w' => ∃ (x10_2 : Int), v10 = .int .i64 x10_2 ∧ Aside0 (snowlineref04_Simple.l1 kq l2 x7_1 x8_1 ((rd_T39 l0_1 (rd l2 x8_1)).f1) x10_2 a0_0 l0_1 = some r) ∧ Aside0 (kq ≤ k1) ∧ Aside0 (Kd.R (Kd.int .i64) 3 w' w.heap.size (fun _ => True) u7 x7_1) ∧ Aside0 (w'.heap[gb892]? = some (.cells #[.int .i64 a0_0, (.slice (some ad897) l0_1.length c0_1)] 24 (0, 0))) ∧ Aside0 (Below w.heap.size w w'))
       case atStart => exact ⟨(0), rf_, H', ⟨nR_ _⟩, ⟨rK_ HO_7.out⟩, ⟨bR_ BK892.out⟩, ⟨hB_⟩⟩
       case round =>
        clear H'; (try clear c1); (try clear c2); (try clear p2); (try clear c4); (try clear c7); (try clear c7b0); (try clear c8); (try clear c8b0); (try clear p8); (try clear q8); (try clear hx8); (try clear c9); (try clear c9b0); (try clear c10); (try clear c10b0); (try clear hcz11_0); (try clear hcz11_1); (try clear hfz11_0); (try clear hfz11_1); (try clear hx896_0); (try clear hx897_0); (try clear hx897_1); (try clear hx897_2); (try clear p2); (try clear p896); (try clear p897); (try clear q896); (try clear q897)
        obtain ⟨x10_2, rfl, HA, HK2, HO_7, BK892, HB⟩ := hrel
        cases gk with
        | zero => exact absurd HA.out (by simp [snowlineref04_Simple.l1])
        | succ k2 =>
         have H := HA.out; clear HA; simp only [snowlineref04_Simple.l1] at H; by_cases c12 : x10_2 < (x7_1.length : Int)
         ·rw [if_pos c12] at H
          have c12b0 : decide (x10_2 < (x7_1.length : Int)) = true := eT_ c12; clear c12; by_cases c13 : 0 ≤ x10_2
          ·rw [if_pos c13] at H
           have c13b0 : decide (0 ≤ x10_2) = true := eT_ c13; clear c13; by_cases c14 : (rd x7_1 x10_2) = ((rd_T39 l0_1 (rd l2 x8_1)).f1)
           ·rw [if_pos c14] at H
            obtain ⟨c14b0, c14b1⟩ := be_ c14; clear c14; obtain rfl := oI_ H; obtain ⟨Ao15, co15, eo15⟩ := rS_ HO_7.out; subst eo15; have p901 : 0 ≤ (x10_2 : Int) := dT_ as_; have q901 : x10_2 < (x7_1.length : Int) := dT_ as_; obtain ⟨ad901, e901, hx901_0⟩ := Kd.at_int (rR_ HO_7.out).2.2 x10_2 p901 q901; cases e901
            replace p901 := eq_true p901; replace q901 := eq_true q901; go_wp2; repeat (go_quiet (fail); try go_wp2)
            go_ret; exact ⟨eW_, hB_⟩
           rw [if_neg c14] at H; obtain ⟨c14b0, c14b1⟩ := bn_ c14; have H' := Z_ H; clear H; obtain ⟨Ao16, co16, eo16⟩ := rS_ HO_7.out; subst eo16; have p901 : 0 ≤ (x10_2 : Int) := dT_ as_; have q901 : x10_2 < (x7_1.length : Int) := dT_ as_; obtain ⟨ad901, e901, hx901_0⟩ := Kd.at_int (rR_ HO_7.out).2.2 x10_2 p901 q901; cases e901
           replace p901 := eq_true p901; replace q901 := eq_true q901; go_wp2; repeat (go_quiet (fail); try go_wp2)
           go_roundg k2
           case measure => have := HK1.out; have := HK2.out; omega
           case rel => exact ⟨(wrap64 (x10_2 + 1)), rf_, H', ⟨by have := HK1.out; have := HK2.out; omega⟩, ⟨rK_ HO_7.out⟩, ⟨bR_ BK892.out⟩, ⟨hB_⟩⟩
          rw [if_neg c13] at H; exact absurd H (by simp)
         rw [if_neg c12] at H; have c12b0 : decide (x10_2 < (x7_1.length : Int)) = false := eF_ c12; clear c12; by_cases c17 : x7_1.length < 17592186044416
         ·rw [if_pos c17] at H
          have LMc17 := Z_ c17; clear c17; obtain ⟨y898, hy898⟩ : ∃ y_ : List Int, y_ = (x7_1 ++ [((rd_T39 l0_1 (rd l2 x8_1)).f1)]) := ⟨_, rfl⟩; replace H : (snowlineref04_Simple.l0 k2 l2 y898 (wrap64 (x8_1 + 1)) a0_0 l0_1) = some r := by first | (rw [hy898]; with_reducible exact H) | (have H2_ := (oB_ _ _).symm.trans H; rw [hy898]; with_reducible exact H2_) | (have H2_ := (oB_ _ _).symm.trans H; with_reducible exact H2_) | with_reducible exact H | (rw [hy898]; exact H) | exact H
          have Ny898 := Z_ hy898; clear hy898; have H' := Z_ H; clear H; obtain ⟨Ao18, co18, eo18⟩ := rS_ HO_7.out; subst eo18; go_wp2_with (first | ((with_reducible refine gate_builtin (b := .append) (xs := #[.tmp 40, .tmp 42]) rfl ?_); at_builtin; refine Kd.R_append (Kd.int .i64) (w0 := w) w.heap.size rfl (.tmp 40) (.tmp 42) 29 3 (.int .i64 0) 8 rfl Try.underlying29 info3 rfl (by decide) (by omega) (.slice Ao18 x7_1.length co18) x7_1 ((rd_T39 l0_1 (rd l2 x8_1)).f1) [.int .i64 ((rd_T39 l0_1 (rd l2 x8_1)).f1)] (fun _ => True) (fun _ => False) rfl rfl ?aP (fun _ hk => hk.elim) ?aF ?aO ?aB ?aS ?aL ?_; (case aP => exact rfl); (case aB => exact hB_); (case aF => exact (fun _ _ => trivial)); (case aO => exact (rK_ HO_7.out)); (case aS => exact (fZ_ hB_)); (case aL => have := LMc17.out; omega); intro v899 w19 ho hb hg hat; rw [← Ny898.out] at ho; replace BK892 := Z_ (blk_grown (g := gb892) (o := .cells #[.int .i64 a0_0, .slice (some ad897) l0_1.length c0_1] 24 (0, 0)) (bR_ BK892.out) hg (Kd.R_ne HO_7.out BK892.out (by decide))); replace HB := Z_ (hb); have HO900 := Z_ (ho); clear HO_7; clear ho hb hg hat)); repeat (go_quiet (first | ((with_reducible refine gate_builtin (b := .append) (xs := #[.tmp 40, .tmp 42]) rfl ?_); at_builtin; refine Kd.R_append (Kd.int .i64) (w0 := w) w.heap.size rfl (.tmp 40) (.tmp 42) 29 3 (.int .i64 0) 8 rfl Try.underlying29 info3 rfl (by decide) (by omega) (.slice Ao18 x7_1.length co18) x7_1 ((rd_T39 l0_1 (rd l2 x8_1)).f1) [.int .i64 ((rd_T39 l0_1 (rd l2 x8_1)).f1)] (fun _ => True) (fun _ => False) rfl rfl ?aP (fun _ hk => hk.elim) ?aF ?aO ?aB ?aS ?aL ?_; (case aP => exact rfl); (case aB => exact hB_); (case aF => exact (fun _ _ => trivial)); (case aO => exact (rK_ HO_7.out)); (case aS => exact (fZ_ hB_)); (case aL => have := LMc17.out; omega); intro v899 w19 ho hb hg hat; rw [← Ny898.out] at ho; replace BK892 := Z_ (blk_grown (g := gb892) (o := .cells #[.int .i64 a0_0, .slice (some ad897) l0_1.length c0_1] 24 (0, 0)) (bR_ BK892.out) hg (Kd.R_ne HO_7.out BK892.out (by decide))); replace HB := Z_ (hb); have HO900 := Z_ (ho); clear HO_7; clear ho hb hg hat)); try go_wp2_with (first | ((with_reducible refine gate_builtin (b := .append) (xs := #[.tmp 40, .tmp 42]) rfl ?_); at_builtin; refine Kd.R_append (Kd.int .i64) (w0 := w) w.heap.size rfl (.tmp 40) (.tmp 42) 29 3 (.int .i64 0) 8 rfl Try.underlying29 info3 rfl (by decide) (by omega) (.slice Ao18 x7_1.length co18) x7_1 ((rd_T39 l0_1 (rd l2 x8_1)).f1) [.int .i64 ((rd_T39 l0_1 (rd l2 x8_1)).f1)] (fun _ => True) (fun _ => False) rfl rfl ?aP (fun _ hk => hk.elim) ?aF ?aO ?aB ?aS ?aL ?_; (case aP => exact rfl); (case aB => exact hB_); (case aF => exact (fun _ _ => trivial)); (case aO => exact (rK_ HO_7.out)); (case aS => exact (fZ_ hB_)); (case aL => have := LMc17.out; omega); intro v899 w19 ho hb hg hat; rw [← Ny898.out] at ho; replace BK892 := Z_ (blk_grown (g := gb892) (o := .cells #[.int .i64 a0_0, .slice (some ad897) l0_1.length c0_1] 24 (0, 0)) (bR_ BK892.out) hg (Kd.R_ne HO_7.out BK892.out (by decide))); replace HB := Z_ (hb); have HO900 := Z_ (ho); clear HO_7; clear ho hb hg hat)))
          go_roundg k2
          case measure => have := HK1.out; have := HK2.out; omega
          case rel => exact ⟨(y898), (wrap64 (x8_1 + 1)), rf_, H', ⟨by have := HK1.out; have := HK2.out; omega⟩, ⟨rK_ HO900.out⟩, ⟨bR_ BK892.out⟩, ⟨hB_⟩⟩
         rw [if_neg c17] at H; exact absurd H (by simp)
      rw [if_neg c10] at H; exact absurd H (by simp)
     rw [if_neg c9] at H; exact absurd H (by simp)
    rw [if_neg c8] at H; exact absurd H (by simp)
   rw [if_neg c7] at H; have c7b0 : decide (x8_1 < (l2.length : Int)) = false := eF_ c7; clear c7; obtain rfl := oI_ H; go_wp2; repeat (go_quiet (fail); try go_wp2)
   go_ret; exact ⟨eW_, hB_⟩
def snowlinelaw04_small.f (a0_0 : Int) (l0_1 : List (S39)) : Option (Bool) := if a0_0 ≤ 16 then (some (decide ((l0_1.length : Int) ≤ 60))) else (some false)
set_option maxHeartbeats 8000000 in
set_option maxRecDepth 100000 in
theorem snowlinelaw04_small.calls (a0_0 : Int) (A0_1 : Option Addr) (c0_1 : Nat) (l0_1 : List (S39)) (r : Bool) (w : World) (hr0_1 : Kd.C k39 w A0_1 l0_1.length l0_1) (hc0_1 : l0_1.length ≤ c0_1) (h : snowlinelaw04_small.f a0_0 l0_1 = some r) :
  Calls Try.prog 23 #[.agg #[.int .i64 a0_0, .slice A0_1 l0_1.length c0_1]] w fun e w' => e = .returned (.bool r) ∧ Below w.heap.size w w' := by
 have hu24 := Try.underlying24; have HR0_1 := Z_ hr0_1; have HC0_1 := Z_ hc0_1; clear hr0_1 hc0_1; have HB := Z_ (Below.refl w.heap.size w); have H : (if a0_0 ≤ 16 then (some (decide ((l0_1.length : Int) ≤ 60))) else (some false)) = some r := h; clear h; by_cases c2 : a0_0 ≤ 16
 ·rw [if_pos c2] at H
  have c2b0 : decide (a0_0 ≤ 16) = true := eT_ c2; clear c2; obtain rfl := oI_ H; go_enter Try.func23, Try.ntmps23; go_wp2_with (first | ((with_reducible refine gate_dst (N := 1) rfl ?_); (try (refine gate_guard (by rfl) ?_; dsimp only)); refine bX_ 1 #[.int .i64 a0_0, .slice A0_1 l0_1.length c0_1] 24 ?_; intro gb338 hg w3 hbox hb; have BK338 := Z_ (hbox); have GW338 := Z_ ((by rw [hg]; exact (fZ_ hB_) : w.heap.size ≤ gb338)); have GE338 := Z_ ((by rw [hg]; exact (fZ_ hB_) : w.heap.size ≤ gb338)); replace HB := Z_ (fS_ hB_ hb); clear hb hbox hg; obtain ⟨⟨hcz4_0, hcz4_1⟩, hfz4_0, hfz4_1⟩ := f2_ BK338.out)); go_ret; exact ⟨eW_, hB_⟩
 rw [if_neg c2] at H; have c2b0 : decide (a0_0 ≤ 16) = false := eF_ c2; clear c2; obtain rfl := oI_ H; go_enter Try.func23, Try.ntmps23; go_wp2_with (first | ((with_reducible refine gate_dst (N := 1) rfl ?_); (try (refine gate_guard (by rfl) ?_; dsimp only)); refine bX_ 1 #[.int .i64 a0_0, .slice A0_1 l0_1.length c0_1] 24 ?_; intro gb338 hg w5 hbox hb; have BK338 := Z_ (hbox); have GW338 := Z_ ((by rw [hg]; exact (fZ_ hB_) : w.heap.size ≤ gb338)); have GE338 := Z_ ((by rw [hg]; exact (fZ_ hB_) : w.heap.size ≤ gb338)); replace HB := Z_ (fS_ hB_ hb); clear hb hbox hg; obtain ⟨⟨hcz6_0, hcz6_1⟩, hfz6_0, hfz6_1⟩ := f2_ BK338.out)); go_ret; exact ⟨eW_, hB_⟩
end Go.Proofs.Ytpolojoeabmhdaa.A
