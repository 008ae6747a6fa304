-- made by wrap.py out of the translation
import Derived.Test.YtpolojoeabmhdaaA0
import Derived.Test.YtpolojoeabmhdaaAf23
import Derived.Test.YtpolojoeabmhdaaAf29
import Derived.Test.YtpolojoeabmhdaaAf30
import Derived.Test.YtpolojoeabmhdaaHSane
namespace Go.Proofs.Ytpolojoeabmhdaa.A
open Go.RowKit Go.Proofs.YtpolojoeabmhdaaW.PrintWords Go.Proofs.YtpolojoeabmhdaaW.PrintLast Go.Proofs.YtpolojoeabmhdaaW.PrintMore
attribute [local go_sem] max2_int min2_int max_two min_two max_three min_three max_four min_four
set_option linter.unusedVariables false
set_option linter.unusedSimpArgs false

/-! ### snowlinelaw04_DiffsMetric: function 4 -/
mutual
def snowlinelaw04_DiffsMetric.j0 : Nat → Int → Int → Int → Bool → Int → List (S39) → Option (Bool)
 | 0, _, _, _, _, _, _ => none
 | k + 1, x1, x2, x3, x33, x432000, x432001 => if x33 = true then (some true) else ((diffs_Apart.f k x432000 x432001 x1 x2).bind fun bt435 => ((diffs_Apart.f k x432000 x432001 x2 x3).bind fun bt438 => ((diffs_Apart.f k x432000 x432001 x1 x3).bind fun bt441 => ((diffs_Apart.f k x432000 x432001 x2 x1).bind fun bt444 => ((diffs_Apart.f k x432000 x432001 x1 x1).bind fun bt447 => (if bt435.2.2 = 0 then (snowlinelaw04_DiffsMetric.j1 k bt435.1 bt435.2.1 bt438.1 bt438.2.1 bt441.1 bt441.2.1 bt441.2.2 bt444.1 bt444.2.1 bt444.2.2 bt447.1 bt447.2.1 bt447.2.2 (bt438.2.2 != 0)) else (snowlinelaw04_DiffsMetric.j1 k bt435.1 bt435.2.1 bt438.1 bt438.2.1 bt441.1 bt441.2.1 bt441.2.2 bt444.1 bt444.2.1 bt444.2.2 bt447.1 bt447.2.1 bt447.2.2 true)))))))
def snowlinelaw04_DiffsMetric.j1 : Nat → Int → Bool → Int → Bool → Int → Bool → Int → Int → Bool → Int → Int → Bool → Int → Bool → Option (Bool)
 | 0, _, _, _, _, _, _, _, _, _, _, _, _, _, _ => none
 | k + 1, x9, x10, x12, x13, x15, x16, x17, x18, x19, x20, x21, x22, x23, x79 => if x79 = true then (if x9 = 0 then (if x10 = true then (if x12 = 0 then (some (!x13)) else (some false)) else (some true)) else (if x12 = 0 then (some (!x13)) else (some false))) else (if x17 = 0 then (if x20 = 0 then (if x23 = 0 then (if x21 = 0 then (snowlinelaw04_DiffsMetric.j2 k x9 x10 x12 x13 x15 x16 x18 x19 (!x22)) else (snowlinelaw04_DiffsMetric.j2 k x9 x10 x12 x13 x15 x16 x18 x19 true)) else (snowlinelaw04_DiffsMetric.j2 k x9 x10 x12 x13 x15 x16 x18 x19 true)) else (snowlinelaw04_DiffsMetric.j2 k x9 x10 x12 x13 x15 x16 x18 x19 true)) else (snowlinelaw04_DiffsMetric.j2 k x9 x10 x12 x13 x15 x16 x18 x19 true))
def snowlinelaw04_DiffsMetric.j2 : Nat → Int → Bool → Int → Bool → Int → Bool → Int → Bool → Bool → Option (Bool)
 | 0, _, _, _, _, _, _, _, _, _ => none
 | k + 1, x9, x10, x12, x13, x15, x16, x18, x19, x111 => if x111 = true then (some false) else (if x10 = true then (if x13 = true then (if x16 = true then (snowlinelaw04_DiffsMetric.j3 k x9 x10 x18 x19 (decide (x15 > (wrap64 (x9 + x12))))) else (snowlinelaw04_DiffsMetric.j3 k x9 x10 x18 x19 true)) else (snowlinelaw04_DiffsMetric.j3 k x9 x10 x18 x19 false)) else (snowlinelaw04_DiffsMetric.j3 k x9 x10 x18 x19 false))
def snowlinelaw04_DiffsMetric.j3 : Nat → Int → Bool → Int → Bool → Bool → Option (Bool)
 | 0, _, _, _, _, _ => none
 | k + 1, x9, x10, x18, x19, x126 => if x126 = true then (some false) else (if x10 = true then (if x19 = true then (some (decide ((wrap64 (x9 + x18)) ≥ 0))) else (some true)) else (some true))
end
def snowlinelaw04_DiffsMetric.f (k : Nat) (a0_0 : Int) (l0_1 : List (S39)) (a1 : Int) (a2 : Int) (a3 : Int) : Option (Bool) := (snowlinelaw04_sane.f).bind fun t432 => (if t432 = true then ((diffs_Check.f k a0_0 l0_1).bind fun t433 => (if t433 = 0 then ((snowlinelaw04_small.f a0_0 l0_1).bind fun t434 => (snowlinelaw04_DiffsMetric.j0 k a1 a2 a3 (!t434) a0_0 l0_1)) else (snowlinelaw04_DiffsMetric.j0 k a1 a2 a3 true a0_0 l0_1))) else (some false))
theorem snowlinelaw04_DiffsMetric.mono_l : ∀ k, (∀ y0 y1 y2 y3 y4 y5, LeO (snowlinelaw04_DiffsMetric.j0 k y0 y1 y2 y3 y4 y5) (snowlinelaw04_DiffsMetric.j0 (k + 1) y0 y1 y2 y3 y4 y5)) ∧ (∀ y0 y1 y2 y3 y4 y5 y6 y7 y8 y9 y10 y11 y12 y13, LeO (snowlinelaw04_DiffsMetric.j1 k y0 y1 y2 y3 y4 y5 y6 y7 y8 y9 y10 y11 y12 y13) (snowlinelaw04_DiffsMetric.j1 (k + 1) y0 y1 y2 y3 y4 y5 y6 y7 y8 y9 y10 y11 y12 y13)) ∧ (∀ y0 y1 y2 y3 y4 y5 y6 y7 y8, LeO (snowlinelaw04_DiffsMetric.j2 k y0 y1 y2 y3 y4 y5 y6 y7 y8) (snowlinelaw04_DiffsMetric.j2 (k + 1) y0 y1 y2 y3 y4 y5 y6 y7 y8)) ∧ (∀ y0 y1 y2 y3 y4, LeO (snowlinelaw04_DiffsMetric.j3 k y0 y1 y2 y3 y4) (snowlinelaw04_DiffsMetric.j3 (k + 1) y0 y1 y2 y3 y4))
 | 0 => ⟨fun _ _ _ _ _ _ r h => by simp [snowlinelaw04_DiffsMetric.j0] at h, fun _ _ _ _ _ _ _ _ _ _ _ _ _ _ r h => by simp [snowlinelaw04_DiffsMetric.j1] at h, fun _ _ _ _ _ _ _ _ _ r h => by simp [snowlinelaw04_DiffsMetric.j2] at h, fun _ _ _ _ _ r h => by simp [snowlinelaw04_DiffsMetric.j3] at h⟩
 | k + 1 => by
  obtain ⟨ih0, ih1, ih2, ih3⟩ := snowlinelaw04_DiffsMetric.mono_l k
  refine ⟨?_, ?_, ?_, ?_⟩
  ·intro y0 y1 y2 y3 y4 y5
   unfold snowlinelaw04_DiffsMetric.j0
   repeat' first
   | (with_reducible exact ih0 _ _ _ _ _ _)
   | (with_reducible exact ih1 _ _ _ _ _ _ _ _ _ _ _ _ _ _)
   | (with_reducible exact ih2 _ _ _ _ _ _ _ _ _)
   | (with_reducible exact ih3 _ _ _ _ _)
   | (with_reducible exact diffs_Apart.mono _ _ _ _ _)
   | (with_reducible exact diffs_Check.mono _ _ _)
   | (with_reducible exact LeO.refl _)
   | (with_reducible exact LeO.none _)
   | (with_reducible refine LeO.ite ?_ ?_)
   | (with_reducible refine LeO.bind ?_ (fun _ => ?_))
   | exact ih0 _ _ _ _ _ _
   | exact ih1 _ _ _ _ _ _ _ _ _ _ _ _ _ _
   | exact ih2 _ _ _ _ _ _ _ _ _
   | exact ih3 _ _ _ _ _
   | exact diffs_Apart.mono _ _ _ _ _
   | exact diffs_Check.mono _ _ _
   | exact LeO.none _
   | refine LeO.ite ?_ ?_
   | refine LeO.bind ?_ (fun _ => ?_)
  ·intro y0 y1 y2 y3 y4 y5 y6 y7 y8 y9 y10 y11 y12 y13
   unfold snowlinelaw04_DiffsMetric.j1
   repeat' first
   | (with_reducible exact ih0 _ _ _ _ _ _)
   | (with_reducible exact ih1 _ _ _ _ _ _ _ _ _ _ _ _ _ _)
   | (with_reducible exact ih2 _ _ _ _ _ _ _ _ _)
   | (with_reducible exact ih3 _ _ _ _ _)
   | (with_reducible exact diffs_Apart.mono _ _ _ _ _)
   | (with_reducible exact diffs_Check.mono _ _ _)
   | (with_reducible exact LeO.refl _)
   | (with_reducible exact LeO.none _)
   | (with_reducible refine LeO.ite ?_ ?_)
   | (with_reducible refine LeO.bind ?_ (fun _ => ?_))
   | exact ih0 _ _ _ _ _ _
   | exact ih1 _ _ _ _ _ _ _ _ _ _ _ _ _ _
   | exact ih2 _ _ _ _ _ _ _ _ _
   | exact ih3 _ _ _ _ _
   | exact diffs_Apart.mono _ _ _ _ _
   | exact diffs_Check.mono _ _ _
   | exact LeO.none _
   | refine LeO.ite ?_ ?_
   | refine LeO.bind ?_ (fun _ => ?_)
  ·intro y0 y1 y2 y3 y4 y5 y6 y7 y8
   unfold snowlinelaw04_DiffsMetric.j2
   repeat' first
   | (with_reducible exact ih0 _ _ _ _ _ _)
   | (with_reducible exact ih1 _ _ _ _ _ _ _ _ _ _ _ _ _ _)
   | (with_reducible exact ih2 _ _ _ _ _ _ _ _ _)
   | (with_reducible exact ih3 _ _ _ _ _)
   | (with_reducible exact diffs_Apart.mono _ _ _ _ _)
   | (with_reducible exact diffs_Check.mono _ _ _)
   | (with_reducible exact LeO.refl _)
   | (with_reducible exact LeO.none _)
   | (with_reducible refine LeO.ite ?_ ?_)
   | (with_reducible refine LeO.bind ?_ (fun _ => ?_))
   | exact ih0 _ _ _ _ _ _
   | exact ih1 _ _ _ _ _ _ _ _ _ _ _ _ _ _
   | exact ih2 _ _ _ _ _ _ _ _ _
   | exact ih3 _ _ _ _ _
   | exact diffs_Apart.mono _ _ _ _ _
   | exact diffs_Check.mono _ _ _
   | exact LeO.none _
   | refine LeO.ite ?_ ?_
   | refine LeO.bind ?_ (fun _ => ?_)
  ·intro y0 y1 y2 y3 y4
   unfold snowlinelaw04_DiffsMetric.j3
   repeat' first
   | (with_reducible exact ih0 _ _ _ _ _ _)
   | (with_reducible exact ih1 _ _ _ _ _ _ _ _ _ _ _ _ _ _)
   | (with_reducible exact ih2 _ _ _ _ _ _ _ _ _)
   | (with_reducible exact ih3 _ _ _ _ _)
   | (with_reducible exact diffs_Apart.mono _ _ _ _ _)
   | (with_reducible exact diffs_Check.mono _ _ _)
   | (with_reducible exact LeO.refl _)
   | (with_reducible exact LeO.none _)
   | (with_reducible refine LeO.ite ?_ ?_)
   | (with_reducible refine LeO.bind ?_ (fun _ => ?_))
   | exact ih0 _ _ _ _ _ _
   | exact ih1 _ _ _ _ _ _ _ _ _ _ _ _ _ _
   | exact ih2 _ _ _ _ _ _ _ _ _
   | exact ih3 _ _ _ _ _
   | exact diffs_Apart.mono _ _ _ _ _
   | exact diffs_Check.mono _ _ _
   | exact LeO.none _
   | refine LeO.ite ?_ ?_
   | refine LeO.bind ?_ (fun _ => ?_)
theorem snowlinelaw04_DiffsMetric.mono : ∀ a0 a1 a2 a3 a4 k, LeO (snowlinelaw04_DiffsMetric.f k a0 a1 a2 a3 a4) (snowlinelaw04_DiffsMetric.f (k + 1) a0 a1 a2 a3 a4) := by
 intro a0 a1 a2 a3 a4 k
 obtain ⟨ih0, ih1, ih2, ih3⟩ := snowlinelaw04_DiffsMetric.mono_l k
 unfold snowlinelaw04_DiffsMetric.f
 repeat' first
   | (with_reducible exact ih0 _ _ _ _ _ _)
   | (with_reducible exact ih1 _ _ _ _ _ _ _ _ _ _ _ _ _ _)
   | (with_reducible exact ih2 _ _ _ _ _ _ _ _ _)
   | (with_reducible exact ih3 _ _ _ _ _)
   | (with_reducible exact diffs_Apart.mono _ _ _ _ _)
   | (with_reducible exact diffs_Check.mono _ _ _)
   | (with_reducible exact LeO.refl _)
   | (with_reducible exact LeO.none _)
   | (with_reducible refine LeO.ite ?_ ?_)
   | (with_reducible refine LeO.bind ?_ (fun _ => ?_))
   | exact ih0 _ _ _ _ _ _
   | exact ih1 _ _ _ _ _ _ _ _ _ _ _ _ _ _
   | exact ih2 _ _ _ _ _ _ _ _ _
   | exact ih3 _ _ _ _ _
   | exact diffs_Apart.mono _ _ _ _ _
   | exact diffs_Check.mono _ _ _
   | exact LeO.none _
   | refine LeO.ite ?_ ?_
   | refine LeO.bind ?_ (fun _ => ?_)
set_option maxHeartbeats 8000000 in
set_option maxRecDepth 100000 in
theorem snowlinelaw04_DiffsMetric.calls (k : Nat) (a0_0 : Int) (A0_1 : Option Addr) (c0_1 : Nat) (l0_1 : List (S39)) (a1 : Int) (a2 : Int) (a3 : Int) (r : Bool) (w : World) (hr0_1 : Kd.C k39 w A0_1 l0_1.length l0_1) (hc0_1 : l0_1.length ≤ c0_1) (h : snowlinelaw04_DiffsMetric.f k a0_0 l0_1 a1 a2 a3 = some r) :
  Calls Try.prog 4 #[.agg #[.int .i64 a0_0, .slice A0_1 l0_1.length c0_1], .int .i64 a1, .int .i64 a2, .int .i64 a3] w fun e w' => e = .returned (.bool r) ∧ Below w.heap.size w w' := by
 have hu24 := Try.underlying24
 have HR0_1 := Aside0.mk hr0_1
 have HC0_1 := Aside0.mk hc0_1
 clear hr0_1 hc0_1
 have HB := Aside0.mk (Below.refl w.heap.size w)
 have H : ((snowlinelaw04_sane.f).bind fun t432 => (if t432 = true then ((diffs_Check.f k a0_0 l0_1).bind fun t433 => (if t433 = 0 then ((snowlinelaw04_small.f a0_0 l0_1).bind fun t434 => (snowlinelaw04_DiffsMetric.j0 k a1 a2 a3 (!t434) a0_0 l0_1)) else (snowlinelaw04_DiffsMetric.j0 k a1 a2 a3 true a0_0 l0_1))) else (some false))) = some r := h
 clear h
 replace H := Option.bind_eq_some_iff.mp H
 obtain ⟨t432, A50, H⟩ := H
 replace H : (if t432 = true then ((diffs_Check.f k a0_0 l0_1).bind fun t433 => (if t433 = 0 then ((snowlinelaw04_small.f a0_0 l0_1).bind fun t434 => (snowlinelaw04_DiffsMetric.j0 k a1 a2 a3 (!t434) a0_0 l0_1)) else (snowlinelaw04_DiffsMetric.j0 k a1 a2 a3 true a0_0 l0_1))) else (some false)) = some r := H
 have A5 := Aside0.mk A50
 clear A50
 have HF6 := Aside0.mk H
 clear H
 go_enter Try.func4, Try.ntmps4
 go_upto_if 25 with (first | ((with_reducible refine gate_dst (N := 4) rfl ?_); refine box_event ?hg (N := 4) ?hd (cs := #[.int .i64 a0_0, .slice A0_1 l0_1.length c0_1]) (t := 24) ?hr ?_; (case hd => rfl); (case hg => rfl); (case hr => first | (go_simp; done) | (go_simp; rfl)); intro gb431 hg w7 hbox hb; have BK431 := Aside0.mk (hbox); have GW431 := Aside0.mk ((by rw [hg]; exact (below_size HB.out) : w.heap.size ≤ gb431)); have GE431 := Aside0.mk ((by rw [hg]; exact (below_size HB.out) : w.heap.size ≤ gb431)); replace HB := Aside0.mk (below_step HB.out hb); clear hb hbox hg) | ((with_reducible refine gate_callee (f := 21) rfl ?_); refine goesL_ (some 24) rfl rfl Try.func21 (by kernel_rfl) rfl #[] rfl (by (try simp only [List.map_toArray, List.map_cons, List.map_nil]); first | done | rfl | (simp only [List.length_drop, List.length_take]; rfl)) ?_; (with_reducible refine (snowlinelaw04_sane.calls  t432 _ A5.out).mono ?_); rintro e w8 ⟨rfl, hb⟩; refine ⟨_, rfl, ?_⟩; replace BK431 := Aside0.mk (blk_below (g := gb431) (o := .cells #[.int .i64 a0_0, .slice A0_1 l0_1.length c0_1] 24 (0, 0)) BK431.out hb); replace HB := Aside0.mk (below_step HB.out hb); (try clear hb); (try clear hb2); (try clear hk); (try clear hi)))
 (try simp only [Act.put, List.setIfInBounds_toArray, List.set_cons_zero, List.set_cons_succ])
 have H := HF6.out
 clear HF6
 by_cases c9 : t432 = true
 ·subst c9
  have H1 : ((diffs_Check.f k a0_0 l0_1).bind fun t433 => (if t433 = 0 then ((snowlinelaw04_small.f a0_0 l0_1).bind fun t434 => (snowlinelaw04_DiffsMetric.j0 k a1 a2 a3 (!t434) a0_0 l0_1)) else (snowlinelaw04_DiffsMetric.j0 k a1 a2 a3 true a0_0 l0_1))) = some r := by rw [if_pos rfl] at H; exact H
  clear H
  have H := H1
  clear H1
  have HC10 := Aside0.mk H
  clear H
  go_upto_region 3 with (fail)
  go_cut [33] (fun v33 wc => ∃ (kq : Nat) (x33_9 : Bool), v33 = .bool x33_9 ∧ Aside0 (snowlinelaw04_DiffsMetric.j0 kq a1 a2 a3 x33_9 a0_0 l0_1 = some r) ∧ Aside0 (kq ≤ k) ∧ Aside0 (wc.heap[gb431]? = some (.cells #[.int .i64 a0_0, (.slice A0_1 l0_1.length c0_1)] 24 (0, 0))) ∧ Aside0 (Below w.heap.size w wc))
  case first =>
   have H := HC10.out
   clear HC10
   replace H := Option.bind_eq_some_iff.mp H
   obtain ⟨t433, A110, H⟩ := H
   replace H : (if t433 = 0 then ((snowlinelaw04_small.f a0_0 l0_1).bind fun t434 => (snowlinelaw04_DiffsMetric.j0 k a1 a2 a3 (!t434) a0_0 l0_1)) else (snowlinelaw04_DiffsMetric.j0 k a1 a2 a3 true a0_0 l0_1)) = some r := H
   have A11 := Aside0.mk A110
   clear A110
   by_cases c12 : t433 = 0
   ·rw [if_pos c12] at H
    have c12b0 : (t433 == 0) = true := beq_iff_eq.mpr c12
    have c12b1 : (t433 != 0) = false := bne_eq_false_iff_eq.mpr c12
    clear c12
    (first | rw [c12b0] | (simp only [i64_w, i32_w]; rw [c12b0]) | skip)
    replace H := Option.bind_eq_some_iff.mp H
    obtain ⟨t434, A130, H⟩ := H
    replace H : (snowlinelaw04_DiffsMetric.j0 k a1 a2 a3 (!t434) a0_0 l0_1) = some r := H
    have A13 := Aside0.mk A130
    clear A130
    have H' := Aside0.mk H
    clear H
    have hcz14_0 : w8.cell? ⟨gb431, 0, none⟩ = some (.int .i64 a0_0) := (blk_cell BK431.out 0).trans rfl
    have hcz14_1 : w8.cell? ⟨gb431, 1, none⟩ = some (.slice A0_1 l0_1.length c0_1) := (blk_cell BK431.out 1).trans rfl
    have hfz14_0 := blk_frozen BK431.out 0
    have hfz14_1 := blk_frozen BK431.out 1
    go_wp2_with (first | ((with_reducible refine gate_callee (f := 29) rfl ?_); refine goesL_ (some 27) rfl rfl Try.func29 (by kernel_rfl) rfl #[.agg #[.int .i64 a0_0, .slice A0_1 l0_1.length c0_1]] rfl (by (try simp only [List.map_toArray, List.map_cons, List.map_nil]); first | done | rfl | (simp only [List.length_drop, List.length_take]; rfl)) ?_; (with_reducible refine (diffs_Check.calls k a0_0 _ _ l0_1 t433 _ ?side1 ?side2 A11.out).mono ?_); (case side1 => exact (Kd.C_below HR0_1.out HB.out)); (case side2 => exact HC0_1.out); rintro e w15 ⟨rfl, hb⟩; refine ⟨_, rfl, ?_⟩; replace BK431 := Aside0.mk (blk_below (g := gb431) (o := .cells #[.int .i64 a0_0, .slice A0_1 l0_1.length c0_1] 24 (0, 0)) BK431.out hb); replace HB := Aside0.mk (below_step HB.out hb); (try clear hb); (try clear hb2); (try clear hk); (try clear hi); have hcz16_0 : w15.cell? ⟨gb431, 0, none⟩ = some (.int .i64 a0_0) := (blk_cell BK431.out 0).trans rfl; have hcz16_1 : w15.cell? ⟨gb431, 1, none⟩ = some (.slice A0_1 l0_1.length c0_1) := (blk_cell BK431.out 1).trans rfl; have hfz16_0 := blk_frozen BK431.out 0; have hfz16_1 := blk_frozen BK431.out 1) | (go_at_call 23; (with_reducible refine (snowlinelaw04_small.calls a0_0 _ _ l0_1 t434 _ ?side1 ?side2 A13.out).mono ?_); (case side1 => exact (Kd.C_below HR0_1.out HB.out)); (case side2 => exact HC0_1.out); rintro e w17 ⟨rfl, hb⟩; replace BK431 := Aside0.mk (blk_below (g := gb431) (o := .cells #[.int .i64 a0_0, .slice A0_1 l0_1.length c0_1] 24 (0, 0)) BK431.out hb); replace HB := Aside0.mk (below_step HB.out hb); (try clear hb); (try clear hb2); (try clear hk); (try clear hi)))
    go_meet
    case rel => exact ⟨_, (!t434), (by first | rfl | (simp; done) | (simp [*]; done)), H', ⟨by first | omega | exact Nat.le_refl _⟩, ⟨BK431.out⟩, ⟨HB.out⟩⟩
   ·rw [if_neg c12] at H
    have c12b0 : (t433 == 0) = false := beq_eq_false_iff_ne.mpr c12
    have c12b1 : (t433 != 0) = true := bne_iff_ne.mpr c12
    (first | rw [c12b0] | (simp only [i64_w, i32_w]; rw [c12b0]) | skip)
    have H' := Aside0.mk H
    clear H
    have hcz18_0 : w8.cell? ⟨gb431, 0, none⟩ = some (.int .i64 a0_0) := (blk_cell BK431.out 0).trans rfl
    have hcz18_1 : w8.cell? ⟨gb431, 1, none⟩ = some (.slice A0_1 l0_1.length c0_1) := (blk_cell BK431.out 1).trans rfl
    have hfz18_0 := blk_frozen BK431.out 0
    have hfz18_1 := blk_frozen BK431.out 1
    go_wp2_with (first | ((with_reducible refine gate_callee (f := 29) rfl ?_); refine goesL_ (some 27) rfl rfl Try.func29 (by kernel_rfl) rfl #[.agg #[.int .i64 a0_0, .slice A0_1 l0_1.length c0_1]] rfl (by (try simp only [List.map_toArray, List.map_cons, List.map_nil]); first | done | rfl | (simp only [List.length_drop, List.length_take]; rfl)) ?_; (with_reducible refine (diffs_Check.calls k a0_0 _ _ l0_1 t433 _ ?side1 ?side2 A11.out).mono ?_); (case side1 => exact (Kd.C_below HR0_1.out HB.out)); (case side2 => exact HC0_1.out); rintro e w19 ⟨rfl, hb⟩; refine ⟨_, rfl, ?_⟩; replace BK431 := Aside0.mk (blk_below (g := gb431) (o := .cells #[.int .i64 a0_0, .slice A0_1 l0_1.length c0_1] 24 (0, 0)) BK431.out hb); replace HB := Aside0.mk (below_step HB.out hb); (try clear hb); (try clear hb2); (try clear hk); (try clear hi)))
    go_meet
    case rel => exact ⟨_, (true), (by first | rfl | (simp; done) | (simp [*]; done)), H', ⟨by first | omega | exact Nat.le_refl _⟩, ⟨BK431.out⟩, ⟨HB.out⟩⟩
  case rest =>
   clear HC10
   (try clear c1); (try clear c2); (try clear p2); (try clear c4); (try clear c9); (try clear c12); (try clear c12b0); (try clear c12b1); (try clear hcz14_0); (try clear hcz14_1); (try clear hcz16_0); (try clear hcz16_1); (try clear hcz18_0); (try clear hcz18_1); (try clear hfz14_0); (try clear hfz14_1); (try clear hfz16_0); (try clear hfz16_1); (try clear hfz18_0); (try clear hfz18_1)
   obtain ⟨kq, x33_9, rfl, HA, HJ9, BK431, HB⟩ := hcut
   cases kq with
   | zero => exact absurd HA.out (by simp [snowlinelaw04_DiffsMetric.j0])
   | succ kj9 =>
    have H := HA.out
    clear HA
    simp only [snowlinelaw04_DiffsMetric.j0] at H
    by_cases c20 : x33_9 = true
    ·subst c20
     have H1 : (some true) = some r := by rw [if_pos rfl] at H; exact H
     clear H
     have H := H1
     clear H1
     obtain rfl := Option.some.inj H
     go_wp2
     go_ret
     exact ⟨by first | rfl | (simp [errW_none, errW_some] <;> rfl) | (simp [*, errW_none, errW_some] <;> rfl), HB.out⟩
    ·replace c20 := Bool.eq_false_iff.mpr c20
     subst c20
     have H1 : ((diffs_Apart.f kj9 a0_0 l0_1 a1 a2).bind fun bt435 => ((diffs_Apart.f kj9 a0_0 l0_1 a2 a3).bind fun bt438 => ((diffs_Apart.f kj9 a0_0 l0_1 a1 a3).bind fun bt441 => ((diffs_Apart.f kj9 a0_0 l0_1 a2 a1).bind fun bt444 => ((diffs_Apart.f kj9 a0_0 l0_1 a1 a1).bind fun bt447 => (if bt435.2.2 = 0 then (snowlinelaw04_DiffsMetric.j1 kj9 bt435.1 bt435.2.1 bt438.1 bt438.2.1 bt441.1 bt441.2.1 bt441.2.2 bt444.1 bt444.2.1 bt444.2.2 bt447.1 bt447.2.1 bt447.2.2 (bt438.2.2 != 0)) else (snowlinelaw04_DiffsMetric.j1 kj9 bt435.1 bt435.2.1 bt438.1 bt438.2.1 bt441.1 bt441.2.1 bt441.2.2 bt444.1 bt444.2.1 bt444.2.2 bt447.1 bt447.2.1 bt447.2.2 true))))))) = some r := by rw [if_neg (show ¬ (false = true) by decide)] at H; exact H
     clear H
     have H := H1
     clear H1
     replace H := Option.bind_eq_some_iff.mp H
     obtain ⟨⟨t435, t436, t437⟩, A210, H⟩ := H
     replace H : ((diffs_Apart.f kj9 a0_0 l0_1 a2 a3).bind fun bt438 => ((diffs_Apart.f kj9 a0_0 l0_1 a1 a3).bind fun bt441 => ((diffs_Apart.f kj9 a0_0 l0_1 a2 a1).bind fun bt444 => ((diffs_Apart.f kj9 a0_0 l0_1 a1 a1).bind fun bt447 => (if t437 = 0 then (snowlinelaw04_DiffsMetric.j1 kj9 t435 t436 bt438.1 bt438.2.1 bt441.1 bt441.2.1 bt441.2.2 bt444.1 bt444.2.1 bt444.2.2 bt447.1 bt447.2.1 bt447.2.2 (bt438.2.2 != 0)) else (snowlinelaw04_DiffsMetric.j1 kj9 t435 t436 bt438.1 bt438.2.1 bt441.1 bt441.2.1 bt441.2.2 bt444.1 bt444.2.1 bt444.2.2 bt447.1 bt447.2.1 bt447.2.2 true)))))) = some r := H
     have A21 := Aside0.mk A210
     clear A210
     replace H := Option.bind_eq_some_iff.mp H
     obtain ⟨⟨t438, t439, t440⟩, A220, H⟩ := H
     replace H : ((diffs_Apart.f kj9 a0_0 l0_1 a1 a3).bind fun bt441 => ((diffs_Apart.f kj9 a0_0 l0_1 a2 a1).bind fun bt444 => ((diffs_Apart.f kj9 a0_0 l0_1 a1 a1).bind fun bt447 => (if t437 = 0 then (snowlinelaw04_DiffsMetric.j1 kj9 t435 t436 t438 t439 bt441.1 bt441.2.1 bt441.2.2 bt444.1 bt444.2.1 bt444.2.2 bt447.1 bt447.2.1 bt447.2.2 (t440 != 0)) else (snowlinelaw04_DiffsMetric.j1 kj9 t435 t436 t438 t439 bt441.1 bt441.2.1 bt441.2.2 bt444.1 bt444.2.1 bt444.2.2 bt447.1 bt447.2.1 bt447.2.2 true))))) = some r := H
     have A22 := Aside0.mk A220
     clear A220
     replace H := Option.bind_eq_some_iff.mp H
     obtain ⟨⟨t441, t442, t443⟩, A230, H⟩ := H
     replace H : ((diffs_Apart.f kj9 a0_0 l0_1 a2 a1).bind fun bt444 => ((diffs_Apart.f kj9 a0_0 l0_1 a1 a1).bind fun bt447 => (if t437 = 0 then (snowlinelaw04_DiffsMetric.j1 kj9 t435 t436 t438 t439 t441 t442 t443 bt444.1 bt444.2.1 bt444.2.2 bt447.1 bt447.2.1 bt447.2.2 (t440 != 0)) else (snowlinelaw04_DiffsMetric.j1 kj9 t435 t436 t438 t439 t441 t442 t443 bt444.1 bt444.2.1 bt444.2.2 bt447.1 bt447.2.1 bt447.2.2 true)))) = some r := H
     have A23 := Aside0.mk A230
     clear A230
     replace H := Option.bind_eq_some_iff.mp H
     obtain ⟨⟨t444, t445, t446⟩, A240, H⟩ := H
     replace H : ((diffs_Apart.f kj9 a0_0 l0_1 a1 a1).bind fun bt447 => (if t437 = 0 then (snowlinelaw04_DiffsMetric.j1 kj9 t435 t436 t438 t439 t441 t442 t443 t444 t445 t446 bt447.1 bt447.2.1 bt447.2.2 (t440 != 0)) else (snowlinelaw04_DiffsMetric.j1 kj9 t435 t436 t438 t439 t441 t442 t443 t444 t445 t446 bt447.1 bt447.2.1 bt447.2.2 true))) = some r := H
     have A24 := Aside0.mk A240
     clear A240
     replace H := Option.bind_eq_some_iff.mp H
     obtain ⟨⟨t447, t448, t449⟩, A250, H⟩ := H
     replace H : (if t437 = 0 then (snowlinelaw04_DiffsMetric.j1 kj9 t435 t436 t438 t439 t441 t442 t443 t444 t445 t446 t447 t448 t449 (t440 != 0)) else (snowlinelaw04_DiffsMetric.j1 kj9 t435 t436 t438 t439 t441 t442 t443 t444 t445 t446 t447 t448 t449 true)) = some r := H
     have A25 := Aside0.mk A250
     clear A250
     have HC26 := Aside0.mk H
     clear H
     have hcz27_0 : wc.cell? ⟨gb431, 0, none⟩ = some (.int .i64 a0_0) := (blk_cell BK431.out 0).trans rfl
     have hcz27_1 : wc.cell? ⟨gb431, 1, none⟩ = some (.slice A0_1 l0_1.length c0_1) := (blk_cell BK431.out 1).trans rfl
     have hfz27_0 := blk_frozen BK431.out 0
     have hfz27_1 := blk_frozen BK431.out 1
     go_upto_region 10 with (first | ((with_reducible refine gate_callee (f := 30) rfl ?_); refine goesL_ (some 38) rfl rfl Try.func30 (by kernel_rfl) rfl #[.agg #[.int .i64 a0_0, .slice A0_1 l0_1.length c0_1], .int .i64 a1, .int .i64 a2] rfl (by (try simp only [List.map_toArray, List.map_cons, List.map_nil]); first | done | rfl | (simp only [List.length_drop, List.length_take]; rfl)) ?_; (with_reducible refine (diffs_Apart.calls kj9 a0_0 _ _ l0_1 a1 a2 t435 t436 t437 _ ?side1 ?side2 A21.out).mono ?_); (case side1 => exact (Kd.C_below HR0_1.out HB.out)); (case side2 => exact HC0_1.out); rintro e w28 ⟨rfl, hb⟩; refine ⟨_, rfl, ?_⟩; replace BK431 := Aside0.mk (blk_below (g := gb431) (o := .cells #[.int .i64 a0_0, .slice A0_1 l0_1.length c0_1] 24 (0, 0)) BK431.out hb); replace HB := Aside0.mk (below_step HB.out hb); (try clear hb); (try clear hb2); (try clear hk); (try clear hi); have hcz29_0 : w28.cell? ⟨gb431, 0, none⟩ = some (.int .i64 a0_0) := (blk_cell BK431.out 0).trans rfl; have hcz29_1 : w28.cell? ⟨gb431, 1, none⟩ = some (.slice A0_1 l0_1.length c0_1) := (blk_cell BK431.out 1).trans rfl; have hfz29_0 := blk_frozen BK431.out 0; have hfz29_1 := blk_frozen BK431.out 1) | ((with_reducible refine gate_callee (f := 30) rfl ?_); refine goesL_ (some 46) rfl rfl Try.func30 (by kernel_rfl) rfl #[.agg #[.int .i64 a0_0, .slice A0_1 l0_1.length c0_1], .int .i64 a2, .int .i64 a3] rfl (by (try simp only [List.map_toArray, List.map_cons, List.map_nil]); first | done | rfl | (simp only [List.length_drop, List.length_take]; rfl)) ?_; (with_reducible refine (diffs_Apart.calls kj9 a0_0 _ _ l0_1 a2 a3 t438 t439 t440 _ ?side1 ?side2 A22.out).mono ?_); (case side1 => exact (Kd.C_below HR0_1.out HB.out)); (case side2 => exact HC0_1.out); rintro e w30 ⟨rfl, hb⟩; refine ⟨_, rfl, ?_⟩; replace BK431 := Aside0.mk (blk_below (g := gb431) (o := .cells #[.int .i64 a0_0, .slice A0_1 l0_1.length c0_1] 24 (0, 0)) BK431.out hb); replace HB := Aside0.mk (below_step HB.out hb); (try clear hb); (try clear hb2); (try clear hk); (try clear hi); have hcz31_0 : w30.cell? ⟨gb431, 0, none⟩ = some (.int .i64 a0_0) := (blk_cell BK431.out 0).trans rfl; have hcz31_1 : w30.cell? ⟨gb431, 1, none⟩ = some (.slice A0_1 l0_1.length c0_1) := (blk_cell BK431.out 1).trans rfl; have hfz31_0 := blk_frozen BK431.out 0; have hfz31_1 := blk_frozen BK431.out 1) | ((with_reducible refine gate_callee (f := 30) rfl ?_); refine goesL_ (some 54) rfl rfl Try.func30 (by kernel_rfl) rfl #[.agg #[.int .i64 a0_0, .slice A0_1 l0_1.length c0_1], .int .i64 a1, .int .i64 a3] rfl (by (try simp only [List.map_toArray, List.map_cons, List.map_nil]); first | done | rfl | (simp only [List.length_drop, List.length_take]; rfl)) ?_; (with_reducible refine (diffs_Apart.calls kj9 a0_0 _ _ l0_1 a1 a3 t441 t442 t443 _ ?side1 ?side2 A23.out).mono ?_); (case side1 => exact (Kd.C_below HR0_1.out HB.out)); (case side2 => exact HC0_1.out); rintro e w32 ⟨rfl, hb⟩; refine ⟨_, rfl, ?_⟩; replace BK431 := Aside0.mk (blk_below (g := gb431) (o := .cells #[.int .i64 a0_0, .slice A0_1 l0_1.length c0_1] 24 (0, 0)) BK431.out hb); replace HB := Aside0.mk (below_step HB.out hb); (try clear hb); (try clear hb2); (try clear hk); (try clear hi); have hcz33_0 : w32.cell? ⟨gb431, 0, none⟩ = some (.int .i64 a0_0) := (blk_cell BK431.out 0).trans rfl; have hcz33_1 : w32.cell? ⟨gb431, 1, none⟩ = some (.slice A0_1 l0_1.length c0_1) := (blk_cell BK431.out 1).trans rfl; have hfz33_0 := blk_frozen BK431.out 0; have hfz33_1 := blk_frozen BK431.out 1) | ((with_reducible refine gate_callee (f := 30) rfl ?_); refine goesL_ (some 62) rfl rfl Try.func30 (by kernel_rfl) rfl #[.agg #[.int .i64 a0_0, .slice A0_1 l0_1.length c0_1], .int .i64 a2, .int .i64 a1] rfl (by (try simp only [List.map_toArray, List.map_cons, List.map_nil]); first | done | rfl | (simp only [List.length_drop, List.length_take]; rfl)) ?_; (with_reducible refine (diffs_Apart.calls kj9 a0_0 _ _ l0_1 a2 a1 t444 t445 t446 _ ?side1 ?side2 A24.out).mono ?_); (case side1 => exact (Kd.C_below HR0_1.out HB.out)); (case side2 => exact HC0_1.out); rintro e w34 ⟨rfl, hb⟩; refine ⟨_, rfl, ?_⟩; replace BK431 := Aside0.mk (blk_below (g := gb431) (o := .cells #[.int .i64 a0_0, .slice A0_1 l0_1.length c0_1] 24 (0, 0)) BK431.out hb); replace HB := Aside0.mk (below_step HB.out hb); (try clear hb); (try clear hb2); (try clear hk); (try clear hi); have hcz35_0 : w34.cell? ⟨gb431, 0, none⟩ = some (.int .i64 a0_0) := (blk_cell BK431.out 0).trans rfl; have hcz35_1 : w34.cell? ⟨gb431, 1, none⟩ = some (.slice A0_1 l0_1.length c0_1) := (blk_cell BK431.out 1).trans rfl; have hfz35_0 := blk_frozen BK431.out 0; have hfz35_1 := blk_frozen BK431.out 1) | ((with_reducible refine gate_callee (f := 30) rfl ?_); refine goesL_ (some 70) rfl rfl Try.func30 (by kernel_rfl) rfl #[.agg #[.int .i64 a0_0, .slice A0_1 l0_1.length c0_1], .int .i64 a1, .int .i64 a1] rfl (by (try simp only [List.map_toArray, List.map_cons, List.map_nil]); first | done | rfl | (simp only [List.length_drop, List.length_take]; rfl)) ?_; (with_reducible refine (diffs_Apart.calls kj9 a0_0 _ _ l0_1 a1 a1 t447 t448 t449 _ ?side1 ?side2 A25.out).mono ?_); (case side1 => exact (Kd.C_below HR0_1.out HB.out)); (case side2 => exact HC0_1.out); rintro e w36 ⟨rfl, hb⟩; refine ⟨_, rfl, ?_⟩; replace BK431 := Aside0.mk (blk_below (g := gb431) (o := .cells #[.int .i64 a0_0, .slice A0_1 l0_1.length c0_1] 24 (0, 0)) BK431.out hb); replace HB := Aside0.mk (below_step HB.out hb); (try clear hb); (try clear hb2); (try clear hk); (try clear hi)))
     (try simp only [Act.put, List.setIfInBounds_toArray, List.set_cons_zero, List.set_cons_succ])
     go_cut [79] (fun v79 wc => ∃ (kq : Nat) (x79_25 : Bool), v79 = .bool x79_25 ∧ Aside0 (snowlinelaw04_DiffsMetric.j1 kq t435 t436 t438 t439 t441 t442 t443 t444 t445 t446 t447 t448 t449 x79_25 = some r) ∧ Aside0 (kq ≤ kj9) ∧ Aside0 (wc.heap[gb431]? = some (.cells #[.int .i64 a0_0, (.slice A0_1 l0_1.length c0_1)] 24 (0, 0))) ∧ Aside0 (Below w.heap.size w wc))
     case first =>
      have H := HC26.out
      clear HC26
      by_cases c37 : t437 = 0
      ·rw [if_pos c37] at H
       have c37b0 : (t437 == 0) = true := beq_iff_eq.mpr c37
       have c37b1 : (t437 != 0) = false := bne_eq_false_iff_eq.mpr c37
       clear c37
       (first | rw [c37b0] | (simp only [i64_w, i32_w]; rw [c37b0]) | skip)
       have H' := Aside0.mk H
       clear H
       go_wp2
       go_meet
       case rel => exact ⟨_, ((t440 != 0)), (by first | rfl | (simp; done) | (simp [*]; done)), H', ⟨by have := HJ9.out; first | omega | exact Nat.le_refl _⟩, ⟨BK431.out⟩, ⟨HB.out⟩⟩
      ·rw [if_neg c37] at H
       have c37b0 : (t437 == 0) = false := beq_eq_false_iff_ne.mpr c37
       have c37b1 : (t437 != 0) = true := bne_iff_ne.mpr c37
       (first | rw [c37b0] | (simp only [i64_w, i32_w]; rw [c37b0]) | skip)
       have H' := Aside0.mk H
       clear H
       go_wp2
       go_meet
       case rel => exact ⟨_, (true), (by first | rfl | (simp; done) | (simp [*]; done)), H', ⟨by have := HJ9.out; first | omega | exact Nat.le_refl _⟩, ⟨BK431.out⟩, ⟨HB.out⟩⟩
     case rest =>
      clear HC26
      (try clear c1); (try clear c2); (try clear p2); (try clear c3); (try clear c4); (try clear c9); (try clear c12); (try clear c12b0); (try clear c12b1); (try clear c20); (try clear c21); (try clear c29); (try clear c30); (try clear c37); (try clear c37b0); (try clear c37b1); (try clear hcz14_0); (try clear hcz14_1); (try clear hcz16_0); (try clear hcz16_1); (try clear hcz18_0); (try clear hcz18_1); (try clear hcz27_0); (try clear hcz27_1); (try clear hcz29_0); (try clear hcz29_1); (try clear hcz31_0); (try clear hcz31_1); (try clear hcz33_0); (try clear hcz33_1); (try clear hcz35_0); (try clear hcz35_1); (try clear hfz14_0); (try clear hfz14_1); (try clear hfz16_0); (try clear hfz16_1); (try clear hfz18_0); (try clear hfz18_1); (try clear hfz27_0); (try clear hfz27_1); (try clear hfz29_0); (try clear hfz29_1); (try clear hfz31_0); (try clear hfz31_1); (try clear hfz33_0); (try clear hfz33_1); (try clear hfz35_0); (try clear hfz35_1); (try clear p2)
      obtain ⟨kq, x79_25, rfl, HA, HJ25, BK431, HB⟩ := hcut
      cases kq with
      | zero => exact absurd HA.out (by simp [snowlinelaw04_DiffsMetric.j1])
      | succ kj25 =>
       have H := HA.out
       clear HA
       simp only [snowlinelaw04_DiffsMetric.j1] at H
       by_cases c38 : x79_25 = true
       ·subst c38
        have H1 : (if t435 = 0 then (if t436 = true then (if t438 = 0 then (some (!t439)) else (some false)) else (some true)) else (if t438 = 0 then (some (!t439)) else (some false))) = some r := by rw [if_pos rfl] at H; exact H
        clear H
        have H := H1
        clear H1
        by_cases c39 : t435 = 0
        ·rw [if_pos c39] at H
         have c39b0 : (t435 == 0) = true := beq_iff_eq.mpr c39
         have c39b1 : (t435 != 0) = false := bne_eq_false_iff_eq.mpr c39
         clear c39
         by_cases c40 : t436 = true
         ·subst c40
          have H1 : (if t438 = 0 then (some (!t439)) else (some false)) = some r := by rw [if_pos rfl] at H; exact H
          clear H
          have H := H1
          clear H1
          by_cases c41 : t438 = 0
          ·rw [if_pos c41] at H
           have c41b0 : (t438 == 0) = true := beq_iff_eq.mpr c41
           have c41b1 : (t438 != 0) = false := bne_eq_false_iff_eq.mpr c41
           clear c41
           obtain rfl := Option.some.inj H
           go_wp2
           go_ret
           exact ⟨by first | rfl | (simp [errW_none, errW_some] <;> rfl) | (simp [*, errW_none, errW_some] <;> rfl), HB.out⟩
          ·rw [if_neg c41] at H
           have c41b0 : (t438 == 0) = false := beq_eq_false_iff_ne.mpr c41
           have c41b1 : (t438 != 0) = true := bne_iff_ne.mpr c41
           obtain rfl := Option.some.inj H
           go_wp2
           go_ret
           exact ⟨by first | rfl | (simp [errW_none, errW_some] <;> rfl) | (simp [*, errW_none, errW_some] <;> rfl), HB.out⟩
         ·replace c40 := Bool.eq_false_iff.mpr c40
          subst c40
          have H1 : (some true) = some r := by rw [if_neg (show ¬ (false = true) by decide)] at H; exact H
          clear H
          have H := H1
          clear H1
          obtain rfl := Option.some.inj H
          go_wp2
          go_ret
          exact ⟨by first | rfl | (simp [errW_none, errW_some] <;> rfl) | (simp [*, errW_none, errW_some] <;> rfl), HB.out⟩
        ·rw [if_neg c39] at H
         have c39b0 : (t435 == 0) = false := beq_eq_false_iff_ne.mpr c39
         have c39b1 : (t435 != 0) = true := bne_iff_ne.mpr c39
         by_cases c42 : t438 = 0
         ·rw [if_pos c42] at H
          have c42b0 : (t438 == 0) = true := beq_iff_eq.mpr c42
          have c42b1 : (t438 != 0) = false := bne_eq_false_iff_eq.mpr c42
          clear c42
          obtain rfl := Option.some.inj H
          go_wp2
          go_ret
          exact ⟨by first | rfl | (simp [errW_none, errW_some] <;> rfl) | (simp [*, errW_none, errW_some] <;> rfl), HB.out⟩
         ·rw [if_neg c42] at H
          have c42b0 : (t438 == 0) = false := beq_eq_false_iff_ne.mpr c42
          have c42b1 : (t438 != 0) = true := bne_iff_ne.mpr c42
          obtain rfl := Option.some.inj H
          go_wp2
          go_ret
          exact ⟨by first | rfl | (simp [errW_none, errW_some] <;> rfl) | (simp [*, errW_none, errW_some] <;> rfl), HB.out⟩
       ·replace c38 := Bool.eq_false_iff.mpr c38
        subst c38
        have H1 : (if t443 = 0 then (if t446 = 0 then (if t449 = 0 then (if t447 = 0 then (snowlinelaw04_DiffsMetric.j2 kj25 t435 t436 t438 t439 t441 t442 t444 t445 (!t448)) else (snowlinelaw04_DiffsMetric.j2 kj25 t435 t436 t438 t439 t441 t442 t444 t445 true)) else (snowlinelaw04_DiffsMetric.j2 kj25 t435 t436 t438 t439 t441 t442 t444 t445 true)) else (snowlinelaw04_DiffsMetric.j2 kj25 t435 t436 t438 t439 t441 t442 t444 t445 true)) else (snowlinelaw04_DiffsMetric.j2 kj25 t435 t436 t438 t439 t441 t442 t444 t445 true)) = some r := by rw [if_neg (show ¬ (false = true) by decide)] at H; exact H
        clear H
        have H := H1
        clear H1
        have HC43 := Aside0.mk H
        clear H
        go_upto_region 12 with (fail)
        go_cut [111] (fun v111 wc => ∃ (kq : Nat) (x111_42 : Bool), v111 = .bool x111_42 ∧ Aside0 (snowlinelaw04_DiffsMetric.j2 kq t435 t436 t438 t439 t441 t442 t444 t445 x111_42 = some r) ∧ Aside0 (kq ≤ kj25) ∧ Aside0 (wc.heap[gb431]? = some (.cells #[.int .i64 a0_0, (.slice A0_1 l0_1.length c0_1)] 24 (0, 0))) ∧ Aside0 (Below w.heap.size w wc))
        case first =>
         have H := HC43.out
         clear HC43
         by_cases c44 : t443 = 0
         ·rw [if_pos c44] at H
          have c44b0 : (t443 == 0) = true := beq_iff_eq.mpr c44
          have c44b1 : (t443 != 0) = false := bne_eq_false_iff_eq.mpr c44
          clear c44
          (first | rw [c44b0] | (simp only [i64_w, i32_w]; rw [c44b0]) | skip)
          by_cases c45 : t446 = 0
          ·rw [if_pos c45] at H
           have c45b0 : (t446 == 0) = true := beq_iff_eq.mpr c45
           have c45b1 : (t446 != 0) = false := bne_eq_false_iff_eq.mpr c45
           clear c45
           by_cases c46 : t449 = 0
           ·rw [if_pos c46] at H
            have c46b0 : (t449 == 0) = true := beq_iff_eq.mpr c46
            have c46b1 : (t449 != 0) = false := bne_eq_false_iff_eq.mpr c46
            clear c46
            by_cases c47 : t447 = 0
            ·rw [if_pos c47] at H
             have c47b0 : (t447 == 0) = true := beq_iff_eq.mpr c47
             have c47b1 : (t447 != 0) = false := bne_eq_false_iff_eq.mpr c47
             clear c47
             have H' := Aside0.mk H
             clear H
             go_wp2
             go_meet
             case rel => exact ⟨_, (!t448), (by first | rfl | (simp; done) | (simp [*]; done)), H', ⟨by have := HJ9.out; have := HJ25.out; first | omega | exact Nat.le_refl _⟩, ⟨BK431.out⟩, ⟨HB.out⟩⟩
            ·rw [if_neg c47] at H
             have c47b0 : (t447 == 0) = false := beq_eq_false_iff_ne.mpr c47
             have c47b1 : (t447 != 0) = true := bne_iff_ne.mpr c47
             have H' := Aside0.mk H
             clear H
             go_wp2
             go_meet
             case rel => exact ⟨_, (true), (by first | rfl | (simp; done) | (simp [*]; done)), H', ⟨by have := HJ9.out; have := HJ25.out; first | omega | exact Nat.le_refl _⟩, ⟨BK431.out⟩, ⟨HB.out⟩⟩
           ·rw [if_neg c46] at H
            have c46b0 : (t449 == 0) = false := beq_eq_false_iff_ne.mpr c46
            have c46b1 : (t449 != 0) = true := bne_iff_ne.mpr c46
            have H' := Aside0.mk H
            clear H
            go_wp2
            go_meet
            case rel => exact ⟨_, (true), (by first | rfl | (simp; done) | (simp [*]; done)), H', ⟨by have := HJ9.out; have := HJ25.out; first | omega | exact Nat.le_refl _⟩, ⟨BK431.out⟩, ⟨HB.out⟩⟩
          ·rw [if_neg c45] at H
           have c45b0 : (t446 == 0) = false := beq_eq_false_iff_ne.mpr c45
           have c45b1 : (t446 != 0) = true := bne_iff_ne.mpr c45
           have H' := Aside0.mk H
           clear H
           go_wp2
           go_meet
           case rel => exact ⟨_, (true), (by first | rfl | (simp; done) | (simp [*]; done)), H', ⟨by have := HJ9.out; have := HJ25.out; first | omega | exact Nat.le_refl _⟩, ⟨BK431.out⟩, ⟨HB.out⟩⟩
         ·rw [if_neg c44] at H
          have c44b0 : (t443 == 0) = false := beq_eq_false_iff_ne.mpr c44
          have c44b1 : (t443 != 0) = true := bne_iff_ne.mpr c44
          (first | rw [c44b0] | (simp only [i64_w, i32_w]; rw [c44b0]) | skip)
          have H' := Aside0.mk H
          clear H
          go_wp2
          go_meet
          case rel => exact ⟨_, (true), (by first | rfl | (simp; done) | (simp [*]; done)), H', ⟨by have := HJ9.out; have := HJ25.out; first | omega | exact Nat.le_refl _⟩, ⟨BK431.out⟩, ⟨HB.out⟩⟩
        case rest =>
         clear HC43
         (try clear c1); (try clear c2); (try clear p2); (try clear c3); (try clear c4); (try clear c9); (try clear c12); (try clear c12b0); (try clear c12b1); (try clear c20); (try clear c21); (try clear c29); (try clear c30); (try clear c37); (try clear c37b0); (try clear c37b1); (try clear c38); (try clear c39); (try clear c39b0); (try clear c39b1); (try clear c40); (try clear c41); (try clear c41b0); (try clear c41b1); (try clear c42); (try clear c42b0); (try clear c42b1); (try clear c44); (try clear c44b0); (try clear c44b1); (try clear c45); (try clear c45b0); (try clear c45b1); (try clear c46); (try clear c46b0); (try clear c46b1); (try clear c47); (try clear c47b0); (try clear c47b1); (try clear hcz14_0); (try clear hcz14_1); (try clear hcz16_0); (try clear hcz16_1); (try clear hcz18_0); (try clear hcz18_1); (try clear hcz27_0); (try clear hcz27_1); (try clear hcz29_0); (try clear hcz29_1); (try clear hcz31_0); (try clear hcz31_1); (try clear hcz33_0); (try clear hcz33_1); (try clear hcz35_0); (try clear hcz35_1); (try clear hfz14_0); (try clear hfz14_1); (try clear hfz16_0); (try clear hfz16_1); (try clear hfz18_0); (try clear hfz18_1); (try clear hfz27_0); (try clear hfz27_1); (try clear hfz29_0); (try clear hfz29_1); (try clear hfz31_0); (try clear hfz31_1); (try clear hfz33_0); (try clear hfz33_1); (try clear hfz35_0); (try clear hfz35_1); (try clear p2)
         obtain ⟨kq, x111_42, rfl, HA, HJ42, BK431, HB⟩ := hcut
         cases kq with
         | zero => exact absurd HA.out (by simp [snowlinelaw04_DiffsMetric.j2])
         | succ kj42 =>
          have H := HA.out
          clear HA
          simp only [snowlinelaw04_DiffsMetric.j2] at H
          by_cases c48 : x111_42 = true
          ·subst c48
           have H1 : (some false) = some r := by rw [if_pos rfl] at H; exact H
           clear H
           have H := H1
           clear H1
           obtain rfl := Option.some.inj H
           go_wp2
           go_ret
           exact ⟨by first | rfl | (simp [errW_none, errW_some] <;> rfl) | (simp [*, errW_none, errW_some] <;> rfl), HB.out⟩
          ·replace c48 := Bool.eq_false_iff.mpr c48
           subst c48
           have H1 : (if t436 = true then (if t439 = true then (if t442 = true then (snowlinelaw04_DiffsMetric.j3 kj42 t435 t436 t444 t445 (decide (t441 > (wrap64 (t435 + t438))))) else (snowlinelaw04_DiffsMetric.j3 kj42 t435 t436 t444 t445 true)) else (snowlinelaw04_DiffsMetric.j3 kj42 t435 t436 t444 t445 false)) else (snowlinelaw04_DiffsMetric.j3 kj42 t435 t436 t444 t445 false)) = some r := by rw [if_neg (show ¬ (false = true) by decide)] at H; exact H
           clear H
           have H := H1
           clear H1
           have HC49 := Aside0.mk H
           clear H
           go_upto_region 14 with (fail)
           go_cut [126] (fun v126 wc => ∃ (kq : Nat) (x126_48 : Bool), v126 = .bool x126_48 ∧ Aside0 (snowlinelaw04_DiffsMetric.j3 kq t435 t436 t444 t445 x126_48 = some r) ∧ Aside0 (kq ≤ kj42) ∧ Aside0 (wc.heap[gb431]? = some (.cells #[.int .i64 a0_0, (.slice A0_1 l0_1.length c0_1)] 24 (0, 0))) ∧ Aside0 (Below w.heap.size w wc))
           case first =>
            have H := HC49.out
            clear HC49
            by_cases c50 : t436 = true
            ·subst c50
             have H1 : (if t439 = true then (if t442 = true then (snowlinelaw04_DiffsMetric.j3 kj42 t435 true t444 t445 (decide (t441 > (wrap64 (t435 + t438))))) else (snowlinelaw04_DiffsMetric.j3 kj42 t435 true t444 t445 true)) else (snowlinelaw04_DiffsMetric.j3 kj42 t435 true t444 t445 false)) = some r := by rw [if_pos rfl] at H; exact H
             clear H
             have H := H1
             clear H1
             by_cases c51 : t439 = true
             ·subst c51
              have H1 : (if t442 = true then (snowlinelaw04_DiffsMetric.j3 kj42 t435 true t444 t445 (decide (t441 > (wrap64 (t435 + t438))))) else (snowlinelaw04_DiffsMetric.j3 kj42 t435 true t444 t445 true)) = some r := by rw [if_pos rfl] at H; exact H
              clear H
              have H := H1
              clear H1
              by_cases c52 : t442 = true
              ·subst c52
               have H1 : (snowlinelaw04_DiffsMetric.j3 kj42 t435 true t444 t445 (decide (t441 > (wrap64 (t435 + t438))))) = some r := by rw [if_pos rfl] at H; exact H
               clear H
               have H := H1
               clear H1
               have H' := Aside0.mk H
               clear H
               go_wp2
               go_meet
               case rel => exact ⟨_, (decide (t441 > (wrap64 (t435 + t438)))), (by first | rfl | (simp; done) | (simp [*]; done)), H', ⟨by have := HJ9.out; have := HJ25.out; have := HJ42.out; first | omega | exact Nat.le_refl _⟩, ⟨BK431.out⟩, ⟨HB.out⟩⟩
              ·replace c52 := Bool.eq_false_iff.mpr c52
               subst c52
               have H1 : (snowlinelaw04_DiffsMetric.j3 kj42 t435 true t444 t445 true) = some r := by rw [if_neg (show ¬ (false = true) by decide)] at H; exact H
               clear H
               have H := H1
               clear H1
               have H' := Aside0.mk H
               clear H
               go_wp2
               go_meet
               case rel => exact ⟨_, (true), (by first | rfl | (simp; done) | (simp [*]; done)), H', ⟨by have := HJ9.out; have := HJ25.out; have := HJ42.out; first | omega | exact Nat.le_refl _⟩, ⟨BK431.out⟩, ⟨HB.out⟩⟩
             ·replace c51 := Bool.eq_false_iff.mpr c51
              subst c51
              have H1 : (snowlinelaw04_DiffsMetric.j3 kj42 t435 true t444 t445 false) = some r := by rw [if_neg (show ¬ (false = true) by decide)] at H; exact H
              clear H
              have H := H1
              clear H1
              have H' := Aside0.mk H
              clear H
              go_wp2
              go_meet
              case rel => exact ⟨_, (false), (by first | rfl | (simp; done) | (simp [*]; done)), H', ⟨by have := HJ9.out; have := HJ25.out; have := HJ42.out; first | omega | exact Nat.le_refl _⟩, ⟨BK431.out⟩, ⟨HB.out⟩⟩
            ·replace c50 := Bool.eq_false_iff.mpr c50
             subst c50
             have H1 : (snowlinelaw04_DiffsMetric.j3 kj42 t435 false t444 t445 false) = some r := by rw [if_neg (show ¬ (false = true) by decide)] at H; exact H
             clear H
             have H := H1
             clear H1
             have H' := Aside0.mk H
             clear H
             go_wp2
             go_meet
             case rel => exact ⟨_, (false), (by first | rfl | (simp; done) | (simp [*]; done)), H', ⟨by have := HJ9.out; have := HJ25.out; have := HJ42.out; first | omega | exact Nat.le_refl _⟩, ⟨BK431.out⟩, ⟨HB.out⟩⟩
           case rest =>
            clear HC49
            (try clear c1); (try clear c2); (try clear p2); (try clear c3); (try clear c4); (try clear c5); (try clear p6); (try clear c9); (try clear c12); (try clear c12b0); (try clear c12b1); (try clear c20); (try clear c21); (try clear c29); (try clear c30); (try clear c37); (try clear c37b0); (try clear c37b1); (try clear c38); (try clear c39); (try clear c39b0); (try clear c39b1); (try clear c40); (try clear c41); (try clear c41b0); (try clear c41b1); (try clear c42); (try clear c42b0); (try clear c42b1); (try clear c44); (try clear c44b0); (try clear c44b1); (try clear c45); (try clear c45b0); (try clear c45b1); (try clear c46); (try clear c46b0); (try clear c46b1); (try clear c47); (try clear c47b0); (try clear c47b1); (try clear c48); (try clear c50); (try clear c51); (try clear c52); (try clear hcz14_0); (try clear hcz14_1); (try clear hcz16_0); (try clear hcz16_1); (try clear hcz18_0); (try clear hcz18_1); (try clear hcz27_0); (try clear hcz27_1); (try clear hcz29_0); (try clear hcz29_1); (try clear hcz31_0); (try clear hcz31_1); (try clear hcz33_0); (try clear hcz33_1); (try clear hcz35_0); (try clear hcz35_1); (try clear hfz14_0); (try clear hfz14_1); (try clear hfz16_0); (try clear hfz16_1); (try clear hfz18_0); (try clear hfz18_1); (try clear hfz27_0); (try clear hfz27_1); (try clear hfz29_0); (try clear hfz29_1); (try clear hfz31_0); (try clear hfz31_1); (try clear hfz33_0); (try clear hfz33_1); (try clear hfz35_0); (try clear hfz35_1); (try clear p2)
            obtain ⟨kq, x126_48, rfl, HA, HJ48, BK431, HB⟩ := hcut
            cases kq with
            | zero => exact absurd HA.out (by simp [snowlinelaw04_DiffsMetric.j3])
            | succ kj48 =>
             have H := HA.out
             clear HA
             simp only [snowlinelaw04_DiffsMetric.j3] at H
             by_cases c53 : x126_48 = true
             ·subst c53
              have H1 : (some false) = some r := by rw [if_pos rfl] at H; exact H
              clear H
              have H := H1
              clear H1
              obtain rfl := Option.some.inj H
              go_wp2
              go_ret
              exact ⟨by first | rfl | (simp [errW_none, errW_some] <;> rfl) | (simp [*, errW_none, errW_some] <;> rfl), HB.out⟩
             ·replace c53 := Bool.eq_false_iff.mpr c53
              subst c53
              have H1 : (if t436 = true then (if t445 = true then (some (decide ((wrap64 (t435 + t444)) ≥ 0))) else (some true)) else (some true)) = some r := by rw [if_neg (show ¬ (false = true) by decide)] at H; exact H
              clear H
              have H := H1
              clear H1
              by_cases c54 : t436 = true
              ·subst c54
               have H1 : (if t445 = true then (some (decide ((wrap64 (t435 + t444)) ≥ 0))) else (some true)) = some r := by rw [if_pos rfl] at H; exact H
               clear H
               have H := H1
               clear H1
               by_cases c55 : t445 = true
               ·subst c55
                have H1 : (some (decide ((wrap64 (t435 + t444)) ≥ 0))) = some r := by rw [if_pos rfl] at H; exact H
                clear H
                have H := H1
                clear H1
                obtain rfl := Option.some.inj H
                go_wp2
                go_ret
                exact ⟨by first | rfl | (simp [errW_none, errW_some] <;> rfl) | (simp [*, errW_none, errW_some] <;> rfl), HB.out⟩
               ·replace c55 := Bool.eq_false_iff.mpr c55
                subst c55
                have H1 : (some true) = some r := by rw [if_neg (show ¬ (false = true) by decide)] at H; exact H
                clear H
                have H := H1
                clear H1
                obtain rfl := Option.some.inj H
                go_wp2
                go_ret
                exact ⟨by first | rfl | (simp [errW_none, errW_some] <;> rfl) | (simp [*, errW_none, errW_some] <;> rfl), HB.out⟩
              ·replace c54 := Bool.eq_false_iff.mpr c54
               subst c54
               have H1 : (some true) = some r := by rw [if_neg (show ¬ (false = true) by decide)] at H; exact H
               clear H
               have H := H1
               clear H1
               obtain rfl := Option.some.inj H
               go_wp2
               go_ret
               exact ⟨by first | rfl | (simp [errW_none, errW_some] <;> rfl) | (simp [*, errW_none, errW_some] <;> rfl), HB.out⟩
 ·replace c9 := Bool.eq_false_iff.mpr c9
  subst c9
  have H1 : (some false) = some r := by rw [if_neg (show ¬ (false = true) by decide)] at H; exact H
  clear H
  have H := H1
  clear H1
  obtain rfl := Option.some.inj H
  go_wp2
  go_ret
  exact ⟨by first | rfl | (simp [errW_none, errW_some] <;> rfl) | (simp [*, errW_none, errW_some] <;> rfl), HB.out⟩

end Go.Proofs.Ytpolojoeabmhdaa.A
