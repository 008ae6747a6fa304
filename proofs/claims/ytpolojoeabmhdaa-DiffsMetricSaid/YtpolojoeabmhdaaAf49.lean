-- made by wrap.py out of the translation
import Derived.Test.YtpolojoeabmhdaaA0
import Derived.Test.YtpolojoeabmhdaaAf77
import Derived.Test.YtpolojoeabmhdaaAf80
import Derived.Test.YtpolojoeabmhdaaAf98
import Derived.Test.YtpolojoeabmhdaaHCf
import Derived.Test.YtpolojoeabmhdaaHClone
namespace Go.Proofs.Ytpolojoeabmhdaa.A
open Go.RowKit Go.Proofs.YtpolojoeabmhdaaW.PrintWords Go.Proofs.YtpolojoeabmhdaaW.PrintLast Go.Proofs.YtpolojoeabmhdaaW.PrintMore
attribute [local go_sem] max2_int min2_int max_two min_two max_three min_three max_four min_four
set_option linter.unusedVariables false
set_option linter.unusedSimpArgs false

/-! ### diffs_CheckFlow: function 49 -/
mutual
def diffs_CheckFlow.j0 : Nat → List Int → Int → List Int → Bool → Int → List (S39) → Option (Int)
 | 0, _, _, _, _, _, _ => none
 | k + 1, x1, x2, x3, x9, x294000, x294001 => (diffs_weighty.f x294000 x294001 x1).bind fun t295 => ((diffs_asked.f k x294000 x294001 (([t295, x9] : List Bool))).bind fun t299 => (if t299 = 0 then ((slices_Clone_int_int.f x1).bind fun t300 => (diffs_CheckFlow.l0 k x2 x3 t300 x294001 (x294001.length : Int) 0 x294000 x294001)) else (some t299)))
def diffs_CheckFlow.l0 : Nat → Int → List Int → List Int → List (S39) → Int → Int → Int → List (S39) → Option (Int)
 | 0, _, _, _, _, _, _, _, _ => none
 | k + 1, x2, x3, x11, x38, x39, x40, x294000, x294001 => if x40 < x39 then (if 0 ≤ x40 then (if x40 < (x38.length : Int) then (if 0 ≤ ((rd_T39 x38 x40).f1) then (if ((rd_T39 x38 x40).f1) < (x11.length : Int) then (if x40 < (x3.length : Int) then ((some (x11.set (((rd_T39 x38 x40).f1) : Int).toNat (wrap64 ((rd x11 ((rd_T39 x38 x40).f1)) - (rd x3 x40))) : List Int)).bind fun y307 => (if 0 ≤ ((rd_T39 x38 x40).f0) then (if ((rd_T39 x38 x40).f0) < (x11.length : Int) then (diffs_CheckFlow.l0 k x2 x3 (y307.set (((rd_T39 x38 x40).f0) : Int).toNat (wrap64 ((rd y307 ((rd_T39 x38 x40).f0)) + (rd x3 x40)))) x38 x39 (wrap64 (x40 + 1)) x294000 x294001) else (none)) else (none))) else (none)) else (none)) else (none)) else (none)) else (none)) else (if 0 < (x11.length : Int) then ((cf100.f (x11.set (0 : Int).toNat 0)).bind fun t312 => (if t312 = true then (diffs_CheckFlow.j2 k true) else ((diffs_cost.f k x294000 x294001 x3).bind fun t313 => (diffs_CheckFlow.j2 k (decide (t313 > x2)))))) else (none))
def diffs_CheckFlow.j2 : Nat → Bool → Option (Int)
 | 0, _ => none
 | k + 1, x78 => if x78 = true then (some 43) else (some 0)
end
def diffs_CheckFlow.f (k : Nat) (a0_0 : Int) (l0_1 : List (S39)) (l1 : List Int) (a2 : Int) (l3 : List Int) : Option (Int) := if (l3.length : Int) = (l0_1.length : Int) then ((cf97.f l3).bind fun t294 => (diffs_CheckFlow.j0 k l1 a2 l3 (!t294) a0_0 l0_1)) else (diffs_CheckFlow.j0 k l1 a2 l3 false a0_0 l0_1)
theorem diffs_CheckFlow.mono_l : ∀ k, (∀ y0 y1 y2 y3 y4 y5, LeO (diffs_CheckFlow.j0 k y0 y1 y2 y3 y4 y5) (diffs_CheckFlow.j0 (k + 1) y0 y1 y2 y3 y4 y5)) ∧ (∀ y0 y1 y2 y3 y4 y5 y6 y7, LeO (diffs_CheckFlow.l0 k y0 y1 y2 y3 y4 y5 y6 y7) (diffs_CheckFlow.l0 (k + 1) y0 y1 y2 y3 y4 y5 y6 y7)) ∧ (∀ y0, LeO (diffs_CheckFlow.j2 k y0) (diffs_CheckFlow.j2 (k + 1) y0))
 | 0 => ⟨fun _ _ _ _ _ _ r h => by simp [diffs_CheckFlow.j0] at h, fun _ _ _ _ _ _ _ _ r h => by simp [diffs_CheckFlow.l0] at h, fun _ r h => by simp [diffs_CheckFlow.j2] at h⟩
 | k + 1 => by
  obtain ⟨ih0, ih1, ih2⟩ := diffs_CheckFlow.mono_l k
  refine ⟨?_, ?_, ?_⟩
  ·intro y0 y1 y2 y3 y4 y5
   unfold diffs_CheckFlow.j0
   repeat' first
   | (with_reducible exact ih0 _ _ _ _ _ _)
   | (with_reducible exact ih1 _ _ _ _ _ _ _ _)
   | (with_reducible exact ih2 _)
   | (with_reducible exact diffs_asked.mono _ _ _ _)
   | (with_reducible exact diffs_cost.mono _ _ _ _)
   | (with_reducible exact LeO.refl _)
   | (with_reducible exact LeO.none _)
   | (with_reducible refine LeO.ite ?_ ?_)
   | (with_reducible refine LeO.bind ?_ (fun _ => ?_))
   | exact ih0 _ _ _ _ _ _
   | exact ih1 _ _ _ _ _ _ _ _
   | exact ih2 _
   | exact diffs_asked.mono _ _ _ _
   | exact diffs_cost.mono _ _ _ _
   | exact LeO.none _
   | refine LeO.ite ?_ ?_
   | refine LeO.bind ?_ (fun _ => ?_)
  ·intro y0 y1 y2 y3 y4 y5 y6 y7
   unfold diffs_CheckFlow.l0
   repeat' first
   | (with_reducible exact ih0 _ _ _ _ _ _)
   | (with_reducible exact ih1 _ _ _ _ _ _ _ _)
   | (with_reducible exact ih2 _)
   | (with_reducible exact diffs_asked.mono _ _ _ _)
   | (with_reducible exact diffs_cost.mono _ _ _ _)
   | (with_reducible exact LeO.refl _)
   | (with_reducible exact LeO.none _)
   | (with_reducible refine LeO.ite ?_ ?_)
   | (with_reducible refine LeO.bind ?_ (fun _ => ?_))
   | exact ih0 _ _ _ _ _ _
   | exact ih1 _ _ _ _ _ _ _ _
   | exact ih2 _
   | exact diffs_asked.mono _ _ _ _
   | exact diffs_cost.mono _ _ _ _
   | exact LeO.none _
   | refine LeO.ite ?_ ?_
   | refine LeO.bind ?_ (fun _ => ?_)
  ·intro y0
   unfold diffs_CheckFlow.j2
   repeat' first
   | (with_reducible exact ih0 _ _ _ _ _ _)
   | (with_reducible exact ih1 _ _ _ _ _ _ _ _)
   | (with_reducible exact ih2 _)
   | (with_reducible exact diffs_asked.mono _ _ _ _)
   | (with_reducible exact diffs_cost.mono _ _ _ _)
   | (with_reducible exact LeO.refl _)
   | (with_reducible exact LeO.none _)
   | (with_reducible refine LeO.ite ?_ ?_)
   | (with_reducible refine LeO.bind ?_ (fun _ => ?_))
   | exact ih0 _ _ _ _ _ _
   | exact ih1 _ _ _ _ _ _ _ _
   | exact ih2 _
   | exact diffs_asked.mono _ _ _ _
   | exact diffs_cost.mono _ _ _ _
   | exact LeO.none _
   | refine LeO.ite ?_ ?_
   | refine LeO.bind ?_ (fun _ => ?_)
theorem diffs_CheckFlow.mono : ∀ a0 a1 a2 a3 a4 k, LeO (diffs_CheckFlow.f k a0 a1 a2 a3 a4) (diffs_CheckFlow.f (k + 1) a0 a1 a2 a3 a4) := by
 intro a0 a1 a2 a3 a4 k
 obtain ⟨ih0, ih1, ih2⟩ := diffs_CheckFlow.mono_l k
 unfold diffs_CheckFlow.f
 repeat' first
   | (with_reducible exact ih0 _ _ _ _ _ _)
   | (with_reducible exact ih1 _ _ _ _ _ _ _ _)
   | (with_reducible exact ih2 _)
   | (with_reducible exact diffs_asked.mono _ _ _ _)
   | (with_reducible exact diffs_cost.mono _ _ _ _)
   | (with_reducible exact LeO.refl _)
   | (with_reducible exact LeO.none _)
   | (with_reducible refine LeO.ite ?_ ?_)
   | (with_reducible refine LeO.bind ?_ (fun _ => ?_))
   | exact ih0 _ _ _ _ _ _
   | exact ih1 _ _ _ _ _ _ _ _
   | exact ih2 _
   | exact diffs_asked.mono _ _ _ _
   | exact diffs_cost.mono _ _ _ _
   | exact LeO.none _
   | refine LeO.ite ?_ ?_
   | refine LeO.bind ?_ (fun _ => ?_)
def diffs_CheckFlow.T2 : Bool × List (List Nat × List Nat) := (true, [([], []), ([], []), ([], []), ([1, 2], [1, 2]), ([], []), ([3, 4], [3, 4]), ([0, 5, 3], [0, 5]), ([6, 6, 0, 1, 2, 3, 4, 5, 6], [6])])
def diffs_CheckFlow.B2 : List Nat := [0, 0, 0, 6, 0, 30, 63, 127]
theorem diffs_CheckFlow.tab2 : rtab .any (opsOf Try.f49 2) = diffs_CheckFlow.T2 := by kernel_rfl
theorem diffs_CheckFlow.bits2 : waitsOk diffs_CheckFlow.T2.2 diffs_CheckFlow.B2 = true := by kernel_rfl
def diffs_CheckFlow.T9 : Bool × List (List Nat × List Nat) := (true, [([], []), ([], []), ([1], [1]), ([0, 2], [0, 2]), ([3], [3]), ([], []), ([], []), ([5, 6], [5, 6]), ([7], [7]), ([4, 8], [4, 8]), ([0, 2, 0, 1, 2, 3, 4, 5, 6, 7, 8, 9], [0, 2]), ([10, 9, 0, 1, 2, 3, 4, 5, 6, 7, 8, 9], [9, 10])])
def diffs_CheckFlow.B9 : List Nat := [0, 0, 2, 7, 15, 0, 0, 96, 224, 511, 1023, 2047]
theorem diffs_CheckFlow.tab9 : rtab .any (opsOf Try.f49 9) = diffs_CheckFlow.T9 := by kernel_rfl
theorem diffs_CheckFlow.bits9 : waitsOk diffs_CheckFlow.T9.2 diffs_CheckFlow.B9 = true := by kernel_rfl
def diffs_CheckFlow.T10 : Bool × List (List Nat × List Nat) := (true, [([], []), ([], []), ([1], [1]), ([0, 2], [0, 2]), ([3], [3]), ([], []), ([], []), ([5, 6], [5, 6]), ([7], [7]), ([4, 8], [4, 8]), ([0, 2, 0, 1, 2, 3, 4, 5, 6, 7, 8, 9], [0, 2]), ([10, 9, 0, 1, 2, 3, 4, 5, 6, 7, 8, 9], [9, 10])])
def diffs_CheckFlow.B10 : List Nat := [0, 0, 2, 7, 15, 0, 0, 96, 224, 511, 1023, 2047]
theorem diffs_CheckFlow.tab10 : rtab .any (opsOf Try.f49 10) = diffs_CheckFlow.T10 := by kernel_rfl
theorem diffs_CheckFlow.bits10 : waitsOk diffs_CheckFlow.T10.2 diffs_CheckFlow.B10 = true := by kernel_rfl
set_option maxHeartbeats 8000000 in
set_option maxRecDepth 100000 in
theorem diffs_CheckFlow.calls (k : Nat) (a0_0 : Int) (A0_1 : Option Addr) (c0_1 : Nat) (l0_1 : List (S39)) (A1 : Option Addr) (c1 : Nat) (l1 : List Int) (a2 : Int) (A3 : Option Addr) (c3 : Nat) (l3 : List Int) (r : Int) (w : World) (hr0_1 : Kd.C k39 w A0_1 l0_1.length l0_1) (hc0_1 : l0_1.length ≤ c0_1) (hr1 : Kd.C (Kd.int .i64) w A1 l1.length l1) (hc1 : l1.length ≤ c1) (hr3 : Kd.C (Kd.int .i64) w A3 l3.length l3) (hc3 : l3.length ≤ c3) (h : diffs_CheckFlow.f k a0_0 l0_1 l1 a2 l3 = some r) :
  Calls Try.prog 49 #[.agg #[.int .i64 a0_0, .slice A0_1 l0_1.length c0_1], .slice A1 l1.length c1, .int .i64 a2, .slice A3 l3.length c3] w fun e w' => e = .returned (.int .i64 r) ∧ Below w.heap.size w w' := by
 have hu24 := Try.underlying24
 have hu39 := Try.underlying39
 have HR0_1 := Aside0.mk hr0_1
 have HC0_1 := Aside0.mk hc0_1
 clear hr0_1 hc0_1
 have HR1 := Aside0.mk hr1
 have HC1 := Aside0.mk hc1
 clear hr1 hc1
 have HR3 := Aside0.mk hr3
 have HC3 := Aside0.mk hc3
 clear hr3 hc3
 have HB := Aside0.mk (Below.refl w.heap.size w)
 have H : (if (l3.length : Int) = (l0_1.length : Int) then ((cf97.f l3).bind fun t294 => (diffs_CheckFlow.j0 k l1 a2 l3 (!t294) a0_0 l0_1)) else (diffs_CheckFlow.j0 k l1 a2 l3 false a0_0 l0_1)) = some r := h
 clear h
 have HC5 := Aside0.mk H
 clear H
 go_enter Try.func49, Try.ntmps49
 go_upto_region 1 with (first | ((with_reducible refine gate_dst (N := 4) rfl ?_); refine box_event ?hg (N := 4) ?hd (cs := #[.int .i64 a0_0, .slice A0_1 l0_1.length c0_1]) (t := 24) ?hr ?_; (case hd => rfl); (case hg => rfl); (case hr => first | (go_simp; done) | (go_simp; rfl)); intro gb293 hg w6 hbox hb; have BK293 := Aside0.mk (hbox); have GW293 := Aside0.mk ((by rw [hg]; exact (below_size (by repeat (first | (with_reducible first | exact HB.out | apply below_alloc | apply pw_below_drewN | apply below_drew1) | exact HB.out))) : w.heap.size ≤ gb293)); have GE293 := Aside0.mk ((by rw [hg]; exact (below_size (by repeat (first | (with_reducible first | exact HB.out | apply below_alloc | apply pw_below_drewN | apply below_drew1) | exact HB.out))) : w.heap.size ≤ gb293)); replace HB := Aside0.mk (below_step (by repeat (first | (with_reducible first | exact HB.out | apply below_alloc | apply pw_below_drewN | apply below_drew1) | exact HB.out)) hb); clear hb hbox hg))
 (try simp only [Act.put, List.setIfInBounds_toArray, List.set_cons_zero, List.set_cons_succ])
 go_cut [9] (fun v9 wc => ∃ (kq : Nat) (x9_4 : Bool), v9 = .bool x9_4 ∧ Aside0 (diffs_CheckFlow.j0 kq l1 a2 l3 x9_4 a0_0 l0_1 = some r) ∧ Aside0 (kq ≤ k) ∧ Aside0 (wc.heap[gb293]? = some (.cells #[.int .i64 a0_0, (.slice A0_1 l0_1.length c0_1)] 24 (0, 0))) ∧ Aside0 (Below w.heap.size w wc))
 case first =>
  have H := HC5.out
  clear HC5
  by_cases c7 : (l3.length : Int) = (l0_1.length : Int)
  ·rw [if_pos c7] at H
   have c7b0 : ((l3.length : Int) == (l0_1.length : Int)) = true := beq_iff_eq.mpr c7
   have c7b1 : ((l3.length : Int) != (l0_1.length : Int)) = false := bne_eq_false_iff_eq.mpr c7
   have c7b2 : (l3.length == l0_1.length) = true := by first | simpa using c7 | (simp at c7 ⊢; omega)
   clear c7
   (first | rw [c7b0] | (simp only [i64_w, i32_w]; rw [c7b0]) | skip)
   replace H := Option.bind_eq_some_iff.mp H
   obtain ⟨t294, A80, H⟩ := H
   replace H : (diffs_CheckFlow.j0 k l1 a2 l3 (!t294) a0_0 l0_1) = some r := H
   have A8 := Aside0.mk A80
   clear A80
   have H' := Aside0.mk H
   clear H
   have hcz9_0 : w6.cell? ⟨gb293, 0, none⟩ = some (.int .i64 a0_0) := (blk_cell BK293.out 0).trans rfl
   have hcz9_1 : w6.cell? ⟨gb293, 1, none⟩ = some (.slice A0_1 l0_1.length c0_1) := (blk_cell BK293.out 1).trans rfl
   have hfz9_0 := blk_frozen BK293.out 0
   have hfz9_1 := blk_frozen BK293.out 1
   go_wp2_with (first | (go_at_call 57; (with_reducible refine (cf97.calls _ _ l3 t294 _ ?side1 ?side2 A8.out).mono ?_); (case side1 => exact (Kd.C_below HR3.out HB.out)); (case side2 => exact HC3.out); rintro e w10 ⟨rfl, hb⟩; replace BK293 := Aside0.mk (blk_below (g := gb293) (o := .cells #[.int .i64 a0_0, .slice A0_1 l0_1.length c0_1] 24 (0, 0)) BK293.out hb); replace HB := Aside0.mk (below_step (by repeat (first | (with_reducible first | exact HB.out | apply below_alloc | apply pw_below_drewN | apply below_drew1 | refine below_set ?_ GE293.out) | exact HB.out)) hb); (try clear hb); (try clear hb2); (try clear hk); (try clear hi)))
   go_meet
   case rel => exact ⟨_, (!t294), (by first | rfl | (simp; done) | (simp [*]; done)), H', ⟨by first | omega | exact Nat.le_refl _⟩, ⟨BK293.out⟩, ⟨by repeat (first | (with_reducible first | exact HB.out | apply below_alloc | apply pw_below_drewN | apply below_drew1 | refine below_set ?_ GE293.out) | exact HB.out)⟩⟩
  ·rw [if_neg c7] at H
   have c7b0 : ((l3.length : Int) == (l0_1.length : Int)) = false := beq_eq_false_iff_ne.mpr c7
   have c7b1 : ((l3.length : Int) != (l0_1.length : Int)) = true := bne_iff_ne.mpr c7
   have c7b2 : (l3.length == l0_1.length) = false := by first | simpa using c7 | (simp at c7 ⊢; omega)
   (first | rw [c7b0] | (simp only [i64_w, i32_w]; rw [c7b0]) | skip)
   have H' := Aside0.mk H
   clear H
   have hcz11_0 : w6.cell? ⟨gb293, 0, none⟩ = some (.int .i64 a0_0) := (blk_cell BK293.out 0).trans rfl
   have hcz11_1 : w6.cell? ⟨gb293, 1, none⟩ = some (.slice A0_1 l0_1.length c0_1) := (blk_cell BK293.out 1).trans rfl
   have hfz11_0 := blk_frozen BK293.out 0
   have hfz11_1 := blk_frozen BK293.out 1
   go_wp2
   go_meet
   case rel => exact ⟨_, (false), (by first | rfl | (simp; done) | (simp [*]; done)), H', ⟨by first | omega | exact Nat.le_refl _⟩, ⟨BK293.out⟩, ⟨by repeat (first | (with_reducible first | exact HB.out | apply below_alloc | apply pw_below_drewN | apply below_drew1 | refine below_set ?_ GE293.out) | exact HB.out)⟩⟩
 case rest =>
  clear HC5
  (try clear c1); (try clear p2); (try clear c3); (try clear c4); (try clear c7); (try clear c7b0); (try clear c7b1); (try clear c7b2); (try clear hcz11_0); (try clear hcz11_1); (try clear hcz9_0); (try clear hcz9_1); (try clear hfz11_0); (try clear hfz11_1); (try clear hfz9_0); (try clear hfz9_1)
  obtain ⟨kq, x9_4, rfl, HA, HJ4, BK293, HB⟩ := hcut
  cases kq with
  | zero => exact absurd HA.out (by simp [diffs_CheckFlow.j0])
  | succ kj4 =>
   have H := HA.out
   clear HA
   simp only [diffs_CheckFlow.j0] at H
   replace H := Option.bind_eq_some_iff.mp H
   obtain ⟨t295, A120, H⟩ := H
   replace H : ((diffs_asked.f kj4 a0_0 l0_1 (([t295, x9_4] : List Bool))).bind fun t299 => (if t299 = 0 then ((slices_Clone_int_int.f l1).bind fun t300 => (diffs_CheckFlow.l0 kj4 a2 l3 t300 l0_1 (l0_1.length : Int) 0 a0_0 l0_1)) else (some t299))) = some r := H
   have A12 := Aside0.mk A120
   clear A120
   obtain ⟨y296, hy296⟩ : ∃ y_ : List Bool, y_ = (([t295, x9_4] : List Bool)) := ⟨_, rfl⟩
   replace H : ((diffs_asked.f kj4 a0_0 l0_1 y296).bind fun t299 => (if t299 = 0 then ((slices_Clone_int_int.f l1).bind fun t300 => (diffs_CheckFlow.l0 kj4 a2 l3 t300 l0_1 (l0_1.length : Int) 0 a0_0 l0_1)) else (some t299))) = some r := by first | (rw [hy296]; with_reducible exact H) | (have H2_ := (Option.bind_some _ _).symm.trans H; rw [hy296]; with_reducible exact H2_) | (have H2_ := (Option.bind_some _ _).symm.trans H; with_reducible exact H2_) | with_reducible exact H | (rw [hy296]; exact H) | exact H
   have Ny296 := Aside0.mk hy296
   clear hy296
   replace H := Option.bind_eq_some_iff.mp H
   obtain ⟨t299, A130, H⟩ := H
   replace H : (if t299 = 0 then ((slices_Clone_int_int.f l1).bind fun t300 => (diffs_CheckFlow.l0 kj4 a2 l3 t300 l0_1 (l0_1.length : Int) 0 a0_0 l0_1)) else (some t299)) = some r := H
   have A13 := Aside0.mk A130
   clear A130
   have HF14 := Aside0.mk H
   clear H
   try go_wp2
   replace BK293 := Aside0.mk (blk_drew BK293.out)
   replace HB := Aside0.mk (below_drew1 HB.out)
   refine start_ (n := 8) (S := fun w' => w'.cell? ⟨gb293, 0, none⟩ = some (.int .i64 a0_0) ∧ w'.cell? ⟨gb293, 1, none⟩ = some (.slice A0_1 l0_1.length c0_1)) (ds := []) #[false, false, false, false, false, false, false, false] (by kernel_rfl) rfl rfl ⟨(blk_cell BK293.out 0).trans rfl, (blk_cell BK293.out 1).trans rfl⟩ (fun hHeld => ?_); refine with_tabW diffs_CheckFlow.tab2 diffs_CheckFlow.bits2 (fun HT_ HW_ => ?_)
   generalize wc.drew = w15 at BK293 HB hHeld ⊢
   refine pure_ (i := 2) (N := some 27) (v := ?_) (a' := ?_) #[false, false, true, false, false, false, false, false] rfl rfl (any_of HT_.out (by kernel_rfl)) (fun _ _ _ h => h) (Or.inl ⟨by rfl, ?_⟩) ?_ ?_
   rotate_left
   ·intro w'; go_simp; with_reducible rfl
   rotate_left
   ·simp only [Act.put, List.setIfInBounds_toArray, List.set_cons_zero, List.set_cons_succ, i64_w]; rfl
   refine pure_ (i := 4) (N := some 29) (v := ?_) (a' := ?_) #[false, false, true, false, true, false, false, false] rfl rfl (any_of HT_.out (by kernel_rfl)) (fun _ _ _ h => h) (Or.inl ⟨by rfl, ?_⟩) ?_ ?_
   rotate_left
   ·intro w'; go_simp; with_reducible rfl
   rotate_left
   ·simp only [Act.put, List.setIfInBounds_toArray, List.set_cons_zero, List.set_cons_succ, i64_w]; rfl
   refine take_ (i := 0) (N := some 25) (v := ?_) (a' := ?_) #[true, false, true, false, true, false, false, false] rfl rfl (take_ofW HT_.out HW_.out (by kernel_rfl)) (fun _ _ _ h => h) (Or.inl ⟨by rfl, ?_⟩) hHeld ?_ ?_
   rotate_left
   ·rintro w' ⟨s0, s1⟩; go_simp; with_reducible rfl
   rotate_left
   ·simp only [Act.put, List.setIfInBounds_toArray, List.set_cons_zero, List.set_cons_succ, i64_w]; rfl
   refine take_ (i := 1) (N := some 26) (v := ?_) (a' := ?_) #[true, true, true, false, true, false, false, false] rfl rfl (take_ofW HT_.out HW_.out (by kernel_rfl)) (fun _ _ _ h => h) (Or.inl ⟨by rfl, ?_⟩) hHeld ?_ ?_
   rotate_left
   ·rintro w' ⟨s0, s1⟩; go_simp; with_reducible rfl
   rotate_left
   ·simp only [Act.put, List.setIfInBounds_toArray, List.set_cons_zero, List.set_cons_succ, i64_w]; rfl
   refine one_ (i := 3) (N := some 28) #[true, true, true, true, true, false, false, false] rfl rfl (one_of HT_.out (by kernel_rfl)) (by decide) (fun K hK => ?_)
   refine goes_ Try.func98 (by kernel_rfl) rfl #[.agg #[.int .i64 a0_0, .slice A0_1 l0_1.length c0_1], .slice A1 l1.length c1] (by rfl) rfl rfl (by (try simp only [List.map_toArray, List.map_cons, List.map_nil]); first | done | rfl | (simp only [List.length_drop, List.length_take]; rfl)) ?_
   with_reducible refine (diffs_weighty.calls a0_0 _ _ l0_1 _ _ l1 t295 _ ?side1 ?side2 ?side3 ?side4 A12.out).mono ?_
   (case side1 => exact (Kd.C_below HR0_1.out HB.out))
   (case side2 => exact HC0_1.out)
   (case side3 => exact (Kd.C_below HR1.out HB.out))
   (case side4 => exact HC1.out)
   rintro e w16 ⟨rfl, hb⟩
   refine ⟨_, rfl, ?_⟩
   replace BK293 := Aside0.mk (blk_below (g := gb293) (o := .cells #[.int .i64 a0_0, .slice A0_1 l0_1.length c0_1] 24 (0, 0)) BK293.out hb)
   replace HB := Aside0.mk (below_step (by repeat (first | (with_reducible first | exact HB.out | apply below_alloc | apply pw_below_drewN | apply below_drew1 | refine below_set ?_ GE293.out) | exact HB.out)) hb)
   (try clear hb)
   (try clear hb2)
   (try clear hk)
   (try clear hi)
   refine hK.out _ _ ⟨(blk_cell BK293.out 0).trans rfl, (blk_cell BK293.out 1).trans rfl⟩ (fun hHeld => ?_)
   clear hK K
   refine norm_ (a' := ?_) ?_ ?_
   rotate_left
   ·show Act.put _ (some 28) _ = _; simp only [Act.put, List.setIfInBounds_toArray, List.set_cons_zero, List.set_cons_succ, i64_w]; rfl
   refine one_ (i := 5) (N := some 30) #[true, true, true, true, true, true, false, false] rfl rfl (one_of HT_.out (by kernel_rfl)) (by decide) (fun K hK => ?_)
   refine Kd.R_lit_step Kd.bool _ 4 ?hg (N := 30) ?hd (xs := ([t295, x9_4] : List Bool)) (inner := [.bool t295, .bool x9_4]) (ok := fun _ => True) (okp := fun _ => True) ?hr ?hp (fun _ hk => hk) trivial (Below.refl _ _) (Nat.le_refl _) (by simp) ?_; (case hd => rfl); (case hg => rfl); (case hr => first | (go_simp; done) | (go_simp; rfl)); (case hp => exact (Reps.one (show Kd.M Kd.bool _ _ _ t295 [.bool t295] from rfl) (Reps.one (show Kd.M Kd.bool _ _ _ x9_4 [.bool x9_4] from rfl) (Reps.none _ _))))
   intro v297 w17 ho18 hb hg_ hnew_
   clear hg_ hnew_
   (first | rw [← Ny296.out] at ho18 | (simp only [Int.reduceToNat] at ho18; rw [← Ny296.out] at ho18))
   have HO298 := Aside0.mk (Kd.R_lower ho18 (below_size (by repeat (first | (with_reducible first | exact HB.out | apply below_alloc | apply pw_below_drewN | apply below_drew1 | refine below_set ?_ GE293.out) | exact HB.out))))
   replace BK293 := Aside0.mk (blk_below (g := gb293) (o := .cells #[.int .i64 a0_0, .slice A0_1 l0_1.length c0_1] 24 (0, 0)) BK293.out hb)
   replace HB := Aside0.mk (below_step (by repeat (first | (with_reducible first | exact HB.out | apply below_alloc | apply pw_below_drewN | apply below_drew1 | refine below_set ?_ GE293.out) | exact HB.out)) hb)
   clear hb ho18
   obtain ⟨Ao19, co19, eo19⟩ := Kd.R_slice HO298.out
   (first | subst eo19 | (injection eo19 with f1_ f2_ f3_; have f4_ := f1_.symm; have f5_ := f3_.symm; clear f1_ f2_ f3_; subst f4_; subst f5_))
   refine hK.out _ _ ⟨(blk_cell BK293.out 0).trans rfl, (blk_cell BK293.out 1).trans rfl⟩ (fun hHeld => ?_)
   clear hK K
   refine norm_ (a' := ?_) ?_ ?_
   rotate_left
   ·show Act.put _ (some 30) _ = _; simp only [Act.put, List.setIfInBounds_toArray, List.set_cons_zero, List.set_cons_succ, i64_w]; rfl
   refine one_ (i := 6) (N := some 31) #[true, true, true, true, true, true, true, false] rfl rfl (one_of HT_.out (by kernel_rfl)) (by decide) (fun K hK => ?_)
   refine goes_ Try.func77 (by kernel_rfl) rfl #[.agg #[.int .i64 a0_0, .slice A0_1 l0_1.length c0_1], .slice Ao19 y296.length co19] (by rfl) rfl rfl (by (try simp only [List.map_toArray, List.map_cons, List.map_nil]); first | done | rfl | (simp only [List.length_drop, List.length_take]; rfl)) ?_
   with_reducible refine (diffs_asked.calls kj4 a0_0 _ _ l0_1 _ _ y296 t299 _ ?side1 ?side2 ?side3 ?side4 A13.out).mono ?_
   (case side1 => exact (Kd.C_below HR0_1.out HB.out))
   (case side2 => exact HC0_1.out)
   (case side3 => repeat (first | exact (Kd.R_reads' HO298.out).2.2 | (with_reducible refine Kd.C_alloc ?_ _) | (with_reducible refine Kd.C_drewN ?_ _) | (with_reducible refine Kd.C_drew ?_)))
   (case side4 => exact (Kd.R_reads' HO298.out).2.1)
   rintro e w20 ⟨rfl, hb⟩
   refine ⟨_, rfl, ?_⟩
   replace HO298 := Aside0.mk (Kd.R_below HO298.out hb)
   replace BK293 := Aside0.mk (blk_below (g := gb293) (o := .cells #[.int .i64 a0_0, .slice A0_1 l0_1.length c0_1] 24 (0, 0)) BK293.out hb)
   replace HB := Aside0.mk (below_step (by repeat (first | (with_reducible first | exact HB.out | apply below_alloc | apply pw_below_drewN | apply below_drew1 | refine below_set ?_ GE293.out) | exact HB.out)) hb)
   (try clear hb)
   (try clear hb2)
   (try clear hk)
   (try clear hi)
   refine hK.out _ _ ⟨(blk_cell BK293.out 0).trans rfl, (blk_cell BK293.out 1).trans rfl⟩ (fun hHeld => ?_)
   clear hK K
   refine norm_ (a' := ?_) ?_ ?_
   rotate_left
   ·show Act.put _ (some 31) _ = _; simp only [Act.put, List.setIfInBounds_toArray, List.set_cons_zero, List.set_cons_succ, i64_w]; rfl
   refine pure_ (i := 7) (N := some 10) (v := ?_) (a' := ?_) #[true, true, true, true, true, true, true, true] rfl rfl (any_of HT_.out (by kernel_rfl)) (fun _ _ _ h => h) (Or.inl ⟨by rfl, ?_⟩) ?_ ?_
   rotate_left
   ·intro w'; go_simp; with_reducible rfl
   rotate_left
   ·simp only [Act.put, List.setIfInBounds_toArray, List.set_cons_zero, List.set_cons_succ, i64_w]; rfl
   refine done_ (done_of HT_.out (by kernel_rfl)) ?_
   go_upto_if 33 with (fail)
   have H := HF14.out
   clear HF14
   by_cases c21 : t299 = 0
   ·rw [if_pos c21] at H
    have c21b0 : (t299 == 0) = true := beq_iff_eq.mpr c21
    have c21b1 : (t299 != 0) = false := bne_eq_false_iff_eq.mpr c21
    clear c21
    (first | rw [c21b0] | (simp only [i64_w, i32_w]; rw [c21b0]) | skip)
    replace H := Option.bind_eq_some_iff.mp H
    obtain ⟨t300, A220, H⟩ := H
    replace H : (diffs_CheckFlow.l0 kj4 a2 l3 t300 l0_1 (l0_1.length : Int) 0 a0_0 l0_1) = some r := H
    have A22 := Aside0.mk A220
    clear A220
    have H' := Aside0.mk H
    clear H
    go_wp2_with (first | ((with_reducible refine gate_callee (f := 99) rfl ?_); refine goesL_ (some 36) rfl rfl Try.func99 (by kernel_rfl) rfl #[.slice A1 l1.length c1] rfl (by (try simp only [List.map_toArray, List.map_cons, List.map_nil]); first | done | rfl | (simp only [List.length_drop, List.length_take]; rfl)) ?_; (with_reducible refine (slices_Clone_int_int.calls _ _ l1 t300 _ ?side1 ?side2 A22.out).mono ?_); (case side1 => exact (Kd.C_below HR1.out HB.out)); (case side2 => exact HC1.out); rintro e w23 ⟨v301, rfl, ho0, hb⟩; refine ⟨_, rfl, ?_⟩; replace HO298 := Aside0.mk (Kd.R_below HO298.out hb); have HO302 := Aside0.mk (Kd.R_lower ho0 (below_size (by repeat (first | (with_reducible first | exact HB.out | apply below_alloc | apply pw_below_drewN | apply below_drew1 | refine below_set ?_ GE293.out) | exact HB.out)))); replace BK293 := Aside0.mk (blk_below (g := gb293) (o := .cells #[.int .i64 a0_0, .slice A0_1 l0_1.length c0_1] 24 (0, 0)) BK293.out hb); replace HB := Aside0.mk (below_step (by repeat (first | (with_reducible first | exact HB.out | apply below_alloc | apply pw_below_drewN | apply below_drew1 | refine below_set ?_ GE293.out) | exact HB.out)) hb); (try clear hb); (try clear hb2); (try clear hk); (try clear hi); (try clear ho0); have hcz24_0 : w23.cell? ⟨gb293, 0, none⟩ = some (.int .i64 a0_0) := (blk_cell BK293.out 0).trans rfl; have hcz24_1 : w23.cell? ⟨gb293, 1, none⟩ = some (.slice A0_1 l0_1.length c0_1) := (blk_cell BK293.out 1).trans rfl; have hfz24_0 := blk_frozen BK293.out 0; have hfz24_1 := blk_frozen BK293.out 1))
    go_loopg [40] kj4 (fun kq v40 w' => ∃ (x11_2 : List Int) (x40_2 : Int), v40 = .int .i64 x40_2 ∧ Aside0 (diffs_CheckFlow.l0 kq a2 l3 x11_2 l0_1 (l0_1.length : Int) x40_2 a0_0 l0_1 = some r) ∧ Aside0 (kq ≤ kj4) ∧ Aside0 (Kd.R (Kd.int .i64) 3 w' w.heap.size (fun _ => True) v301 x11_2) ∧ Aside0 (w'.heap[gb293]? = some (.cells #[.int .i64 a0_0, (.slice A0_1 l0_1.length c0_1)] 24 (0, 0))) ∧ Aside0 (Below w.heap.size w w'))
    case atStart => exact ⟨(t300), (0), (by first | rfl | (simp; done) | (simp [*]; done)), H', ⟨Nat.le_refl _⟩, ⟨HO302.out⟩, ⟨BK293.out⟩, ⟨by repeat (first | (with_reducible first | exact HB.out | apply below_alloc | apply pw_below_drewN | apply below_drew1 | refine below_set ?_ GE293.out) | exact HB.out)⟩⟩
    case round =>
     clear H'
     (try clear c1); (try clear c2); (try clear p2); (try clear c3); (try clear c4); (try clear c7); (try clear c7b0); (try clear c7b1); (try clear c7b2); (try clear c9); (try clear c21); (try clear c21b0); (try clear c21b1); (try clear hcz11_0); (try clear hcz11_1); (try clear hcz24_0); (try clear hcz24_1); (try clear hcz9_0); (try clear hcz9_1); (try clear hfz11_0); (try clear hfz11_1); (try clear hfz24_0); (try clear hfz24_1); (try clear hfz9_0); (try clear hfz9_1); (try clear p2)
     obtain ⟨x11_2, x40_2, rfl, HA, HK2, HO_11, BK293, HB⟩ := hrel
     cases gk with
     | zero => exact absurd HA.out (by simp [diffs_CheckFlow.l0])
     | succ k2 =>
      have H := HA.out
      clear HA
      simp only [diffs_CheckFlow.l0] at H
      by_cases c25 : x40_2 < (l0_1.length : Int)
      ·rw [if_pos c25] at H
       have c25b0 : decide (x40_2 < (l0_1.length : Int)) = true := decide_eq_true c25
       clear c25
       by_cases c26 : 0 ≤ x40_2
       ·rw [if_pos c26] at H
        have c26b0 : decide (0 ≤ x40_2) = true := decide_eq_true c26
        clear c26
        by_cases c27 : x40_2 < (l0_1.length : Int)
        ·rw [if_pos c27] at H
         have c27b0 : decide (x40_2 < (l0_1.length : Int)) = true := decide_eq_true c27
         clear c27
         by_cases c28 : 0 ≤ ((rd_T39 l0_1 x40_2).f1)
         ·rw [if_pos c28] at H
          have c28b0 : decide (0 ≤ ((rd_T39 l0_1 x40_2).f1)) = true := decide_eq_true c28
          clear c28
          by_cases c29 : ((rd_T39 l0_1 x40_2).f1) < (x11_2.length : Int)
          ·rw [if_pos c29] at H
           have c29b0 : decide (((rd_T39 l0_1 x40_2).f1) < (x11_2.length : Int)) = true := decide_eq_true c29
           clear c29
           by_cases c30 : x40_2 < (l3.length : Int)
           ·rw [if_pos c30] at H
            have c30b0 : decide (x40_2 < (l3.length : Int)) = true := decide_eq_true c30
            clear c30
            obtain ⟨y307, hy307⟩ : ∃ y_ : List Int, y_ = (x11_2.set (((rd_T39 l0_1 x40_2).f1) : Int).toNat (wrap64 ((rd x11_2 ((rd_T39 l0_1 x40_2).f1)) - (rd l3 x40_2)))) := ⟨_, rfl⟩
            replace H : (if 0 ≤ ((rd_T39 l0_1 x40_2).f0) then (if ((rd_T39 l0_1 x40_2).f0) < (x11_2.length : Int) then (diffs_CheckFlow.l0 k2 a2 l3 (y307.set (((rd_T39 l0_1 x40_2).f0) : Int).toNat (wrap64 ((rd y307 ((rd_T39 l0_1 x40_2).f0)) + (rd l3 x40_2)))) l0_1 (l0_1.length : Int) (wrap64 (x40_2 + 1)) a0_0 l0_1) else (none)) else (none)) = some r := by first | (rw [hy307]; with_reducible exact H) | (have H2_ := (Option.bind_some _ _).symm.trans H; rw [hy307]; with_reducible exact H2_) | (have H2_ := (Option.bind_some _ _).symm.trans H; with_reducible exact H2_) | with_reducible exact H | (rw [hy307]; exact H) | exact H
            have Ny307 := Aside0.mk hy307
            clear hy307
            by_cases c32 : 0 ≤ ((rd_T39 l0_1 x40_2).f0)
            ·rw [if_pos c32] at H
             have c32b0 : decide (0 ≤ ((rd_T39 l0_1 x40_2).f0)) = true := decide_eq_true c32
             clear c32
             by_cases c33 : ((rd_T39 l0_1 x40_2).f0) < (x11_2.length : Int)
             ·rw [if_pos c33] at H
              have c33b0 : decide (((rd_T39 l0_1 x40_2).f0) < (x11_2.length : Int)) = true := decide_eq_true c33
              clear c33
              obtain ⟨y310, hy310⟩ : ∃ y_ : List Int, y_ = (y307.set (((rd_T39 l0_1 x40_2).f0) : Int).toNat (wrap64 ((rd y307 ((rd_T39 l0_1 x40_2).f0)) + (rd l3 x40_2)))) := ⟨_, rfl⟩
              replace H : (diffs_CheckFlow.l0 k2 a2 l3 y310 l0_1 (l0_1.length : Int) (wrap64 (x40_2 + 1)) a0_0 l0_1) = some r := by first | (rw [hy310]; with_reducible exact H) | (have H2_ := (Option.bind_some _ _).symm.trans H; rw [hy310]; with_reducible exact H2_) | (have H2_ := (Option.bind_some _ _).symm.trans H; with_reducible exact H2_) | with_reducible exact H | (rw [hy310]; exact H) | exact H
              have Ny310 := Aside0.mk hy310
              clear hy310
              have H' := Aside0.mk H
              clear H
              have p303 : 0 ≤ (x40_2 : Int) := of_decide_eq_true (by first | (with_reducible assumption) | assumption)
              have q303 : x40_2 < (l0_1.length : Int) := of_decide_eq_true (by first | (with_reducible assumption) | assumption)
              obtain ⟨ad303, e303, hx303_0, hx303_1, hx303_2⟩ := at_T39 HR0_1.out x40_2 p303 q303
              cases e303
              replace hx303_0 := (HB.out.cell (World.block_lt_of_cell? w _ hx303_0)).trans hx303_0
              replace hx303_1 := (HB.out.cell (World.block_lt_of_cell? w _ hx303_1)).trans hx303_1
              replace hx303_2 := (HB.out.cell (World.block_lt_of_cell? w _ hx303_2)).trans hx303_2
              replace p303 := eq_true p303
              replace q303 := eq_true q303
              try go_wp2_with (first | ((with_reducible refine gate_dst (N := 13) rfl ?_); refine box_event ?hg (N := 13) ?hd (cs := #[.int .i64 0, .int .i64 0, .int .i64 0]) (t := 39) ?hr ?_; (case hd => rfl); (case hg => rfl); (case hr => first | (go_simp; done) | (go_simp; rfl)); intro gb304 hg w35 hbox hb; replace HO_11 := Aside0.mk (Kd.R_below HO_11.out hb); have BK304 := Aside0.mk (hbox); have GW304 := Aside0.mk ((by rw [hg]; exact (below_size (by repeat (first | (with_reducible first | exact HB.out | apply below_alloc | apply pw_below_drewN | apply below_drew1 | refine below_set ?_ GE293.out) | exact HB.out))) : w.heap.size ≤ gb304)); have GE304 := Aside0.mk ((by rw [hg]; exact (below_size (by repeat (first | (with_reducible first | exact HB.out | apply below_alloc | apply pw_below_drewN | apply below_drew1 | refine below_set ?_ GE293.out) | exact HB.out))) : w.heap.size ≤ gb304)); replace HB := Aside0.mk (below_step (by repeat (first | (with_reducible first | exact HB.out | apply below_alloc | apply pw_below_drewN | apply below_drew1 | refine below_set ?_ GE293.out) | exact HB.out)) hb); have NB293_304 := Aside0.mk ((by rw [hg]; exact Nat.ne_of_lt (blk_lt (g := gb293) (o := .cells #[.int .i64 a0_0, .slice (some ad303) l0_1.length c0_1] 24 (0, 0)) BK293.out) : gb293 ≠ gb304)); have NB304_293 := Aside0.mk ((by rw [hg]; exact Nat.ne_of_gt (blk_lt (g := gb293) (o := .cells #[.int .i64 a0_0, .slice (some ad303) l0_1.length c0_1] 24 (0, 0)) BK293.out) : gb304 ≠ gb293)); replace BK293 := Aside0.mk (blk_below (g := gb293) (o := .cells #[.int .i64 a0_0, .slice (some ad303) l0_1.length c0_1] 24 (0, 0)) BK293.out hb); clear hb hbox hg; have hnb36 := NB304_293.out; have hnc36 := NB293_304.out; have hcz37_0 : w35.cell? ⟨gb304, 0, none⟩ = some (.int .i64 0) := (blk_cell BK304.out 0).trans rfl; have hcz37_1 : w35.cell? ⟨gb304, 1, none⟩ = some (.int .i64 0) := (blk_cell BK304.out 1).trans rfl; have hcz37_2 : w35.cell? ⟨gb304, 2, none⟩ = some (.int .i64 0) := (blk_cell BK304.out 2).trans rfl; have hfz37_0 := blk_frozen BK304.out 0; have hfz37_1 := blk_frozen BK304.out 1; have hfz37_2 := blk_frozen BK304.out 2))
              have n0_ : Aside0 (Kd.R (Kd.int .i64) 3 (((w35.setCell ⟨gb304, 0, none⟩ (.int .i64 ((rd_T39 l0_1 x40_2).f0))).setCell ⟨gb304, 1, none⟩ (.int .i64 ((rd_T39 l0_1 x40_2).f1))).setCell ⟨gb304, 2, none⟩ (.int .i64 ((rd_T39 l0_1 x40_2).f2))) w.heap.size (fun _ => True) v301 x11_2) := ⟨by (with_reducible repeat (first | apply Kd.R_alloc | apply Kd.R_drewN | apply Kd.R_drew)); exact Kd.R_mono (Kd.R_far (p := ⟨gb304, 2, none⟩) (Kd.R_far (p := ⟨gb304, 1, none⟩) (Kd.R_far (p := ⟨gb304, 0, none⟩) (Kd.R_types HO_11.out BK304.out (by decide)) (fun _ hk => hk.2) (.int .i64 ((rd_T39 l0_1 x40_2).f0))) (fun _ hk => hk.2) (.int .i64 ((rd_T39 l0_1 x40_2).f1))) (fun _ hk => hk.2) (.int .i64 ((rd_T39 l0_1 x40_2).f2))) (fun _ hk => trivial)⟩
              have n1_ : Aside0 ((((w35.setCell ⟨gb304, 0, none⟩ (.int .i64 ((rd_T39 l0_1 x40_2).f0))).setCell ⟨gb304, 1, none⟩ (.int .i64 ((rd_T39 l0_1 x40_2).f1))).setCell ⟨gb304, 2, none⟩ (.int .i64 ((rd_T39 l0_1 x40_2).f2))).heap[gb293]? = some (.cells #[.int .i64 a0_0, .slice (some ad303) l0_1.length c0_1] 24 (0, 0))) := ⟨by (with_reducible repeat (first | refine blk_drewN ?_ _ | refine blk_drew ?_ | refine blk_alloc ?_ _)); refine blk_far ?_ NB293_304.out _; (with_reducible repeat (first | refine blk_drewN ?_ _ | refine blk_drew ?_ | refine blk_alloc ?_ _)); refine blk_far ?_ NB293_304.out _; (with_reducible repeat (first | refine blk_drewN ?_ _ | refine blk_drew ?_ | refine blk_alloc ?_ _)); refine blk_far ?_ NB293_304.out _; (with_reducible repeat (first | refine blk_drewN ?_ _ | refine blk_drew ?_ | refine blk_alloc ?_ _)); exact BK293.out⟩
              have n2_ : Aside0 ((((w35.setCell ⟨gb304, 0, none⟩ (.int .i64 ((rd_T39 l0_1 x40_2).f0))).setCell ⟨gb304, 1, none⟩ (.int .i64 ((rd_T39 l0_1 x40_2).f1))).setCell ⟨gb304, 2, none⟩ (.int .i64 ((rd_T39 l0_1 x40_2).f2))).heap[gb304]? = some (.cells #[.int .i64 ((rd_T39 l0_1 x40_2).f0), .int .i64 ((rd_T39 l0_1 x40_2).f1), .int .i64 ((rd_T39 l0_1 x40_2).f2)] 39 (0, 0))) := ⟨by (with_reducible repeat (first | refine blk_drewN ?_ _ | refine blk_drew ?_ | refine blk_alloc ?_ _)); refine blk_put (cs := #[.int .i64 ((rd_T39 l0_1 x40_2).f0), .int .i64 ((rd_T39 l0_1 x40_2).f1), .int .i64 0]) ?_ 2 _ rfl; (with_reducible repeat (first | refine blk_drewN ?_ _ | refine blk_drew ?_ | refine blk_alloc ?_ _)); refine blk_put (cs := #[.int .i64 ((rd_T39 l0_1 x40_2).f0), .int .i64 0, .int .i64 0]) ?_ 1 _ rfl; (with_reducible repeat (first | refine blk_drewN ?_ _ | refine blk_drew ?_ | refine blk_alloc ?_ _)); refine blk_put (cs := #[.int .i64 0, .int .i64 0, .int .i64 0]) ?_ 0 _ rfl; (with_reducible repeat (first | refine blk_drewN ?_ _ | refine blk_drew ?_ | refine blk_alloc ?_ _)); exact BK304.out⟩
              have n3_ : Aside0 (Below w.heap.size w (((w35.setCell ⟨gb304, 0, none⟩ (.int .i64 ((rd_T39 l0_1 x40_2).f0))).setCell ⟨gb304, 1, none⟩ (.int .i64 ((rd_T39 l0_1 x40_2).f1))).setCell ⟨gb304, 2, none⟩ (.int .i64 ((rd_T39 l0_1 x40_2).f2)))) := ⟨by repeat (first | (with_reducible first | exact HB.out | apply below_alloc | apply pw_below_drewN | apply below_drew1 | refine below_set ?_ GE293.out | refine below_set ?_ GE304.out) | exact HB.out)⟩
              (try clear HO_11)
              (try clear BK293)
              (try clear BK304)
              (try clear HB)
              generalize (((w35.setCell ⟨gb304, 0, none⟩ (.int .i64 ((rd_T39 l0_1 x40_2).f0))).setCell ⟨gb304, 1, none⟩ (.int .i64 ((rd_T39 l0_1 x40_2).f1))).setCell ⟨gb304, 2, none⟩ (.int .i64 ((rd_T39 l0_1 x40_2).f2))) = w38 at n0_ n1_ n2_ n3_ ⊢
              have HO_11 := n0_
              have BK293 := n1_
              have BK304 := n2_
              have HB := n3_
              clear n0_ n1_ n2_ n3_
              replace HO_11 := Aside0.mk (Kd.R_drew HO_11.out)
              replace BK293 := Aside0.mk (blk_drew BK293.out)
              replace BK304 := Aside0.mk (blk_drew BK304.out)
              replace HB := Aside0.mk (below_drew1 HB.out)
              obtain ⟨Ao40, co40, eo40⟩ := Kd.R_slice HO_11.out
              (first | subst eo40 | (injection eo40 with f1_ f2_ f3_; have f4_ := f1_.symm; have f5_ := f3_.symm; clear f1_ f2_ f3_; subst f4_; subst f5_))
              have p305 : 0 ≤ (((rd_T39 l0_1 x40_2).f1) : Int) := of_decide_eq_true (by first | (with_reducible assumption) | assumption)
              have q305 : ((rd_T39 l0_1 x40_2).f1) < (x11_2.length : Int) := of_decide_eq_true (by first | (with_reducible assumption) | assumption)
              obtain ⟨ad305, e305, hx305_0⟩ := Kd.at_int (Kd.R_reads' HO_11.out).2.2 ((rd_T39 l0_1 x40_2).f1) p305 q305
              cases e305
              replace p305 := eq_true p305
              replace q305 := eq_true q305
              have p306 : 0 ≤ (x40_2 : Int) := of_decide_eq_true (by first | (with_reducible assumption) | assumption)
              have q306 : x40_2 < (l3.length : Int) := of_decide_eq_true (by first | (with_reducible assumption) | assumption)
              obtain ⟨ad306, e306, hx306_0⟩ := Kd.at_int HR3.out x40_2 p306 q306
              have hw306_0 := hx306_0
              cases e306
              replace hx306_0 := (HB.out.cell (World.block_lt_of_cell? w _ hx306_0)).trans hx306_0
              replace p306 := eq_true p306
              replace q306 := eq_true q306
              have p31 : 0 ≤ (((rd_T39 l0_1 x40_2).f1) : Int) := of_decide_eq_true (by first | (with_reducible assumption) | assumption)
              have q31 : (((rd_T39 l0_1 x40_2).f1) : Int) < ((x11_2.length : Int) : Int) := of_decide_eq_true (by first | (with_reducible assumption) | assumption)
              obtain ⟨go31, co31, eo31, gb31, gl31, cl31, HG31⟩ := Kd.R_form HO_11.out (by omega)
              (first | cases eo31 | (injection eo31 with ea_ en_ ec_; (first | subst ea_ | (injection ea_ with ea_; subst ea_)); subst ec_; clear en_))
              have GB31 := Aside0.mk gb31
              have GG31 := Aside0.mk HG31
              clear gb31 gl31 HG31
              (first | simp only [add_plain] at hx305_0 | skip)
              obtain ⟨hx31_0, hf31_0⟩ := Kd.R_celln 0 HO_11.out (((rd_T39 l0_1 x40_2).f1) : Int) p31 q31
              replace p31 := eq_true p31
              replace q31 := eq_true q31
              have HP41 := Kd.R_putn HO_11.out (((rd_T39 l0_1 x40_2).f1) : Int) (wrap64 ((rd x11_2 ((rd_T39 l0_1 x40_2).f1)) - (rd l3 x40_2)))
              rw [← Ny307.out] at HP41
              have HQ41 := Aside0.mk HP41
              clear HP41
              refine start_ (n := 12) (S := fun w' => w'.cell? ⟨gb304, 0, none⟩ = some (.int .i64 ((rd_T39 l0_1 x40_2).f0)) ∧ w'.cell? ⟨gb304, 1, none⟩ = some (.int .i64 ((rd_T39 l0_1 x40_2).f1)) ∧ w'.cell? ⟨gb304, 2, none⟩ = some (.int .i64 ((rd_T39 l0_1 x40_2).f2)) ∧ w'.cell? ⟨go31, (((rd_T39 l0_1 x40_2).f1)).toNat, none⟩ = some (.int .i64 (rd x11_2 ((rd_T39 l0_1 x40_2).f1))) ∧ w'.cell? (ad306.add (x40_2).toNat) = some (.int .i64 (rd l3 x40_2))) (ds := [11]) #[false, false, false, false, false, false, false, false, false, false, false, false] (by kernel_rfl) rfl rfl ⟨(blk_cell BK304.out 0).trans rfl, (blk_cell BK304.out 1).trans rfl, (blk_cell BK304.out 2).trans rfl, hx305_0, ((HB.out.cell (World.block_lt_of_cell? w _ hw306_0)).trans hw306_0)⟩ (fun hHeld => ?_); refine with_tabW diffs_CheckFlow.tab9 diffs_CheckFlow.bits9 (fun HT_ HW_ => ?_)
              generalize w38.drew = w39 at HO_11 BK293 BK304 HB GG31 HQ41 hf31_0 hx305_0 hx306_0 hx31_0 hHeld ⊢
              refine pure_ (i := 0) (N := some 45) (v := ?_) (a' := ?_) #[true, false, false, false, false, false, false, false, false, false, false, false] rfl rfl (any_of HT_.out (by kernel_rfl)) (fun _ _ _ h => h) (Or.inl ⟨by rfl, ?_⟩) ?_ ?_
              rotate_left
              ·intro w'; go_simp; with_reducible rfl
              rotate_left
              ·simp only [Act.put, List.setIfInBounds_toArray, List.set_cons_zero, List.set_cons_succ, i64_w]; rfl
              refine pure_ (i := 1) (N := some 46) (v := ?_) (a' := ?_) #[true, true, false, false, false, false, false, false, false, false, false, false] rfl rfl (any_of HT_.out (by kernel_rfl)) (fun _ _ _ h => h) (Or.inl ⟨by rfl, ?_⟩) ?_ ?_
              rotate_left
              ·intro w'; go_simp; with_reducible rfl
              rotate_left
              ·simp only [Act.put, List.setIfInBounds_toArray, List.set_cons_zero, List.set_cons_succ, i64_w]; rfl
              refine pure_ (i := 5) (N := some 50) (v := ?_) (a' := ?_) #[true, true, false, false, false, true, false, false, false, false, false, false] rfl rfl (any_of HT_.out (by kernel_rfl)) (fun _ _ _ h => h) (Or.inl ⟨by rfl, ?_⟩) ?_ ?_
              rotate_left
              ·intro w'; go_simp; with_reducible rfl
              rotate_left
              ·simp only [Act.put, List.setIfInBounds_toArray, List.set_cons_zero, List.set_cons_succ, i64_w]; rfl
              refine pure_ (i := 6) (N := some 51) (v := ?_) (a' := ?_) #[true, true, false, false, false, true, true, false, false, false, false, false] rfl rfl (any_of HT_.out (by kernel_rfl)) (fun _ _ _ h => h) (Or.inl ⟨by rfl, ?_⟩) ?_ ?_
              rotate_left
              ·intro w'; go_simp; with_reducible rfl
              rotate_left
              ·simp only [Act.put, List.setIfInBounds_toArray, List.set_cons_zero, List.set_cons_succ, i64_w]; rfl
              refine pure_ (i := 7) (N := some 52) (v := ?_) (a' := ?_) #[true, true, false, false, false, true, true, true, false, false, false, false] rfl rfl (any_of HT_.out (by kernel_rfl)) (fun _ _ _ h => h) (Or.inl ⟨by rfl, ?_⟩) ?_ ?_
              rotate_left
              ·intro w'; go_simp; with_reducible rfl
              rotate_left
              ·simp only [Act.put, List.setIfInBounds_toArray, List.set_cons_zero, List.set_cons_succ, i64_w]; rfl
              refine take_ (i := 2) (N := some 47) (v := ?_) (a' := ?_) #[true, true, true, false, false, true, true, true, false, false, false, false] rfl rfl (take_ofW HT_.out HW_.out (by kernel_rfl)) (fun _ _ _ h => h) (Or.inl ⟨by rfl, ?_⟩) hHeld ?_ ?_
              rotate_left
              ·rintro w' ⟨s0, s1, s2, s3, s4⟩; go_simp; with_reducible rfl
              rotate_left
              ·simp only [Act.put, List.setIfInBounds_toArray, List.set_cons_zero, List.set_cons_succ, i64_w]; rfl
              refine pure_ (i := 3) (N := some 48) (v := ?_) (a' := ?_) #[true, true, true, true, false, true, true, true, false, false, false, false] rfl rfl (any_of HT_.out (by kernel_rfl)) (fun _ _ _ h => h) (Or.inl ⟨by rfl, ?_⟩) ?_ ?_
              rotate_left
              ·intro w'; go_simp; with_reducible rfl
              rotate_left
              ·simp only [Act.put, List.setIfInBounds_toArray, List.set_cons_zero, List.set_cons_succ, i64_w]; rfl
              refine take_ (i := 4) (N := some 49) (v := ?_) (a' := ?_) #[true, true, true, true, true, true, true, true, false, false, false, false] rfl rfl (take_ofW HT_.out HW_.out (by kernel_rfl)) (fun _ _ _ h => h) (Or.inl ⟨by rfl, ?_⟩) hHeld ?_ ?_
              rotate_left
              ·rintro w' ⟨s0, s1, s2, s3, s4⟩; go_simp; with_reducible rfl
              rotate_left
              ·simp only [Act.put, List.setIfInBounds_toArray, List.set_cons_zero, List.set_cons_succ, i64_w]; rfl
              refine take_ (i := 8) (N := some 53) (v := ?_) (a' := ?_) #[true, true, true, true, true, true, true, true, true, false, false, false] rfl rfl (take_ofW HT_.out HW_.out (by kernel_rfl)) (fun _ _ _ h => h) (Or.inl ⟨by rfl, ?_⟩) hHeld ?_ ?_
              rotate_left
              ·rintro w' ⟨s0, s1, s2, s3, s4⟩; go_simp; with_reducible rfl
              rotate_left
              ·simp only [Act.put, List.setIfInBounds_toArray, List.set_cons_zero, List.set_cons_succ, i64_w]; rfl
              refine pure_ (i := 9) (N := some 54) (v := ?_) (a' := ?_) #[true, true, true, true, true, true, true, true, true, true, false, false] rfl rfl (any_of HT_.out (by kernel_rfl)) (fun _ _ _ h => h) (Or.inl ⟨by rfl, ?_⟩) ?_ ?_
              rotate_left
              ·intro w'; go_simp; with_reducible rfl
              rotate_left
              ·simp only [Act.put, List.setIfInBounds_toArray, List.set_cons_zero, List.set_cons_succ, i64_w]; rfl
              refine pure_ (i := 10) (N := some 55) (v := ?_) (a' := ?_) #[true, true, true, true, true, true, true, true, true, true, true, false] rfl rfl (any_of HT_.out (by kernel_rfl)) (fun _ _ _ h => h) (Or.inl ⟨by rfl, ?_⟩) ?_ ?_
              rotate_left
              ·intro w'; go_simp; with_reducible rfl
              rotate_left
              ·simp only [Act.put, List.setIfInBounds_toArray, List.set_cons_zero, List.set_cons_succ, i64_w]; rfl
              refine last_ (i := 11) (N := none) #[true, true, true, true, true, true, true, true, true, true, true, true] rfl rfl (one_of HT_.out (by kernel_rfl)) (by decide) (fun K hK => ?_)
              refine skip_ (w1 := ?_) (by rfl) rfl ?_ ?_
              rotate_left
              ·go_simp
               rfl
              refine hK.out _ _ ?_
              clear hK K
              refine done_ (done_of HT_.out (by kernel_rfl)) ?_
              try go_wp2
              have n0_ : Aside0 (Kd.R (Kd.int .i64) 3 (w39.setCell ⟨go31, (((rd_T39 l0_1 x40_2).f1) : Int).toNat, none⟩ (.int .i64 (wrap64 ((rd x11_2 ((rd_T39 l0_1 x40_2).f1)) - (rd l3 x40_2))))) w.heap.size (fun _ => True) (.slice (some ⟨go31, 0, none⟩) x11_2.length co40) y307) := ⟨HQ41.out⟩
              have n1_ : Aside0 ((w39.setCell ⟨go31, (((rd_T39 l0_1 x40_2).f1) : Int).toNat, none⟩ (.int .i64 (wrap64 ((rd x11_2 ((rd_T39 l0_1 x40_2).f1)) - (rd l3 x40_2))))).heap[gb293]? = some (.cells #[.int .i64 a0_0, .slice (some ad303) l0_1.length c0_1] 24 (0, 0))) := ⟨by (with_reducible repeat (first | refine blk_drewN ?_ _ | refine blk_drew ?_ | refine blk_alloc ?_ _)); refine blk_far ?_ (by have h_ := Kd.R_ne HO_11.out BK293.out (by decide); intro e_; exact h_ (by rw [e_]; rfl)) _; (with_reducible repeat (first | refine blk_drewN ?_ _ | refine blk_drew ?_ | refine blk_alloc ?_ _)); exact BK293.out⟩
              have n2_ : Aside0 ((w39.setCell ⟨go31, (((rd_T39 l0_1 x40_2).f1) : Int).toNat, none⟩ (.int .i64 (wrap64 ((rd x11_2 ((rd_T39 l0_1 x40_2).f1)) - (rd l3 x40_2))))).heap[gb304]? = some (.cells #[.int .i64 ((rd_T39 l0_1 x40_2).f0), .int .i64 ((rd_T39 l0_1 x40_2).f1), .int .i64 ((rd_T39 l0_1 x40_2).f2)] 39 (0, 0))) := ⟨by (with_reducible repeat (first | refine blk_drewN ?_ _ | refine blk_drew ?_ | refine blk_alloc ?_ _)); refine blk_far ?_ (by have h_ := Kd.R_ne HO_11.out BK304.out (by decide); intro e_; exact h_ (by rw [e_]; rfl)) _; (with_reducible repeat (first | refine blk_drewN ?_ _ | refine blk_drew ?_ | refine blk_alloc ?_ _)); exact BK304.out⟩
              have n3_ : Aside0 (Below w.heap.size w (w39.setCell ⟨go31, (((rd_T39 l0_1 x40_2).f1) : Int).toNat, none⟩ (.int .i64 (wrap64 ((rd x11_2 ((rd_T39 l0_1 x40_2).f1)) - (rd l3 x40_2)))))) := ⟨by repeat (first | (with_reducible first | exact HB.out | apply below_alloc | apply pw_below_drewN | apply below_drew1 | refine below_set ?_ GB31.out | refine below_set ?_ GE293.out | refine below_set ?_ GE304.out) | exact HB.out)⟩
              (try clear HO_11)
              (try clear BK293)
              (try clear BK304)
              (try clear HB)
              generalize (w39.setCell ⟨go31, (((rd_T39 l0_1 x40_2).f1) : Int).toNat, none⟩ (.int .i64 (wrap64 ((rd x11_2 ((rd_T39 l0_1 x40_2).f1)) - (rd l3 x40_2))))) = w42 at n0_ n1_ n2_ n3_ ⊢
              have HO_11 := n0_
              have BK293 := n1_
              have BK304 := n2_
              have HB := n3_
              clear n0_ n1_ n2_ n3_
              replace HO_11 := Aside0.mk (Kd.R_drew HO_11.out)
              replace BK293 := Aside0.mk (blk_drew BK293.out)
              replace BK304 := Aside0.mk (blk_drew BK304.out)
              replace HB := Aside0.mk (below_drew1 HB.out)
              have p308 : 0 ≤ (((rd_T39 l0_1 x40_2).f0) : Int) := of_decide_eq_true (by first | (with_reducible assumption) | assumption)
              have q308 : ((rd_T39 l0_1 x40_2).f0) < (y307.length : Int) := (by have h_ : (((rd_T39 l0_1 x40_2).f0) : Int) < ((x11_2.length : Int) : Int) := of_decide_eq_true (by first | (with_reducible assumption) | assumption); first | (have e_ := (Kd.R_reads' HO_11.out).1; omega) | simpa only [Ny307.out, List.length_set] using h_)
              have ql308 : ((((rd_T39 l0_1 x40_2).f0) : Int) < ((x11_2.length : Int) : Int)) = True := eq_true (of_decide_eq_true (by first | (with_reducible assumption) | assumption))
              obtain ⟨ad308, e308, hx308_0⟩ := Kd.at_int (Kd.R_reads' HO_11.out).2.2 ((rd_T39 l0_1 x40_2).f0) p308 q308
              obtain rfl : (⟨go31, 0, none⟩ : Addr) = ad308 := (by injection e308)
              (first | simp only [add_plain] at hx308_0 | simp only [add_at] at hx308_0 | simp only [Addr.add, Nat.zero_add] at hx308_0 | skip)
              replace p308 := eq_true p308
              replace q308 := eq_true q308
              have p309 : 0 ≤ (x40_2 : Int) := of_decide_eq_true (by first | (with_reducible assumption) | assumption)
              have q309 : x40_2 < (l3.length : Int) := of_decide_eq_true (by first | (with_reducible assumption) | assumption)
              obtain ⟨ad309, e309, hx309_0⟩ := Kd.at_int HR3.out x40_2 p309 q309
              have hw309_0 := hx309_0
              obtain rfl : ad306 = ad309 := (by injection e309)
              replace hx309_0 := (HB.out.cell (World.block_lt_of_cell? w _ hx309_0)).trans hx309_0
              replace p309 := eq_true p309
              replace q309 := eq_true q309
              have p34 : 0 ≤ (((rd_T39 l0_1 x40_2).f0) : Int) := of_decide_eq_true (by first | (with_reducible assumption) | assumption)
              have q34 : (((rd_T39 l0_1 x40_2).f0) : Int) < ((x11_2.length : Int) : Int) := of_decide_eq_true (by first | (with_reducible assumption) | assumption)
              obtain ⟨hx34_0, hf34_0⟩ := Kd.R_celln 0 HO_11.out (((rd_T39 l0_1 x40_2).f0) : Int) p34 q34
              replace p34 := eq_true p34
              replace q34 := eq_true q34
              have HP44 := Kd.R_putn HO_11.out (((rd_T39 l0_1 x40_2).f0) : Int) (wrap64 ((rd y307 ((rd_T39 l0_1 x40_2).f0)) + (rd l3 x40_2)))
              rw [← Ny310.out] at HP44
              have HQ44 := Aside0.mk HP44
              clear HP44
              refine start_ (n := 12) (S := fun w' => w'.cell? ⟨gb304, 0, none⟩ = some (.int .i64 ((rd_T39 l0_1 x40_2).f0)) ∧ w'.cell? ⟨gb304, 1, none⟩ = some (.int .i64 ((rd_T39 l0_1 x40_2).f1)) ∧ w'.cell? ⟨gb304, 2, none⟩ = some (.int .i64 ((rd_T39 l0_1 x40_2).f2)) ∧ w'.cell? ⟨go31, (((rd_T39 l0_1 x40_2).f0)).toNat, none⟩ = some (.int .i64 (rd y307 ((rd_T39 l0_1 x40_2).f0))) ∧ w'.cell? (ad306.add (x40_2).toNat) = some (.int .i64 (rd l3 x40_2))) (ds := [11]) #[false, false, false, false, false, false, false, false, false, false, false, false] (by kernel_rfl) rfl rfl ⟨(blk_cell BK304.out 0).trans rfl, (blk_cell BK304.out 1).trans rfl, (blk_cell BK304.out 2).trans rfl, hx308_0, ((HB.out.cell (World.block_lt_of_cell? w _ hw309_0)).trans hw309_0)⟩ (fun hHeld => ?_); refine with_tabW diffs_CheckFlow.tab10 diffs_CheckFlow.bits10 (fun HT_ HW_ => ?_)
              generalize w42.drew = w43 at HO_11 BK293 BK304 HB HQ41 HQ44 hf34_0 hx308_0 hx309_0 hx34_0 hHeld ⊢
              refine pure_ (i := 0) (N := some 56) (v := ?_) (a' := ?_) #[true, false, false, false, false, false, false, false, false, false, false, false] rfl rfl (any_of HT_.out (by kernel_rfl)) (fun _ _ _ h => h) (Or.inl ⟨by rfl, ?_⟩) ?_ ?_
              rotate_left
              ·intro w'; go_simp; with_reducible rfl
              rotate_left
              ·simp only [Act.put, List.setIfInBounds_toArray, List.set_cons_zero, List.set_cons_succ, i64_w]; rfl
              refine pure_ (i := 1) (N := some 57) (v := ?_) (a' := ?_) #[true, true, false, false, false, false, false, false, false, false, false, false] rfl rfl (any_of HT_.out (by kernel_rfl)) (fun _ _ _ h => h) (Or.inl ⟨by rfl, ?_⟩) ?_ ?_
              rotate_left
              ·intro w'; go_simp; with_reducible rfl
              rotate_left
              ·simp only [Act.put, List.setIfInBounds_toArray, List.set_cons_zero, List.set_cons_succ, i64_w]; rfl
              refine pure_ (i := 5) (N := some 61) (v := ?_) (a' := ?_) #[true, true, false, false, false, true, false, false, false, false, false, false] rfl rfl (any_of HT_.out (by kernel_rfl)) (fun _ _ _ h => h) (Or.inl ⟨by rfl, ?_⟩) ?_ ?_
              rotate_left
              ·intro w'; go_simp; with_reducible rfl
              rotate_left
              ·simp only [Act.put, List.setIfInBounds_toArray, List.set_cons_zero, List.set_cons_succ, i64_w]; rfl
              refine pure_ (i := 6) (N := some 62) (v := ?_) (a' := ?_) #[true, true, false, false, false, true, true, false, false, false, false, false] rfl rfl (any_of HT_.out (by kernel_rfl)) (fun _ _ _ h => h) (Or.inl ⟨by rfl, ?_⟩) ?_ ?_
              rotate_left
              ·intro w'; go_simp; with_reducible rfl
              rotate_left
              ·simp only [Act.put, List.setIfInBounds_toArray, List.set_cons_zero, List.set_cons_succ, i64_w]; rfl
              refine pure_ (i := 7) (N := some 63) (v := ?_) (a' := ?_) #[true, true, false, false, false, true, true, true, false, false, false, false] rfl rfl (any_of HT_.out (by kernel_rfl)) (fun _ _ _ h => h) (Or.inl ⟨by rfl, ?_⟩) ?_ ?_
              rotate_left
              ·intro w'; go_simp; with_reducible rfl
              rotate_left
              ·simp only [Act.put, List.setIfInBounds_toArray, List.set_cons_zero, List.set_cons_succ, i64_w]; rfl
              refine take_ (i := 2) (N := some 58) (v := ?_) (a' := ?_) #[true, true, true, false, false, true, true, true, false, false, false, false] rfl rfl (take_ofW HT_.out HW_.out (by kernel_rfl)) (fun _ _ _ h => h) (Or.inl ⟨by rfl, ?_⟩) hHeld ?_ ?_
              rotate_left
              ·rintro w' ⟨s0, s1, s2, s3, s4⟩; go_simp; with_reducible rfl
              rotate_left
              ·simp only [Act.put, List.setIfInBounds_toArray, List.set_cons_zero, List.set_cons_succ, i64_w]; rfl
              refine pure_ (i := 3) (N := some 59) (v := ?_) (a' := ?_) #[true, true, true, true, false, true, true, true, false, false, false, false] rfl rfl (any_of HT_.out (by kernel_rfl)) (fun _ _ _ h => h) (Or.inl ⟨by rfl, ?_⟩) ?_ ?_
              rotate_left
              ·intro w'; go_simp; with_reducible rfl
              rotate_left
              ·simp only [Act.put, List.setIfInBounds_toArray, List.set_cons_zero, List.set_cons_succ, i64_w]; rfl
              refine take_ (i := 4) (N := some 60) (v := ?_) (a' := ?_) #[true, true, true, true, true, true, true, true, false, false, false, false] rfl rfl (take_ofW HT_.out HW_.out (by kernel_rfl)) (fun _ _ _ h => h) (Or.inl ⟨by rfl, ?_⟩) hHeld ?_ ?_
              rotate_left
              ·rintro w' ⟨s0, s1, s2, s3, s4⟩; go_simp; with_reducible rfl
              rotate_left
              ·simp only [Act.put, List.setIfInBounds_toArray, List.set_cons_zero, List.set_cons_succ, i64_w]; rfl
              refine take_ (i := 8) (N := some 64) (v := ?_) (a' := ?_) #[true, true, true, true, true, true, true, true, true, false, false, false] rfl rfl (take_ofW HT_.out HW_.out (by kernel_rfl)) (fun _ _ _ h => h) (Or.inl ⟨by rfl, ?_⟩) hHeld ?_ ?_
              rotate_left
              ·rintro w' ⟨s0, s1, s2, s3, s4⟩; go_simp; with_reducible rfl
              rotate_left
              ·simp only [Act.put, List.setIfInBounds_toArray, List.set_cons_zero, List.set_cons_succ, i64_w]; rfl
              refine pure_ (i := 9) (N := some 65) (v := ?_) (a' := ?_) #[true, true, true, true, true, true, true, true, true, true, false, false] rfl rfl (any_of HT_.out (by kernel_rfl)) (fun _ _ _ h => h) (Or.inl ⟨by rfl, ?_⟩) ?_ ?_
              rotate_left
              ·intro w'; go_simp; with_reducible rfl
              rotate_left
              ·simp only [Act.put, List.setIfInBounds_toArray, List.set_cons_zero, List.set_cons_succ, i64_w]; rfl
              refine pure_ (i := 10) (N := some 66) (v := ?_) (a' := ?_) #[true, true, true, true, true, true, true, true, true, true, true, false] rfl rfl (any_of HT_.out (by kernel_rfl)) (fun _ _ _ h => h) (Or.inl ⟨by rfl, ?_⟩) ?_ ?_
              rotate_left
              ·intro w'; go_simp; with_reducible rfl
              rotate_left
              ·simp only [Act.put, List.setIfInBounds_toArray, List.set_cons_zero, List.set_cons_succ, i64_w]; rfl
              refine last_ (i := 11) (N := none) #[true, true, true, true, true, true, true, true, true, true, true, true] rfl rfl (one_of HT_.out (by kernel_rfl)) (by decide) (fun K hK => ?_)
              refine skip_ (w1 := ?_) (by rfl) rfl ?_ ?_
              rotate_left
              ·go_simp
               rfl
              refine hK.out _ _ ?_
              clear hK K
              refine done_ (done_of HT_.out (by kernel_rfl)) ?_
              try go_wp2
              go_roundg k2
              case measure => have := HJ4.out; have := HK2.out; omega
              case rel => exact ⟨(y310), (wrap64 (x40_2 + 1)), (by first | rfl | (simp; done) | (simp [*]; done)), H', ⟨by have := HJ4.out; have := HK2.out; omega⟩, ⟨HQ44.out⟩, ⟨by (with_reducible repeat (first | refine blk_drewN ?_ _ | refine blk_drew ?_ | refine blk_alloc ?_ _)); refine blk_far ?_ (by have h_ := Kd.R_ne HO_11.out BK293.out (by decide); intro e_; exact h_ (by rw [e_]; rfl)) _; (with_reducible repeat (first | refine blk_drewN ?_ _ | refine blk_drew ?_ | refine blk_alloc ?_ _)); exact BK293.out⟩, ⟨by repeat (first | (with_reducible first | exact HB.out | apply below_alloc | apply pw_below_drewN | apply below_drew1 | refine below_set ?_ GB31.out | refine below_set ?_ GE293.out | refine below_set ?_ GE304.out) | exact HB.out)⟩⟩
             ·rw [if_neg c33] at H
              exact absurd H (by simp)
            ·rw [if_neg c32] at H
             exact absurd H (by simp)
           ·rw [if_neg c30] at H
            exact absurd H (by simp)
          ·rw [if_neg c29] at H
           exact absurd H (by simp)
         ·rw [if_neg c28] at H
          exact absurd H (by simp)
        ·rw [if_neg c27] at H
         exact absurd H (by simp)
       ·rw [if_neg c26] at H
        exact absurd H (by simp)
      ·rw [if_neg c25] at H
       have c25b0 : decide (x40_2 < (l0_1.length : Int)) = false := decide_eq_false c25
       clear c25
       by_cases c45 : 0 < (x11_2.length : Int)
       ·rw [if_pos c45] at H
        have c45b0 : decide (0 < (x11_2.length : Int)) = true := decide_eq_true c45
        have c45b1 : decide (0 < x11_2.length) = true := decide_eq_true (by omega)
        clear c45
        obtain ⟨y311, hy311⟩ : ∃ y_ : List Int, y_ = (x11_2.set (0 : Int).toNat 0) := ⟨_, rfl⟩
        replace H : ((cf100.f y311).bind fun t312 => (if t312 = true then (diffs_CheckFlow.j2 k2 true) else ((diffs_cost.f k2 a0_0 l0_1 l3).bind fun t313 => (diffs_CheckFlow.j2 k2 (decide (t313 > a2)))))) = some r := by first | (rw [hy311]; with_reducible exact H) | (have H2_ := (Option.bind_some _ _).symm.trans H; rw [hy311]; with_reducible exact H2_) | (have H2_ := (Option.bind_some _ _).symm.trans H; with_reducible exact H2_) | with_reducible exact H | (rw [hy311]; exact H) | exact H
        have Ny311 := Aside0.mk hy311
        clear hy311
        have HC47 := Aside0.mk H
        clear H
        have p46 : 0 ≤ (0 : Int) := (by omega)
        have q46 : (0 : Int) < ((x11_2.length : Int) : Int) := of_decide_eq_true (by first | (with_reducible assumption) | assumption)
        have qi46 : (0 < x11_2.length) = True := eq_true (by omega)
        obtain ⟨go46, co46, eo46, gb46, gl46, cl46, HG46⟩ := Kd.R_form HO_11.out (by omega)
        (first | cases eo46 | (injection eo46 with ea_ en_ ec_; (first | subst ea_ | (injection ea_ with ea_; subst ea_)); subst ec_; clear en_))
        have GB46 := Aside0.mk gb46
        have GG46 := Aside0.mk HG46
        clear gb46 gl46 HG46
        obtain ⟨hx46_0, hf46_0⟩ := Kd.R_celln 0 HO_11.out (0 : Int) p46 q46
        (try rw [show ((0 : Int)).toNat = 0 from rfl] at hx46_0)
        (try simp only [Nat.reduceMul, Nat.zero_mul, Nat.zero_add, Nat.reduceAdd] at hx46_0)
        (try rw [show ((0 : Int)).toNat = 0 from rfl] at hf46_0)
        (try simp only [Nat.reduceMul, Nat.zero_mul, Nat.zero_add, Nat.reduceAdd] at hf46_0)
        replace p46 := eq_true p46
        replace q46 := eq_true q46
        have HP48 := Kd.R_putg HO_11.out (0 : Int) 0
        go_upto_region 13 with (first | ((with_reducible refine gate_store (t := 3) (p := 69) rfl ?_); refine store_event (t := 3) (p := 69) (v := ?vo_w49) (w1 := (wr.setCell ⟨go46, (0 : Int).toNat, none⟩ (.int .i64 0))) ?hg ?ho ?hn ?hr ?_; (case ho => rfl); (case hg => rfl); (case hn => rfl); (case hr => first | (go_simp; done) | (go_simp; rfl)); intro w49 hw; have hg : wr.grownBy w49 (some go46) := (by rw [hw]; exact HP48.2); have hp_ : Kd.R (Kd.int .i64) 3 w49 w.heap.size (fun _ => True) (.slice (some ⟨go46, 0, none⟩) x11_2.length co46) y311 := (by rw [hw, Ny311.out]; exact HP48.1); clear HP48; replace BK293 := Aside0.mk (blk_grown (g := gb293) (o := .cells #[.int .i64 a0_0, .slice A0_1 l0_1.length c0_1] 24 (0, 0)) BK293.out hg (Kd.R_ne HO_11.out BK293.out (by decide))); replace HO_11 := Aside0.mk (hp_); replace HB := Aside0.mk ((by rw [hw]; exact below_set (HB.out) GB46.out : Below w.heap.size w w49)); clear hg hw hp_))
        (try simp only [Act.put, List.setIfInBounds_toArray, List.set_cons_zero, List.set_cons_succ])
        go_cut [78] (fun v78 wc => ∃ (kq : Nat) (x78_46 : Bool), v78 = .bool x78_46 ∧ Aside0 (diffs_CheckFlow.j2 kq x78_46 = some r) ∧ Aside0 (kq ≤ k2) ∧ Aside0 (wc.heap[gb293]? = some (.cells #[.int .i64 a0_0, (.slice A0_1 l0_1.length c0_1)] 24 (0, 0))) ∧ Aside0 (Below w.heap.size w wc))
        case first =>
         have H := HC47.out
         clear HC47
         replace H := Option.bind_eq_some_iff.mp H
         obtain ⟨t312, A500, H⟩ := H
         replace H : (if t312 = true then (diffs_CheckFlow.j2 k2 true) else ((diffs_cost.f k2 a0_0 l0_1 l3).bind fun t313 => (diffs_CheckFlow.j2 k2 (decide (t313 > a2))))) = some r := H
         have A50 := Aside0.mk A500
         clear A500
         by_cases c51 : t312 = true
         ·subst c51
          have H1 : (diffs_CheckFlow.j2 k2 true) = some r := by rw [if_pos rfl] at H; exact H
          clear H
          have H := H1
          clear H1
          have H' := Aside0.mk H
          clear H
          go_wp2_with (first | ((with_reducible refine gate_callee (f := 57) rfl ?_); refine goesL_ (some 71) rfl rfl Try.func57 (by kernel_rfl) rfl #[.slice (some ⟨go46, 0, none⟩) y311.length co46, .func (.func 100) #[] #[]] rfl (by (try simp only [List.map_toArray, List.map_cons, List.map_nil]); first | done | (rw [show y311.length = x11_2.length from (Kd.R_reads' HO_11.out).1.symm] <;> rfl) | rfl | (simp only [List.length_drop, List.length_take]; rfl)) ?_; (with_reducible refine (cf100.calls _ _ y311 true _ ?side1 ?side2 A50.out).mono ?_); (case side1 => repeat (first | exact (Kd.R_reads' HO_11.out).2.2 | (with_reducible refine Kd.C_alloc ?_ _) | (with_reducible refine Kd.C_drewN ?_ _) | (with_reducible refine Kd.C_drew ?_))); (case side2 => rw [show y311.length = x11_2.length from (Kd.R_reads' HO_11.out).1.symm]; exact (Kd.R_reads' HO_11.out).2.1); rintro e w52 ⟨rfl, hb⟩; refine ⟨_, rfl, ?_⟩; replace HO_11 := Aside0.mk (Kd.R_below HO_11.out hb); replace BK293 := Aside0.mk (blk_below (g := gb293) (o := .cells #[.int .i64 a0_0, .slice A0_1 l0_1.length c0_1] 24 (0, 0)) BK293.out hb); replace HB := Aside0.mk (below_step (by repeat (first | (with_reducible first | exact HB.out | apply below_alloc | apply pw_below_drewN | apply below_drew1 | refine below_set ?_ GE293.out) | exact HB.out)) hb); (try clear hb); (try clear hb2); (try clear hk); (try clear hi)))
          go_meet
          case rel => exact ⟨_, (true), (by first | rfl | (simp; done) | (simp [*]; done)), H', ⟨by have := HJ4.out; have := HK2.out; first | omega | exact Nat.le_refl _⟩, ⟨BK293.out⟩, ⟨by repeat (first | (with_reducible first | exact HB.out | apply below_alloc | apply pw_below_drewN | apply below_drew1 | refine below_set ?_ GE293.out) | exact HB.out)⟩⟩
         ·replace c51 := Bool.eq_false_iff.mpr c51
          subst c51
          have H1 : ((diffs_cost.f k2 a0_0 l0_1 l3).bind fun t313 => (diffs_CheckFlow.j2 k2 (decide (t313 > a2)))) = some r := by rw [if_neg (show ¬ (false = true) by decide)] at H; exact H
          clear H
          have H := H1
          clear H1
          replace H := Option.bind_eq_some_iff.mp H
          obtain ⟨t313, A530, H⟩ := H
          replace H : (diffs_CheckFlow.j2 k2 (decide (t313 > a2))) = some r := H
          have A53 := Aside0.mk A530
          clear A530
          have H' := Aside0.mk H
          clear H
          go_wp2_with (first | ((with_reducible refine gate_callee (f := 57) rfl ?_); refine goesL_ (some 71) rfl rfl Try.func57 (by kernel_rfl) rfl #[.slice (some ⟨go46, 0, none⟩) y311.length co46, .func (.func 100) #[] #[]] rfl (by (try simp only [List.map_toArray, List.map_cons, List.map_nil]); first | done | (rw [show y311.length = x11_2.length from (Kd.R_reads' HO_11.out).1.symm] <;> rfl) | rfl | (simp only [List.length_drop, List.length_take]; rfl)) ?_; (with_reducible refine (cf100.calls _ _ y311 false _ ?side1 ?side2 A50.out).mono ?_); (case side1 => repeat (first | exact (Kd.R_reads' HO_11.out).2.2 | (with_reducible refine Kd.C_alloc ?_ _) | (with_reducible refine Kd.C_drewN ?_ _) | (with_reducible refine Kd.C_drew ?_))); (case side2 => rw [show y311.length = x11_2.length from (Kd.R_reads' HO_11.out).1.symm]; exact (Kd.R_reads' HO_11.out).2.1); rintro e w54 ⟨rfl, hb⟩; refine ⟨_, rfl, ?_⟩; replace HO_11 := Aside0.mk (Kd.R_below HO_11.out hb); replace BK293 := Aside0.mk (blk_below (g := gb293) (o := .cells #[.int .i64 a0_0, .slice A0_1 l0_1.length c0_1] 24 (0, 0)) BK293.out hb); replace HB := Aside0.mk (below_step (by repeat (first | (with_reducible first | exact HB.out | apply below_alloc | apply pw_below_drewN | apply below_drew1 | refine below_set ?_ GE293.out) | exact HB.out)) hb); (try clear hb); (try clear hb2); (try clear hk); (try clear hi); have hcz55_0 : w54.cell? ⟨gb293, 0, none⟩ = some (.int .i64 a0_0) := (blk_cell BK293.out 0).trans rfl; have hcz55_1 : w54.cell? ⟨gb293, 1, none⟩ = some (.slice A0_1 l0_1.length c0_1) := (blk_cell BK293.out 1).trans rfl; have hfz55_0 := blk_frozen BK293.out 0; have hfz55_1 := blk_frozen BK293.out 1) | (go_at_call 80; (with_reducible refine (diffs_cost.calls k2 a0_0 _ _ l0_1 _ _ l3 t313 _ ?side1 ?side2 ?side3 ?side4 A53.out).mono ?_); (case side1 => exact (Kd.C_below HR0_1.out HB.out)); (case side2 => exact HC0_1.out); (case side3 => exact (Kd.C_below HR3.out HB.out)); (case side4 => exact HC3.out); rintro e w56 ⟨rfl, hb⟩; replace HO_11 := Aside0.mk (Kd.R_below HO_11.out hb); replace BK293 := Aside0.mk (blk_below (g := gb293) (o := .cells #[.int .i64 a0_0, .slice A0_1 l0_1.length c0_1] 24 (0, 0)) BK293.out hb); replace HB := Aside0.mk (below_step (by repeat (first | (with_reducible first | exact HB.out | apply below_alloc | apply pw_below_drewN | apply below_drew1 | refine below_set ?_ GE293.out) | exact HB.out)) hb); (try clear hb); (try clear hb2); (try clear hk); (try clear hi)))
          go_meet
          case rel => exact ⟨_, (decide (t313 > a2)), (by first | rfl | (simp; done) | (simp [*]; done)), H', ⟨by have := HJ4.out; have := HK2.out; first | omega | exact Nat.le_refl _⟩, ⟨BK293.out⟩, ⟨by repeat (first | (with_reducible first | exact HB.out | apply below_alloc | apply pw_below_drewN | apply below_drew1 | refine below_set ?_ GE293.out) | exact HB.out)⟩⟩
        case rest =>
         clear HC47
         (try clear c1); (try clear c2); (try clear p2); (try clear c3); (try clear p3); (try clear q3); (try clear hx3); (try clear c4); (try clear p4); (try clear q4); (try clear hx4); (try clear qi4); (try clear hf4); (try clear c5); (try clear p6); (try clear c7); (try clear c7b0); (try clear c7b1); (try clear c7b2); (try clear c9); (try clear c11); (try clear c21); (try clear c21b0); (try clear c21b1); (try clear c25); (try clear c25b0); (try clear c26); (try clear c26b0); (try clear c27); (try clear c27b0); (try clear c28); (try clear c28b0); (try clear c29); (try clear c29b0); (try clear c30); (try clear c30b0); (try clear p30); (try clear q30); (try clear hx30); (try clear p31); (try clear q31); (try clear hx31); (try clear hf31); (try clear c32); (try clear c32b0); (try clear c33); (try clear c33b0); (try clear p34); (try clear q34); (try clear hx34); (try clear hf34); (try clear c36); (try clear c45); (try clear c45b0); (try clear c45b1); (try clear p46); (try clear q46); (try clear hx46); (try clear qi46); (try clear hf46); (try clear c51); (try clear hcz11_0); (try clear hcz11_1); (try clear hcz24_0); (try clear hcz24_1); (try clear hcz37_0); (try clear hcz37_1); (try clear hcz37_2); (try clear hcz55_0); (try clear hcz55_1); (try clear hcz9_0); (try clear hcz9_1); (try clear hfz11_0); (try clear hfz11_1); (try clear hfz24_0); (try clear hfz24_1); (try clear hfz37_0); (try clear hfz37_1); (try clear hfz37_2); (try clear hfz55_0); (try clear hfz55_1); (try clear hfz9_0); (try clear hfz9_1); (try clear hx303_0); (try clear hx303_1); (try clear hx303_2); (try clear hx305_0); (try clear hx306_0); (try clear hx308_0); (try clear hx309_0); (try clear hx31_0); (try clear hx34_0); (try clear hx46_0); (try clear p2); (try clear p303); (try clear p305); (try clear p306); (try clear p308); (try clear p309); (try clear p31); (try clear p34); (try clear p46); (try clear q303); (try clear q305); (try clear q306); (try clear q308); (try clear q309); (try clear q31); (try clear q34); (try clear q46)
         obtain ⟨kq, x78_46, rfl, HA, HJ46, BK293, HB⟩ := hcut
         cases kq with
         | zero => exact absurd HA.out (by simp [diffs_CheckFlow.j2])
         | succ kj46 =>
          have H := HA.out
          clear HA
          simp only [diffs_CheckFlow.j2] at H
          by_cases c57 : x78_46 = true
          ·subst c57
           have H1 : (some 43) = some r := by rw [if_pos rfl] at H; exact H
           clear H
           have H := H1
           clear H1
           obtain rfl := Option.some.inj H
           go_wp2
           go_ret
           exact ⟨by first | rfl | (simp [errW_none, errW_some] <;> rfl) | (simp [*, errW_none, errW_some] <;> rfl), by repeat (first | (with_reducible first | exact HB.out | apply below_alloc | apply pw_below_drewN | apply below_drew1 | refine below_set ?_ GE293.out) | exact HB.out)⟩
          ·replace c57 := Bool.eq_false_iff.mpr c57
           subst c57
           have H1 : (some 0) = some r := by rw [if_neg (show ¬ (false = true) by decide)] at H; exact H
           clear H
           have H := H1
           clear H1
           obtain rfl := Option.some.inj H
           go_wp2
           go_ret
           exact ⟨by first | rfl | (simp [errW_none, errW_some] <;> rfl) | (simp [*, errW_none, errW_some] <;> rfl), by repeat (first | (with_reducible first | exact HB.out | apply below_alloc | apply pw_below_drewN | apply below_drew1 | refine below_set ?_ GE293.out) | exact HB.out)⟩
       ·rw [if_neg c45] at H
        exact absurd H (by simp)
   ·rw [if_neg c21] at H
    have c21b0 : (t299 == 0) = false := beq_eq_false_iff_ne.mpr c21
    have c21b1 : (t299 != 0) = true := bne_iff_ne.mpr c21
    (first | rw [c21b0] | (simp only [i64_w, i32_w]; rw [c21b0]) | skip)
    obtain rfl := Option.some.inj H
    go_wp2
    go_ret
    exact ⟨by first | rfl | (simp [errW_none, errW_some] <;> rfl) | (simp [*, errW_none, errW_some] <;> rfl), by repeat (first | (with_reducible first | exact HB.out | apply below_alloc | apply pw_below_drewN | apply below_drew1 | refine below_set ?_ GE293.out) | exact HB.out)⟩

end Go.Proofs.Ytpolojoeabmhdaa.A
