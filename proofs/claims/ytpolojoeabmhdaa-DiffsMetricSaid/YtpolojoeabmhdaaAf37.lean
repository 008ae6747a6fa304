-- made by wrap.py out of the translation
import Derived.Test.YtpolojoeabmhdaaA0
import Derived.Test.YtpolojoeabmhdaaAf77
import Derived.Test.YtpolojoeabmhdaaAf91
import Derived.Test.YtpolojoeabmhdaaHAll
namespace Go.Proofs.Ytpolojoeabmhdaa.A
open Go.RowKit Go.Proofs.YtpolojoeabmhdaaW.PrintWords Go.Proofs.YtpolojoeabmhdaaW.PrintLast Go.Proofs.YtpolojoeabmhdaaW.PrintMore
attribute [local go_sem] max2_int min2_int max_two min_two max_three min_three max_four min_four
set_option linter.unusedVariables false
set_option linter.unusedSimpArgs false

/-! ### diffs_CheckClash: function 37 -/
mutual
def diffs_CheckClash.j0 : Nat → List Int → Bool → Int → List (S39) → Option (Int)
 | 0, _, _, _, _ => none
 | k + 1, x1, x31, x241000, x241001 => if x31 = true then (some 43) else (if 0 ≤ x241000 then (if (x241000 : Int).toNat ≤ 281474976710656 then (diffs_CheckClash.l0 k x1 (List.replicate (x241000 : Int).toNat false) x1 (x1.length : Int) 0 x241000 x241001) else (none)) else (none))
def diffs_CheckClash.l0 : Nat → List Int → List Bool → List Int → Int → Int → Int → List (S39) → Option (Int)
 | 0, _, _, _, _, _, _, _ => none
 | k + 1, x1, x6, x35, x36, x37, x241000, x241001 => if x37 < x36 then (if 0 ≤ x37 then (if x37 < (x35.length : Int) then (if 0 ≤ (rd x35 x37) then (if (rd x35 x37) < (x241001.length : Int) then (if 0 ≤ ((rd_T39 x241001 (rd x35 x37)).f0) then (if ((rd_T39 x241001 (rd x35 x37)).f0) < (x6.length : Int) then (if rdOf false x6 ((rd_T39 x241001 (rd x35 x37)).f0) = true then (some 43) else (diffs_CheckClash.l0 k x1 (x6.set (((rd_T39 x241001 (rd x35 x37)).f0) : Int).toNat true) x35 x36 (wrap64 (x37 + 1)) x241000 x241001)) else (none)) else (none)) else (none)) else (none)) else (none)) else (none)) else (if 0 < (x1.length : Int) then (if 0 ≤ (rd x1 0) then (if (rd x1 0) < (x241001.length : Int) then ((diffs_walk.f k x241000 x241001 ((rd_T39 x241001 (rd x1 0)).f0) ((rd_T39 x241001 (rd x1 0)).f0) x1).bind fun bt255 => (if bt255.2 = true then (diffs_CheckClash.j2 k (decide (bt255.1 ≥ 0))) else (diffs_CheckClash.j2 k true))) else (none)) else (none)) else (none))
def diffs_CheckClash.j2 : Nat → Bool → Option (Int)
 | 0, _ => none
 | k + 1, x76 => if x76 = true then (some 43) else (some 0)
end
def diffs_CheckClash.f (k : Nat) (a0_0 : Int) (l0_1 : List (S39)) (l1 : List Int) : Option (Int) := (diffs_indices.f a0_0 l0_1 l1).bind fun t241 => ((diffs_asked.f k a0_0 l0_1 (([t241] : List Bool))).bind fun t245 => (if t245 = 0 then (if (l1.length : Int) = 0 then (diffs_CheckClash.j0 k l1 true a0_0 l0_1) else (diffs_CheckClash.j0 k l1 (decide ((l1.length : Int) > a0_0)) a0_0 l0_1)) else (some t245)))
theorem diffs_CheckClash.mono_l : ∀ k, (∀ y0 y1 y2 y3, LeO (diffs_CheckClash.j0 k y0 y1 y2 y3) (diffs_CheckClash.j0 (k + 1) y0 y1 y2 y3)) ∧ (∀ y0 y1 y2 y3 y4 y5 y6, LeO (diffs_CheckClash.l0 k y0 y1 y2 y3 y4 y5 y6) (diffs_CheckClash.l0 (k + 1) y0 y1 y2 y3 y4 y5 y6)) ∧ (∀ y0, LeO (diffs_CheckClash.j2 k y0) (diffs_CheckClash.j2 (k + 1) y0))
 | 0 => ⟨fun _ _ _ _ r h => by simp [diffs_CheckClash.j0] at h, fun _ _ _ _ _ _ _ r h => by simp [diffs_CheckClash.l0] at h, fun _ r h => by simp [diffs_CheckClash.j2] at h⟩
 | k + 1 => by
  obtain ⟨ih0, ih1, ih2⟩ := diffs_CheckClash.mono_l k
  refine ⟨?_, ?_, ?_⟩
  ·intro y0 y1 y2 y3
   unfold diffs_CheckClash.j0
   repeat' first
   | (with_reducible exact ih0 _ _ _ _)
   | (with_reducible exact ih1 _ _ _ _ _ _ _)
   | (with_reducible exact ih2 _)
   | (with_reducible exact diffs_asked.mono _ _ _ _)
   | (with_reducible exact diffs_walk.mono _ _ _ _ _ _)
   | (with_reducible exact LeO.refl _)
   | (with_reducible exact LeO.none _)
   | (with_reducible refine LeO.ite ?_ ?_)
   | (with_reducible refine LeO.bind ?_ (fun _ => ?_))
   | exact ih0 _ _ _ _
   | exact ih1 _ _ _ _ _ _ _
   | exact ih2 _
   | exact diffs_asked.mono _ _ _ _
   | exact diffs_walk.mono _ _ _ _ _ _
   | exact LeO.none _
   | refine LeO.ite ?_ ?_
   | refine LeO.bind ?_ (fun _ => ?_)
  ·intro y0 y1 y2 y3 y4 y5 y6
   unfold diffs_CheckClash.l0
   repeat' first
   | (with_reducible exact ih0 _ _ _ _)
   | (with_reducible exact ih1 _ _ _ _ _ _ _)
   | (with_reducible exact ih2 _)
   | (with_reducible exact diffs_asked.mono _ _ _ _)
   | (with_reducible exact diffs_walk.mono _ _ _ _ _ _)
   | (with_reducible exact LeO.refl _)
   | (with_reducible exact LeO.none _)
   | (with_reducible refine LeO.ite ?_ ?_)
   | (with_reducible refine LeO.bind ?_ (fun _ => ?_))
   | exact ih0 _ _ _ _
   | exact ih1 _ _ _ _ _ _ _
   | exact ih2 _
   | exact diffs_asked.mono _ _ _ _
   | exact diffs_walk.mono _ _ _ _ _ _
   | exact LeO.none _
   | refine LeO.ite ?_ ?_
   | refine LeO.bind ?_ (fun _ => ?_)
  ·intro y0
   unfold diffs_CheckClash.j2
   repeat' first
   | (with_reducible exact ih0 _ _ _ _)
   | (with_reducible exact ih1 _ _ _ _ _ _ _)
   | (with_reducible exact ih2 _)
   | (with_reducible exact diffs_asked.mono _ _ _ _)
   | (with_reducible exact diffs_walk.mono _ _ _ _ _ _)
   | (with_reducible exact LeO.refl _)
   | (with_reducible exact LeO.none _)
   | (with_reducible refine LeO.ite ?_ ?_)
   | (with_reducible refine LeO.bind ?_ (fun _ => ?_))
   | exact ih0 _ _ _ _
   | exact ih1 _ _ _ _ _ _ _
   | exact ih2 _
   | exact diffs_asked.mono _ _ _ _
   | exact diffs_walk.mono _ _ _ _ _ _
   | exact LeO.none _
   | refine LeO.ite ?_ ?_
   | refine LeO.bind ?_ (fun _ => ?_)
theorem diffs_CheckClash.mono : ∀ a0 a1 a2 k, LeO (diffs_CheckClash.f k a0 a1 a2) (diffs_CheckClash.f (k + 1) a0 a1 a2) := by
 intro a0 a1 a2 k
 obtain ⟨ih0, ih1, ih2⟩ := diffs_CheckClash.mono_l k
 unfold diffs_CheckClash.f
 repeat' first
   | (with_reducible exact ih0 _ _ _ _)
   | (with_reducible exact ih1 _ _ _ _ _ _ _)
   | (with_reducible exact ih2 _)
   | (with_reducible exact diffs_asked.mono _ _ _ _)
   | (with_reducible exact diffs_walk.mono _ _ _ _ _ _)
   | (with_reducible exact LeO.refl _)
   | (with_reducible exact LeO.none _)
   | (with_reducible refine LeO.ite ?_ ?_)
   | (with_reducible refine LeO.bind ?_ (fun _ => ?_))
   | exact ih0 _ _ _ _
   | exact ih1 _ _ _ _ _ _ _
   | exact ih2 _
   | exact diffs_asked.mono _ _ _ _
   | exact diffs_walk.mono _ _ _ _ _ _
   | exact LeO.none _
   | refine LeO.ite ?_ ?_
   | refine LeO.bind ?_ (fun _ => ?_)
def diffs_CheckClash.T15 : Bool × List (List Nat × List Nat) := (true, [([], []), ([0], [0]), ([], []), ([2], [2]), ([3], [3]), ([1, 4], [1, 4]), ([5], [5]), ([6], [6]), ([7, 0, 1, 2, 3, 4, 5, 6, 7], [7])])
def diffs_CheckClash.B15 : List Nat := [0, 1, 0, 4, 12, 31, 63, 127, 255]
theorem diffs_CheckClash.tab15 : rtab .any (opsOf Try.f37 15) = diffs_CheckClash.T15 := by kernel_rfl
theorem diffs_CheckClash.bits15 : waitsOk diffs_CheckClash.T15.2 diffs_CheckClash.B15 = true := by kernel_rfl
set_option maxHeartbeats 8000000 in
set_option maxRecDepth 100000 in
theorem diffs_CheckClash.calls (k : Nat) (a0_0 : Int) (A0_1 : Option Addr) (c0_1 : Nat) (l0_1 : List (S39)) (A1 : Option Addr) (c1 : Nat) (l1 : List Int) (r : Int) (w : World) (hr0_1 : Kd.C k39 w A0_1 l0_1.length l0_1) (hc0_1 : l0_1.length ≤ c0_1) (hr1 : Kd.C (Kd.int .i64) w A1 l1.length l1) (hc1 : l1.length ≤ c1) (h : diffs_CheckClash.f k a0_0 l0_1 l1 = some r) :
  Calls Try.prog 37 #[.agg #[.int .i64 a0_0, .slice A0_1 l0_1.length c0_1], .slice A1 l1.length c1] w fun e w' => e = .returned (.int .i64 r) ∧ Below w.heap.size w w' := by
 have hu24 := Try.underlying24
 have HR0_1 := Aside0.mk hr0_1
 have HC0_1 := Aside0.mk hc0_1
 clear hr0_1 hc0_1
 have HR1 := Aside0.mk hr1
 have HC1 := Aside0.mk hc1
 clear hr1 hc1
 have HB := Aside0.mk (Below.refl w.heap.size w)
 have H : ((diffs_indices.f a0_0 l0_1 l1).bind fun t241 => ((diffs_asked.f k a0_0 l0_1 (([t241] : List Bool))).bind fun t245 => (if t245 = 0 then (if (l1.length : Int) = 0 then (diffs_CheckClash.j0 k l1 true a0_0 l0_1) else (diffs_CheckClash.j0 k l1 (decide ((l1.length : Int) > a0_0)) a0_0 l0_1)) else (some t245)))) = some r := h
 clear h
 replace H := Option.bind_eq_some_iff.mp H
 obtain ⟨t241, A30, H⟩ := H
 replace H : ((diffs_asked.f k a0_0 l0_1 (([t241] : List Bool))).bind fun t245 => (if t245 = 0 then (if (l1.length : Int) = 0 then (diffs_CheckClash.j0 k l1 true a0_0 l0_1) else (diffs_CheckClash.j0 k l1 (decide ((l1.length : Int) > a0_0)) a0_0 l0_1)) else (some t245))) = some r := H
 have A3 := Aside0.mk A30
 clear A30
 obtain ⟨y242, hy242⟩ : ∃ y_ : List Bool, y_ = (([t241] : List Bool)) := ⟨_, rfl⟩
 replace H : ((diffs_asked.f k a0_0 l0_1 y242).bind fun t245 => (if t245 = 0 then (if (l1.length : Int) = 0 then (diffs_CheckClash.j0 k l1 true a0_0 l0_1) else (diffs_CheckClash.j0 k l1 (decide ((l1.length : Int) > a0_0)) a0_0 l0_1)) else (some t245))) = some r := by first | (rw [hy242]; with_reducible exact H) | (have H2_ := (Option.bind_some _ _).symm.trans H; rw [hy242]; with_reducible exact H2_) | (have H2_ := (Option.bind_some _ _).symm.trans H; with_reducible exact H2_) | with_reducible exact H | (rw [hy242]; exact H) | exact H
 have Ny242 := Aside0.mk hy242
 clear hy242
 replace H := Option.bind_eq_some_iff.mp H
 obtain ⟨t245, A40, H⟩ := H
 replace H : (if t245 = 0 then (if (l1.length : Int) = 0 then (diffs_CheckClash.j0 k l1 true a0_0 l0_1) else (diffs_CheckClash.j0 k l1 (decide ((l1.length : Int) > a0_0)) a0_0 l0_1)) else (some t245)) = some r := H
 have A4 := Aside0.mk A40
 clear A40
 have HF5 := Aside0.mk H
 clear H
 go_enter Try.func37, Try.ntmps37
 try go_wp2_with (first | ((with_reducible refine gate_dst (N := 2) rfl ?_); (try (refine gate_guard (by rfl) ?_; dsimp only)); refine box_event ?hg (N := 2) ?hd (cs := #[.int .i64 a0_0, .slice A0_1 l0_1.length c0_1]) (t := 24) ?hr ?_; (case hd => rfl); (case hg => rfl); (case hr => first | (go_simp; done) | (go_simp; rfl)); intro gb240 hg w6 hbox hb; have BK240 := Aside0.mk (hbox); have GW240 := Aside0.mk ((by rw [hg]; exact (below_size HB.out) : w.heap.size ≤ gb240)); have GE240 := Aside0.mk ((by rw [hg]; exact (below_size HB.out) : w.heap.size ≤ gb240)); replace HB := Aside0.mk (below_step HB.out hb); clear hb hbox hg))
 replace BK240 := Aside0.mk (blk_drew BK240.out)
 replace HB := Aside0.mk (below_drew1 HB.out)
 refine start_ (n := 7) (S := fun w' => w'.cell? ⟨gb240, 0, none⟩ = some (.int .i64 a0_0) ∧ w'.cell? ⟨gb240, 1, none⟩ = some (.slice A0_1 l0_1.length c0_1)) (ds := []) #[false, false, false, false, false, false, false] (by kernel_rfl) rfl rfl ⟨(blk_cell BK240.out 0).trans rfl, (blk_cell BK240.out 1).trans rfl⟩ (fun hHeld => ?_)
 generalize w6.drew = w7 at BK240 HB hHeld ⊢
 refine pure_ (i := 2) (N := some 15) (v := ?_) (a' := ?_) #[false, false, true, false, false, false, false] rfl rfl (by kernel_rfl) (fun _ _ _ h => h) (Or.inl ⟨by rfl, ?_⟩) ?_ ?_
 rotate_left
 ·intro w'; go_simp; with_reducible rfl
 rotate_left
 ·simp only [Act.put, List.setIfInBounds_toArray, List.set_cons_zero, List.set_cons_succ, i64_w]; rfl
 refine take_ (i := 0) (N := some 13) (v := ?_) (a' := ?_) #[true, false, true, false, false, false, false] rfl rfl (by kernel_rfl) (fun _ _ _ h => h) (Or.inl ⟨by rfl, ?_⟩) hHeld ?_ ?_
 rotate_left
 ·rintro w' ⟨s0, s1⟩; go_simp; with_reducible rfl
 rotate_left
 ·simp only [Act.put, List.setIfInBounds_toArray, List.set_cons_zero, List.set_cons_succ, i64_w]; rfl
 refine take_ (i := 1) (N := some 14) (v := ?_) (a' := ?_) #[true, true, true, false, false, false, false] rfl rfl (by kernel_rfl) (fun _ _ _ h => h) (Or.inl ⟨by rfl, ?_⟩) hHeld ?_ ?_
 rotate_left
 ·rintro w' ⟨s0, s1⟩; go_simp; with_reducible rfl
 rotate_left
 ·simp only [Act.put, List.setIfInBounds_toArray, List.set_cons_zero, List.set_cons_succ, i64_w]; rfl
 refine one_ (i := 3) (N := some 16) #[true, true, true, true, false, false, false] rfl rfl (by kernel_rfl) (by decide) (fun K hK => ?_)
 refine goes_ Try.func90 (by kernel_rfl) rfl #[.agg #[.int .i64 a0_0, .slice A0_1 l0_1.length c0_1], .slice A1 l1.length c1] (by rfl) rfl rfl (by (try simp only [List.map_toArray, List.map_cons, List.map_nil]); first | done | rfl | (simp only [List.length_drop, List.length_take]; rfl)) ?_
 with_reducible refine (diffs_indices.calls a0_0 _ _ l0_1 _ _ l1 t241 _ ?side1 ?side2 ?side3 ?side4 A3.out).mono ?_
 (case side1 => exact (Kd.C_below HR0_1.out HB.out))
 (case side2 => exact HC0_1.out)
 (case side3 => exact (Kd.C_below HR1.out HB.out))
 (case side4 => exact HC1.out)
 rintro e w8 ⟨rfl, hb⟩
 refine ⟨_, rfl, ?_⟩
 replace BK240 := Aside0.mk (blk_below (g := gb240) (o := .cells #[.int .i64 a0_0, .slice A0_1 l0_1.length c0_1] 24 (0, 0)) BK240.out hb)
 replace HB := Aside0.mk (below_step HB.out hb)
 (try clear hb)
 (try clear hb2)
 (try clear hk)
 (try clear hi)
 refine hK.out _ _ ⟨(blk_cell BK240.out 0).trans rfl, (blk_cell BK240.out 1).trans rfl⟩ (fun hHeld => ?_)
 clear hK K
 refine norm_ (a' := ?_) ?_ ?_
 rotate_left
 ·show Act.put _ (some 16) _ = _; simp only [Act.put, List.setIfInBounds_toArray, List.set_cons_zero, List.set_cons_succ, i64_w]; rfl
 refine one_ (i := 4) (N := some 17) #[true, true, true, true, true, false, false] rfl rfl (by kernel_rfl) (by decide) (fun K hK => ?_)
 refine Kd.R_lit_step Kd.bool _ 4 ?hg (N := 17) ?hd (xs := ([t241] : List Bool)) (inner := [.bool t241]) (ok := fun _ => True) (okp := fun _ => True) ?hr ?hp (fun _ hk => hk) trivial (Below.refl _ _) (Nat.le_refl _) (by simp) ?_; (case hd => rfl); (case hg => rfl); (case hr => first | (go_simp; done) | (go_simp; rfl)); (case hp => exact (Reps.one (show Kd.M Kd.bool _ _ _ t241 [.bool t241] from rfl) (Reps.none _ _)))
 intro v243 w9 ho10 hb hg_ hnew_
 clear hg_ hnew_
 (first | rw [← Ny242.out] at ho10 | (simp only [Int.reduceToNat] at ho10; rw [← Ny242.out] at ho10))
 have HO244 := Aside0.mk (Kd.R_lower ho10 (below_size HB.out))
 replace BK240 := Aside0.mk (blk_below (g := gb240) (o := .cells #[.int .i64 a0_0, .slice A0_1 l0_1.length c0_1] 24 (0, 0)) BK240.out hb)
 replace HB := Aside0.mk (below_step HB.out hb)
 clear hb ho10
 obtain ⟨Ao11, co11, eo11⟩ := Kd.R_slice HO244.out
 (first | subst eo11 | (injection eo11 with f1_ f2_ f3_; have f4_ := f1_.symm; have f5_ := f3_.symm; clear f1_ f2_ f3_; subst f4_; subst f5_))
 refine hK.out _ _ ⟨(blk_cell BK240.out 0).trans rfl, (blk_cell BK240.out 1).trans rfl⟩ (fun hHeld => ?_)
 clear hK K
 refine norm_ (a' := ?_) ?_ ?_
 rotate_left
 ·show Act.put _ (some 17) _ = _; simp only [Act.put, List.setIfInBounds_toArray, List.set_cons_zero, List.set_cons_succ, i64_w]; rfl
 refine one_ (i := 5) (N := some 18) #[true, true, true, true, true, true, false] rfl rfl (by kernel_rfl) (by decide) (fun K hK => ?_)
 refine goes_ Try.func77 (by kernel_rfl) rfl #[.agg #[.int .i64 a0_0, .slice A0_1 l0_1.length c0_1], .slice Ao11 y242.length co11] (by rfl) rfl rfl (by (try simp only [List.map_toArray, List.map_cons, List.map_nil]); first | done | rfl | (simp only [List.length_drop, List.length_take]; rfl)) ?_
 with_reducible refine (diffs_asked.calls k a0_0 _ _ l0_1 _ _ y242 t245 _ ?side1 ?side2 ?side3 ?side4 A4.out).mono ?_
 (case side1 => exact (Kd.C_below HR0_1.out HB.out))
 (case side2 => exact HC0_1.out)
 (case side3 => repeat (first | exact (Kd.R_reads' HO244.out).2.2 | (with_reducible refine Kd.C_alloc ?_ _) | (with_reducible refine Kd.C_drewN ?_ _) | (with_reducible refine Kd.C_drew ?_)))
 (case side4 => exact (Kd.R_reads' HO244.out).2.1)
 rintro e w12 ⟨rfl, hb⟩
 refine ⟨_, rfl, ?_⟩
 replace HO244 := Aside0.mk (Kd.R_below HO244.out hb)
 replace BK240 := Aside0.mk (blk_below (g := gb240) (o := .cells #[.int .i64 a0_0, .slice A0_1 l0_1.length c0_1] 24 (0, 0)) BK240.out hb)
 replace HB := Aside0.mk (below_step HB.out hb)
 (try clear hb)
 (try clear hb2)
 (try clear hk)
 (try clear hi)
 refine hK.out _ _ ⟨(blk_cell BK240.out 0).trans rfl, (blk_cell BK240.out 1).trans rfl⟩ (fun hHeld => ?_)
 clear hK K
 refine norm_ (a' := ?_) ?_ ?_
 rotate_left
 ·show Act.put _ (some 18) _ = _; simp only [Act.put, List.setIfInBounds_toArray, List.set_cons_zero, List.set_cons_succ, i64_w]; rfl
 refine pure_ (i := 6) (N := some 5) (v := ?_) (a' := ?_) #[true, true, true, true, true, true, true] rfl rfl (by kernel_rfl) (fun _ _ _ h => h) (Or.inl ⟨by rfl, ?_⟩) ?_ ?_
 rotate_left
 ·intro w'; go_simp; with_reducible rfl
 rotate_left
 ·simp only [Act.put, List.setIfInBounds_toArray, List.set_cons_zero, List.set_cons_succ, i64_w]; rfl
 refine done_ (by kernel_rfl) ?_
 go_upto_if 20 with (fail)
 have H := HF5.out
 clear HF5
 by_cases c13 : t245 = 0
 ·rw [if_pos c13] at H
  have c13b0 : (t245 == 0) = true := beq_iff_eq.mpr c13
  have c13b1 : (t245 != 0) = false := bne_eq_false_iff_eq.mpr c13
  clear c13
  (first | rw [c13b0] | (simp only [i64_w, i32_w]; rw [c13b0]) | skip)
  have HC14 := Aside0.mk H
  clear H
  go_upto_region 4 with (fail)
  go_cut [31] (fun v31 wc => ∃ (kq : Nat) (x31_13 : Bool), v31 = .bool x31_13 ∧ Aside0 (diffs_CheckClash.j0 kq l1 x31_13 a0_0 l0_1 = some r) ∧ Aside0 (kq ≤ k) ∧ Aside0 (wc.heap[gb240]? = some (.cells #[.int .i64 a0_0, (.slice A0_1 l0_1.length c0_1)] 24 (0, 0))) ∧ Aside0 (Below w.heap.size w wc))
  case first =>
   have H := HC14.out
   clear HC14
   by_cases c15 : (l1.length : Int) = 0
   ·rw [if_pos c15] at H
    have c15b0 : ((l1.length : Int) == 0) = true := beq_iff_eq.mpr c15
    have c15b1 : ((l1.length : Int) != 0) = false := bne_eq_false_iff_eq.mpr c15
    clear c15
    (first | rw [c15b0] | (simp only [i64_w, i32_w]; rw [c15b0]) | skip)
    have H' := Aside0.mk H
    clear H
    go_wp2
    go_meet
    case rel => exact ⟨_, (true), (by first | rfl | (simp; done) | (simp [*]; done)), H', ⟨by first | omega | exact Nat.le_refl _⟩, ⟨BK240.out⟩, ⟨HB.out⟩⟩
   ·rw [if_neg c15] at H
    have c15b0 : ((l1.length : Int) == 0) = false := beq_eq_false_iff_ne.mpr c15
    have c15b1 : ((l1.length : Int) != 0) = true := bne_iff_ne.mpr c15
    have c15b2 : ¬ (l1 = []) := fun h_ => c15 (by rw [h_]; rfl)
    (first | rw [c15b0] | (simp only [i64_w, i32_w]; rw [c15b0]) | skip)
    have H' := Aside0.mk H
    clear H
    have hcz16_0 : w12.cell? ⟨gb240, 0, none⟩ = some (.int .i64 a0_0) := (blk_cell BK240.out 0).trans rfl
    have hcz16_1 : w12.cell? ⟨gb240, 1, none⟩ = some (.slice A0_1 l0_1.length c0_1) := (blk_cell BK240.out 1).trans rfl
    have hfz16_0 := blk_frozen BK240.out 0
    have hfz16_1 := blk_frozen BK240.out 1
    go_wp2
    go_meet
    case rel => exact ⟨_, (decide ((l1.length : Int) > a0_0)), (by first | rfl | (simp; done) | (simp [*]; done)), H', ⟨by first | omega | exact Nat.le_refl _⟩, ⟨BK240.out⟩, ⟨HB.out⟩⟩
  case rest =>
   clear HC14
   (try clear c1); (try clear p2); (try clear c3); (try clear c7); (try clear c9); (try clear c13); (try clear c13b0); (try clear c13b1); (try clear c15); (try clear c15b0); (try clear c15b1); (try clear c15b2); (try clear hcz16_0); (try clear hcz16_1); (try clear hfz16_0); (try clear hfz16_1)
   obtain ⟨kq, x31_13, rfl, HA, HJ13, BK240, HB⟩ := hcut
   cases kq with
   | zero => exact absurd HA.out (by simp [diffs_CheckClash.j0])
   | succ kj13 =>
    have H := HA.out
    clear HA
    simp only [diffs_CheckClash.j0] at H
    by_cases c17 : x31_13 = true
    ·subst c17
     have H1 : (some 43) = some r := by rw [if_pos rfl] at H; exact H
     clear H
     have H := H1
     clear H1
     obtain rfl := Option.some.inj H
     go_wp2
     go_ret
     exact ⟨by first | rfl | (simp [errW_none, errW_some] <;> rfl) | (simp [*, errW_none, errW_some] <;> rfl), HB.out⟩
    ·replace c17 := Bool.eq_false_iff.mpr c17
     subst c17
     have H1 : (if 0 ≤ a0_0 then (if (a0_0 : Int).toNat ≤ 281474976710656 then (diffs_CheckClash.l0 kj13 l1 (List.replicate (a0_0 : Int).toNat false) l1 (l1.length : Int) 0 a0_0 l0_1) else (none)) else (none)) = some r := by rw [if_neg (show ¬ (false = true) by decide)] at H; exact H
     clear H
     have H := H1
     clear H1
     by_cases c18 : 0 ≤ a0_0
     ·rw [if_pos c18] at H
      have c18b0 := eq_true c18
      have c18b1 : decide (0 ≤ a0_0) = true := decide_eq_true c18
      clear c18
      by_cases c19 : (a0_0 : Int).toNat ≤ 281474976710656
      ·rw [if_pos c19] at H
       have c19b0 := eq_true c19
       have c19b1 : decide ((a0_0 : Int).toNat ≤ 281474976710656) = true := decide_eq_true c19
       clear c19
       obtain ⟨y246, hy246⟩ : ∃ y_ : List Bool, y_ = (List.replicate (a0_0 : Int).toNat false) := ⟨_, rfl⟩
       replace H : (diffs_CheckClash.l0 kj13 l1 y246 l1 (l1.length : Int) 0 a0_0 l0_1) = some r := by first | (rw [hy246]; with_reducible exact H) | (have H2_ := (Option.bind_some _ _).symm.trans H; rw [hy246]; with_reducible exact H2_) | (have H2_ := (Option.bind_some _ _).symm.trans H; with_reducible exact H2_) | with_reducible exact H | (rw [hy246]; exact H) | exact H
       have Ny246 := Aside0.mk hy246
       clear hy246
       have H' := Aside0.mk H
       clear H
       have hcz20_0 : wc.cell? ⟨gb240, 0, none⟩ = some (.int .i64 a0_0) := (blk_cell BK240.out 0).trans rfl
       have hcz20_1 : wc.cell? ⟨gb240, 1, none⟩ = some (.slice A0_1 l0_1.length c0_1) := (blk_cell BK240.out 1).trans rfl
       have hfz20_0 := blk_frozen BK240.out 0
       have hfz20_1 := blk_frozen BK240.out 1
       go_wp2_with (first | ((with_reducible refine gate_dst (N := 34) rfl ?_); (try (refine gate_guard (by rfl) ?_; dsimp only)); refine Kd.R_make Kd.bool _ 4 rfl (N := 34) rfl 41 _ _ rfl a0_0 rfl rfl Try.underlying41 (.bool false) 1 info4 rfl (by decide) (by omega) false (ok := fun _ => True) (okp := fun _ => True) rfl (fun _ hk => hk) trivial (of_decide_eq_true (by first | (with_reducible assumption) | assumption)) (Nat.le_trans (Nat.mul_le_mul_right _ (of_decide_eq_true (by first | (with_reducible assumption) | assumption) : a0_0.toNat ≤ 281474976710656)) (by omega)) (Below.refl _ _) (Nat.le_refl _) ?_; intro v247 w21 ho22 hb hg_ hnew_; clear hg_ hnew_; (first | rw [← Ny246.out] at ho22 | (simp only [Int.reduceToNat] at ho22; rw [← Ny246.out] at ho22)); have HO248 := Aside0.mk (Kd.R_lower ho22 (below_size HB.out)); replace BK240 := Aside0.mk (blk_below (g := gb240) (o := .cells #[.int .i64 a0_0, .slice A0_1 l0_1.length c0_1] 24 (0, 0)) BK240.out hb); replace HB := Aside0.mk (below_step HB.out hb); clear hb ho22))
       go_loopg [37] kj13 (fun kq v37 w' => ∃ (x6_2 : List Bool) (x37_2 : Int), v37 = .int .i64 x37_2 ∧ Aside0 (diffs_CheckClash.l0 kq l1 x6_2 l1 (l1.length : Int) x37_2 a0_0 l0_1 = some r) ∧ Aside0 (kq ≤ kj13) ∧ Aside0 (Kd.R Kd.bool 4 w' w.heap.size (fun _ => True) v247 x6_2) ∧ Aside0 (w'.heap[gb240]? = some (.cells #[.int .i64 a0_0, (.slice A0_1 l0_1.length c0_1)] 24 (0, 0))) ∧ Aside0 (Below w.heap.size w w'))
       case atStart => exact ⟨(y246), (0), (by first | rfl | (simp; done) | (simp [*]; done)), H', ⟨Nat.le_refl _⟩, ⟨HO248.out⟩, ⟨BK240.out⟩, ⟨HB.out⟩⟩
       case round =>
        clear H'
        (try clear c1); (try clear p2); (try clear c3); (try clear c7); (try clear c9); (try clear c13); (try clear c13b0); (try clear c13b1); (try clear c15); (try clear c15b0); (try clear c15b1); (try clear c15b2); (try clear c17); (try clear c18); (try clear c18b0); (try clear c18b1); (try clear c19); (try clear c19b0); (try clear c19b1); (try clear hcz16_0); (try clear hcz16_1); (try clear hcz20_0); (try clear hcz20_1); (try clear hfz16_0); (try clear hfz16_1); (try clear hfz20_0); (try clear hfz20_1); (try clear p2)
        obtain ⟨x6_2, x37_2, rfl, HA, HK2, HO_6, BK240, HB⟩ := hrel
        cases gk with
        | zero => exact absurd HA.out (by simp [diffs_CheckClash.l0])
        | succ k2 =>
         have H := HA.out
         clear HA
         simp only [diffs_CheckClash.l0] at H
         by_cases c23 : x37_2 < (l1.length : Int)
         ·rw [if_pos c23] at H
          have c23b0 : decide (x37_2 < (l1.length : Int)) = true := decide_eq_true c23
          clear c23
          by_cases c24 : 0 ≤ x37_2
          ·rw [if_pos c24] at H
           have c24b0 : decide (0 ≤ x37_2) = true := decide_eq_true c24
           clear c24
           by_cases c25 : x37_2 < (l1.length : Int)
           ·rw [if_pos c25] at H
            have c25b0 : decide (x37_2 < (l1.length : Int)) = true := decide_eq_true c25
            clear c25
            by_cases c26 : 0 ≤ (rd l1 x37_2)
            ·rw [if_pos c26] at H
             have c26b0 : decide (0 ≤ (rd l1 x37_2)) = true := decide_eq_true c26
             clear c26
             by_cases c27 : (rd l1 x37_2) < (l0_1.length : Int)
             ·rw [if_pos c27] at H
              have c27b0 : decide ((rd l1 x37_2) < (l0_1.length : Int)) = true := decide_eq_true c27
              clear c27
              by_cases c28 : 0 ≤ ((rd_T39 l0_1 (rd l1 x37_2)).f0)
              ·rw [if_pos c28] at H
               have c28b0 : decide (0 ≤ ((rd_T39 l0_1 (rd l1 x37_2)).f0)) = true := decide_eq_true c28
               clear c28
               by_cases c29 : ((rd_T39 l0_1 (rd l1 x37_2)).f0) < (x6_2.length : Int)
               ·rw [if_pos c29] at H
                have c29b0 : decide (((rd_T39 l0_1 (rd l1 x37_2)).f0) < (x6_2.length : Int)) = true := decide_eq_true c29
                clear c29
                obtain ⟨bq30, hbq30⟩ : ∃ b_ : Bool, b_ = (rdOf false x6_2 ((rd_T39 l0_1 (rd l1 x37_2)).f0)) := ⟨_, rfl⟩
                replace H : (if bq30 = true then (some 43) else (diffs_CheckClash.l0 k2 l1 (x6_2.set (((rd_T39 l0_1 (rd l1 x37_2)).f0) : Int).toNat true) l1 (l1.length : Int) (wrap64 (x37_2 + 1)) a0_0 l0_1)) = some r := by rw [← hbq30] at H; exact H
                have Nbq30 := Aside0.mk hbq30
                clear hbq30
                by_cases c31 : bq30 = true
                ·subst c31
                 have H1 : (some 43) = some r := by rw [if_pos rfl] at H; exact H
                 clear H
                 have H := H1
                 clear H1
                 obtain rfl := Option.some.inj H
                 have p249 : 0 ≤ (x37_2 : Int) := of_decide_eq_true (by first | (with_reducible assumption) | assumption)
                 have q249 : x37_2 < (l1.length : Int) := of_decide_eq_true (by first | (with_reducible assumption) | assumption)
                 obtain ⟨ad249, e249, hx249_0⟩ := Kd.at_int HR1.out x37_2 p249 q249
                 cases e249
                 replace hx249_0 := (HB.out.cell (World.block_lt_of_cell? w _ hx249_0)).trans hx249_0
                 replace p249 := eq_true p249
                 replace q249 := eq_true q249
                 have hcz32_0 : wr.cell? ⟨gb240, 0, none⟩ = some (.int .i64 a0_0) := (blk_cell BK240.out 0).trans rfl
                 have hcz32_1 : wr.cell? ⟨gb240, 1, none⟩ = some (.slice A0_1 l0_1.length c0_1) := (blk_cell BK240.out 1).trans rfl
                 have hfz32_0 := blk_frozen BK240.out 0
                 have hfz32_1 := blk_frozen BK240.out 1
                 have p250 : 0 ≤ ((rd l1 x37_2) : Int) := of_decide_eq_true (by first | (with_reducible assumption) | assumption)
                 have q250 : (rd l1 x37_2) < (l0_1.length : Int) := of_decide_eq_true (by first | (with_reducible assumption) | assumption)
                 obtain ⟨ad250, e250, hx250_0, hx250_1, hx250_2⟩ := at_T39 HR0_1.out (rd l1 x37_2) p250 q250
                 cases e250
                 replace hx250_0 := (HB.out.cell (World.block_lt_of_cell? w _ hx250_0)).trans hx250_0
                 replace hx250_1 := (HB.out.cell (World.block_lt_of_cell? w _ hx250_1)).trans hx250_1
                 replace hx250_2 := (HB.out.cell (World.block_lt_of_cell? w _ hx250_2)).trans hx250_2
                 replace p250 := eq_true p250
                 replace q250 := eq_true q250
                 obtain ⟨Ao33, co33, eo33⟩ := Kd.R_slice HO_6.out
                 subst eo33
                 have p251 : 0 ≤ (((rd_T39 l0_1 (rd l1 x37_2)).f0) : Int) := of_decide_eq_true (by first | (with_reducible assumption) | assumption)
                 have q251 : ((rd_T39 l0_1 (rd l1 x37_2)).f0) < (x6_2.length : Int) := of_decide_eq_true (by first | (with_reducible assumption) | assumption)
                 obtain ⟨ad251, e251, hx251_0⟩ := Kd.at_bool (Kd.R_reads' HO_6.out).2.2 ((rd_T39 l0_1 (rd l1 x37_2)).f0) p251 q251
                 (try rw [← Nbq30.out] at hx251_0)
                 cases e251
                 replace p251 := eq_true p251
                 replace q251 := eq_true q251
                 go_wp2
                 go_ret
                 exact ⟨by first | rfl | (simp [errW_none, errW_some] <;> rfl) | (simp [*, errW_none, errW_some] <;> rfl), HB.out⟩
                ·replace c31 := Bool.eq_false_iff.mpr c31
                 subst c31
                 have H1 : (diffs_CheckClash.l0 k2 l1 (x6_2.set (((rd_T39 l0_1 (rd l1 x37_2)).f0) : Int).toNat true) l1 (l1.length : Int) (wrap64 (x37_2 + 1)) a0_0 l0_1) = some r := by rw [if_neg (show ¬ (false = true) by decide)] at H; exact H
                 clear H
                 have H := H1
                 clear H1
                 obtain ⟨y252, hy252⟩ : ∃ y_ : List Bool, y_ = (x6_2.set (((rd_T39 l0_1 (rd l1 x37_2)).f0) : Int).toNat true) := ⟨_, rfl⟩
                 replace H : (diffs_CheckClash.l0 k2 l1 y252 l1 (l1.length : Int) (wrap64 (x37_2 + 1)) a0_0 l0_1) = some r := by first | (rw [hy252]; with_reducible exact H) | (have H2_ := (Option.bind_some _ _).symm.trans H; rw [hy252]; with_reducible exact H2_) | (have H2_ := (Option.bind_some _ _).symm.trans H; with_reducible exact H2_) | with_reducible exact H | (rw [hy252]; exact H) | exact H
                 have Ny252 := Aside0.mk hy252
                 clear hy252
                 have H' := Aside0.mk H
                 clear H
                 have p249 : 0 ≤ (x37_2 : Int) := of_decide_eq_true (by first | (with_reducible assumption) | assumption)
                 have q249 : x37_2 < (l1.length : Int) := of_decide_eq_true (by first | (with_reducible assumption) | assumption)
                 obtain ⟨ad249, e249, hx249_0⟩ := Kd.at_int HR1.out x37_2 p249 q249
                 cases e249
                 replace hx249_0 := (HB.out.cell (World.block_lt_of_cell? w _ hx249_0)).trans hx249_0
                 replace p249 := eq_true p249
                 replace q249 := eq_true q249
                 have hcz35_0 : wr.cell? ⟨gb240, 0, none⟩ = some (.int .i64 a0_0) := (blk_cell BK240.out 0).trans rfl
                 have hcz35_1 : wr.cell? ⟨gb240, 1, none⟩ = some (.slice A0_1 l0_1.length c0_1) := (blk_cell BK240.out 1).trans rfl
                 have hfz35_0 := blk_frozen BK240.out 0
                 have hfz35_1 := blk_frozen BK240.out 1
                 have p250 : 0 ≤ ((rd l1 x37_2) : Int) := of_decide_eq_true (by first | (with_reducible assumption) | assumption)
                 have q250 : (rd l1 x37_2) < (l0_1.length : Int) := of_decide_eq_true (by first | (with_reducible assumption) | assumption)
                 obtain ⟨ad250, e250, hx250_0, hx250_1, hx250_2⟩ := at_T39 HR0_1.out (rd l1 x37_2) p250 q250
                 cases e250
                 replace hx250_0 := (HB.out.cell (World.block_lt_of_cell? w _ hx250_0)).trans hx250_0
                 replace hx250_1 := (HB.out.cell (World.block_lt_of_cell? w _ hx250_1)).trans hx250_1
                 replace hx250_2 := (HB.out.cell (World.block_lt_of_cell? w _ hx250_2)).trans hx250_2
                 replace p250 := eq_true p250
                 replace q250 := eq_true q250
                 obtain ⟨Ao36, co36, eo36⟩ := Kd.R_slice HO_6.out
                 subst eo36
                 have p251 : 0 ≤ (((rd_T39 l0_1 (rd l1 x37_2)).f0) : Int) := of_decide_eq_true (by first | (with_reducible assumption) | assumption)
                 have q251 : ((rd_T39 l0_1 (rd l1 x37_2)).f0) < (x6_2.length : Int) := of_decide_eq_true (by first | (with_reducible assumption) | assumption)
                 obtain ⟨ad251, e251, hx251_0⟩ := Kd.at_bool (Kd.R_reads' HO_6.out).2.2 ((rd_T39 l0_1 (rd l1 x37_2)).f0) p251 q251
                 (try rw [← Nbq30.out] at hx251_0)
                 cases e251
                 replace p251 := eq_true p251
                 replace q251 := eq_true q251
                 have p34 : 0 ≤ (((rd_T39 l0_1 (rd l1 x37_2)).f0) : Int) := of_decide_eq_true (by first | (with_reducible assumption) | assumption)
                 have q34 : (((rd_T39 l0_1 (rd l1 x37_2)).f0) : Int) < ((x6_2.length : Int) : Int) := of_decide_eq_true (by first | (with_reducible assumption) | assumption)
                 obtain ⟨go34, co34, eo34, gb34, gl34, cl34, HG34⟩ := Kd.R_form HO_6.out (by omega)
                 (first | cases eo34 | (injection eo34 with ea_ en_ ec_; (first | subst ea_ | (injection ea_ with ea_; subst ea_)); subst ec_; clear en_))
                 have GB34 := Aside0.mk gb34
                 have GG34 := Aside0.mk HG34
                 clear gb34 gl34 HG34
                 (first | simp only [add_plain] at hx251_0 | skip)
                 obtain ⟨hx34_0, hf34_0⟩ := Kd.R_celln false HO_6.out (((rd_T39 l0_1 (rd l1 x37_2)).f0) : Int) p34 q34
                 replace p34 := eq_true p34
                 replace q34 := eq_true q34
                 have HP37 := Kd.R_putg HO_6.out (((rd_T39 l0_1 (rd l1 x37_2)).f0) : Int) true
                 go_wp2_with (first | ((with_reducible refine gate_store (t := 4) (p := 53) rfl ?_); refine store_event (t := 4) (p := 53) (v := ?vo_w38) (w1 := (wr.setCell ⟨go34, (((rd_T39 l0_1 (rd l1 x37_2)).f0) : Int).toNat, none⟩ (.bool true))) ?hg ?ho ?hn ?hr ?_; (case ho => rfl); (case hg => rfl); (case hn => rfl); (case hr => first | (go_simp; done) | (go_simp; rfl)); intro w38 hw; have hg : wr.grownBy w38 (some go34) := (by rw [hw]; exact HP37.2); have hp_ : Kd.R Kd.bool 4 w38 w.heap.size (fun _ => True) (.slice (some ⟨go34, 0, none⟩) x6_2.length co36) y252 := (by rw [hw, Ny252.out]; exact HP37.1); clear HP37; replace BK240 := Aside0.mk (blk_grown (g := gb240) (o := .cells #[.int .i64 a0_0, .slice (some ad250) l0_1.length c0_1] 24 (0, 0)) BK240.out hg (Kd.R_ne HO_6.out BK240.out (by decide))); replace HO_6 := Aside0.mk (hp_); replace HB := Aside0.mk ((by rw [hw]; exact below_set (HB.out) GB34.out : Below w.heap.size w w38)); clear hg hw hp_))
                 go_roundg k2
                 case measure => have := HJ13.out; have := HK2.out; omega
                 case rel => exact ⟨(y252), (wrap64 (x37_2 + 1)), (by first | rfl | (simp; done) | (simp [*]; done)), H', ⟨by have := HJ13.out; have := HK2.out; omega⟩, ⟨HO_6.out⟩, ⟨BK240.out⟩, ⟨HB.out⟩⟩
               ·rw [if_neg c29] at H
                exact absurd H (by simp)
              ·rw [if_neg c28] at H
               exact absurd H (by simp)
             ·rw [if_neg c27] at H
              exact absurd H (by simp)
            ·rw [if_neg c26] at H
             exact absurd H (by simp)
           ·rw [if_neg c25] at H
            exact absurd H (by simp)
          ·rw [if_neg c24] at H
           exact absurd H (by simp)
         ·rw [if_neg c23] at H
          have c23b0 : decide (x37_2 < (l1.length : Int)) = false := decide_eq_false c23
          clear c23
          by_cases c39 : 0 < (l1.length : Int)
          ·rw [if_pos c39] at H
           have c39b0 : decide (0 < (l1.length : Int)) = true := decide_eq_true c39
           have c39b1 : decide (0 < l1.length) = true := decide_eq_true (by omega)
           clear c39
           by_cases c40 : 0 ≤ (rd l1 0)
           ·rw [if_pos c40] at H
            have c40b0 : decide (0 ≤ (rd l1 0)) = true := decide_eq_true c40
            clear c40
            by_cases c41 : (rd l1 0) < (l0_1.length : Int)
            ·rw [if_pos c41] at H
             have c41b0 : decide ((rd l1 0) < (l0_1.length : Int)) = true := decide_eq_true c41
             clear c41
             replace H := Option.bind_eq_some_iff.mp H
             obtain ⟨⟨t255, t256⟩, A420, H⟩ := H
             replace H : (if t256 = true then (diffs_CheckClash.j2 k2 (decide (t255 ≥ 0))) else (diffs_CheckClash.j2 k2 true)) = some r := H
             have A42 := Aside0.mk A420
             clear A420
             have HC43 := Aside0.mk H
             clear H
             try go_wp2
             replace HO_6 := Aside0.mk (Kd.R_drew HO_6.out)
             replace BK240 := Aside0.mk (blk_drew BK240.out)
             replace HB := Aside0.mk (below_drew1 HB.out)
             have p253 : 0 ≤ (0 : Int) := (by omega)
             have q253 : 0 < (l1.length : Int) := of_decide_eq_true (by first | (with_reducible assumption) | assumption)
             obtain ⟨ad253, e253, hx253_0⟩ := Kd.at_int HR1.out 0 p253 q253
             have hw253_0 := hx253_0
             (try rw [show ((0 : Int)).toNat = 0 from rfl] at hw253_0)
             (try rw [show 0 * 1 = 0 from rfl] at hw253_0)
             (try rw [Addr.add_zero'] at hw253_0)
             cases e253
             have qi253 : (0 < l1.length) = True := eq_true (by omega)
             (try rw [show ((0 : Int)).toNat = 0 from rfl] at hx253_0)
             (try rw [Addr.add_zero'] at hx253_0)
             replace hx253_0 := (HB.out.cell (World.block_lt_of_cell? w _ hx253_0)).trans hx253_0
             replace p253 := eq_true p253
             replace q253 := eq_true q253
             have p254 : 0 ≤ ((rd l1 0) : Int) := of_decide_eq_true (by first | (with_reducible assumption) | assumption)
             have q254 : (rd l1 0) < (l0_1.length : Int) := of_decide_eq_true (by first | (with_reducible assumption) | assumption)
             obtain ⟨ad254, e254, hx254_0, hx254_1, hx254_2⟩ := at_T39 HR0_1.out (rd l1 0) p254 q254
             have hw254_2 := hx254_2
             have hw254_1 := hx254_1
             have hw254_0 := hx254_0
             cases e254
             replace hx254_0 := (HB.out.cell (World.block_lt_of_cell? w _ hx254_0)).trans hx254_0
             replace hx254_1 := (HB.out.cell (World.block_lt_of_cell? w _ hx254_1)).trans hx254_1
             replace hx254_2 := (HB.out.cell (World.block_lt_of_cell? w _ hx254_2)).trans hx254_2
             replace p254 := eq_true p254
             replace q254 := eq_true q254
             refine start_ (n := 9) (S := fun w' => w'.cell? ⟨gb240, 0, none⟩ = some (.int .i64 a0_0) ∧ w'.cell? ⟨gb240, 1, none⟩ = some (.slice (some ad254) l0_1.length c0_1) ∧ w'.cell? ad253 = some (.int .i64 (rd l1 0)) ∧ w'.cell? (ad254.add (((rd l1 0)).toNat * 3)) = some (.int .i64 ((rd_T39 l0_1 (rd l1 0)).f0)) ∧ w'.cell? ⟨(ad254.add (((rd l1 0)).toNat * 3)).block, (ad254.add (((rd l1 0)).toNat * 3)).off + 1, none⟩ = some (.int .i64 ((rd_T39 l0_1 (rd l1 0)).f1)) ∧ w'.cell? ⟨(ad254.add (((rd l1 0)).toNat * 3)).block, (ad254.add (((rd l1 0)).toNat * 3)).off + 2, none⟩ = some (.int .i64 ((rd_T39 l0_1 (rd l1 0)).f2))) (ds := []) #[false, false, false, false, false, false, false, false, false] (by kernel_rfl) rfl rfl ⟨(blk_cell BK240.out 0).trans rfl, (blk_cell BK240.out 1).trans rfl, ((HB.out.cell (World.block_lt_of_cell? w _ hw253_0)).trans hw253_0), ((HB.out.cell (World.block_lt_of_cell? w _ hw254_0)).trans hw254_0), ((HB.out.cell (World.block_lt_of_cell? w _ hw254_1)).trans hw254_1), ((HB.out.cell (World.block_lt_of_cell? w _ hw254_2)).trans hw254_2)⟩ (fun hHeld => ?_); refine with_tabW diffs_CheckClash.tab15 diffs_CheckClash.bits15 (fun HT_ HW_ => ?_)
             generalize wr.drew = w44 at HO_6 BK240 HB hx253_0 hx254_0 hx254_1 hx254_2 hHeld ⊢
             refine pure_ (i := 0) (N := some 55) (v := ?_) (a' := ?_) #[true, false, false, false, false, false, false, false, false] rfl rfl (any_of HT_.out (by kernel_rfl)) (fun _ _ _ h => h) (Or.inl ⟨by rfl, ?_⟩) ?_ ?_
             rotate_left
             ·intro w'; go_simp; with_reducible rfl
             rotate_left
             ·simp only [Act.put, List.setIfInBounds_toArray, List.set_cons_zero, List.set_cons_succ, i64_w]; rfl
             refine pure_ (i := 2) (N := some 57) (v := ?_) (a' := ?_) #[true, false, true, false, false, false, false, false, false] rfl rfl (any_of HT_.out (by kernel_rfl)) (fun _ _ _ h => h) (Or.inl ⟨by rfl, ?_⟩) ?_ ?_
             rotate_left
             ·intro w'; go_simp; with_reducible rfl
             rotate_left
             ·simp only [Act.put, List.setIfInBounds_toArray, List.set_cons_zero, List.set_cons_succ, i64_w]; rfl
             refine pure_ (i := 3) (N := some 58) (v := ?_) (a' := ?_) #[true, false, true, true, false, false, false, false, false] rfl rfl (any_of HT_.out (by kernel_rfl)) (fun _ _ _ h => h) (Or.inl ⟨by rfl, ?_⟩) ?_ ?_
             rotate_left
             ·intro w'; go_simp; with_reducible rfl
             rotate_left
             ·simp only [Act.put, List.setIfInBounds_toArray, List.set_cons_zero, List.set_cons_succ, i64_w]; rfl
             refine take_ (i := 1) (N := some 56) (v := ?_) (a' := ?_) #[true, true, true, true, false, false, false, false, false] rfl rfl (take_ofW HT_.out HW_.out (by kernel_rfl)) (fun _ _ _ h => h) (Or.inl ⟨by rfl, ?_⟩) hHeld ?_ ?_
             rotate_left
             ·rintro w' ⟨s0, s1, s2, s3, s4, s5⟩; go_simp; with_reducible rfl
             rotate_left
             ·simp only [Act.put, List.setIfInBounds_toArray, List.set_cons_zero, List.set_cons_succ, i64_w]; rfl
             refine take_ (i := 4) (N := some 59) (v := ?_) (a' := ?_) #[true, true, true, true, true, false, false, false, false] rfl rfl (take_ofW HT_.out HW_.out (by kernel_rfl)) (fun _ _ _ h => h) (Or.inl ⟨by rfl, ?_⟩) hHeld ?_ ?_
             rotate_left
             ·rintro w' ⟨s0, s1, s2, s3, s4, s5⟩; go_simp; with_reducible rfl
             rotate_left
             ·simp only [Act.put, List.setIfInBounds_toArray, List.set_cons_zero, List.set_cons_succ, i64_w]; rfl
             refine pure_ (i := 5) (N := some 60) (v := ?_) (a' := ?_) #[true, true, true, true, true, true, false, false, false] rfl rfl (any_of HT_.out (by kernel_rfl)) (fun _ _ _ h => h) (Or.inl ⟨by rfl, ?_⟩) ?_ ?_
             rotate_left
             ·intro w'; go_simp; with_reducible rfl
             rotate_left
             ·simp only [Act.put, List.setIfInBounds_toArray, List.set_cons_zero, List.set_cons_succ, i64_w]; rfl
             refine pure_ (i := 6) (N := some 61) (v := ?_) (a' := ?_) #[true, true, true, true, true, true, true, false, false] rfl rfl (any_of HT_.out (by kernel_rfl)) (fun _ _ _ h => h) (Or.inl ⟨by rfl, ?_⟩) ?_ ?_
             rotate_left
             ·intro w'; go_simp; with_reducible rfl
             rotate_left
             ·simp only [Act.put, List.setIfInBounds_toArray, List.set_cons_zero, List.set_cons_succ, i64_w]; rfl
             refine take_ (i := 7) (N := some 62) (v := ?_) (a' := ?_) #[true, true, true, true, true, true, true, true, false] rfl rfl (take_ofW HT_.out HW_.out (by kernel_rfl)) (fun _ _ _ h => h) (Or.inl ⟨by rfl, ?_⟩) hHeld ?_ ?_
             rotate_left
             ·rintro w' ⟨s0, s1, s2, s3, s4, s5⟩; go_simp; with_reducible rfl
             rotate_left
             ·simp only [Act.put, List.setIfInBounds_toArray, List.set_cons_zero, List.set_cons_succ, i64_w]; rfl
             refine pure_ (i := 8) (N := some 10) (v := ?_) (a' := ?_) #[true, true, true, true, true, true, true, true, true] rfl rfl (any_of HT_.out (by kernel_rfl)) (fun _ _ _ h => h) (Or.inl ⟨by rfl, ?_⟩) ?_ ?_
             rotate_left
             ·intro w'; go_simp; with_reducible rfl
             rotate_left
             ·simp only [Act.put, List.setIfInBounds_toArray, List.set_cons_zero, List.set_cons_succ, i64_w]; rfl
             refine done_ (done_of HT_.out (by kernel_rfl)) ?_
             have hcz45_0 : w44.cell? ⟨gb240, 0, none⟩ = some (.int .i64 a0_0) := (blk_cell BK240.out 0).trans rfl
             have hcz45_1 : w44.cell? ⟨gb240, 1, none⟩ = some (.slice (some ad254) l0_1.length c0_1) := (blk_cell BK240.out 1).trans rfl
             have hfz45_0 := blk_frozen BK240.out 0
             have hfz45_1 := blk_frozen BK240.out 1
             go_upto_region 17 with (first | ((with_reducible refine gate_callee (f := 91) rfl ?_); refine goesL_ (some 68) rfl rfl Try.func91 (by kernel_rfl) rfl #[.agg #[.int .i64 a0_0, .slice (some ad254) l0_1.length c0_1], .int .i64 ((rd_T39 l0_1 (rd l1 0)).f0), .int .i64 ((rd_T39 l0_1 (rd l1 0)).f0), .slice (some ad253) l1.length c1] rfl (by (try simp only [List.map_toArray, List.map_cons, List.map_nil]); first | done | rfl | (simp only [List.length_drop, List.length_take]; rfl)) ?_; (with_reducible refine (diffs_walk.calls k2 a0_0 _ _ l0_1 ((rd_T39 l0_1 (rd l1 0)).f0) ((rd_T39 l0_1 (rd l1 0)).f0) _ _ l1 t255 t256 _ ?side1 ?side2 ?side3 ?side4 A42.out).mono ?_); (case side1 => exact (Kd.C_below HR0_1.out HB.out)); (case side2 => exact HC0_1.out); (case side3 => exact (Kd.C_below HR1.out HB.out)); (case side4 => exact HC1.out); rintro e w46 ⟨rfl, hb⟩; refine ⟨_, rfl, ?_⟩; replace HO_6 := Aside0.mk (Kd.R_below HO_6.out hb); replace BK240 := Aside0.mk (blk_below (g := gb240) (o := .cells #[.int .i64 a0_0, .slice (some ad254) l0_1.length c0_1] 24 (0, 0)) BK240.out hb); replace HB := Aside0.mk (below_step HB.out hb); (try clear hb); (try clear hb2); (try clear hk); (try clear hi)))
             (try simp only [Act.put, List.setIfInBounds_toArray, List.set_cons_zero, List.set_cons_succ])
             go_cut [76] (fun v76 wc => ∃ (kq : Nat) (x76_42 : Bool), v76 = .bool x76_42 ∧ Aside0 (diffs_CheckClash.j2 kq x76_42 = some r) ∧ Aside0 (kq ≤ k2) ∧ Aside0 (wc.heap[gb240]? = some (.cells #[.int .i64 a0_0, (.slice (some ad254) l0_1.length c0_1)] 24 (0, 0))) ∧ Aside0 (Below w.heap.size w wc))
             case first =>
              have H := HC43.out
              clear HC43
              by_cases c47 : t256 = true
              ·subst c47
               have H1 : (diffs_CheckClash.j2 k2 (decide (t255 ≥ 0))) = some r := by rw [if_pos rfl] at H; exact H
               clear H
               have H := H1
               clear H1
               have H' := Aside0.mk H
               clear H
               go_wp2
               go_meet
               case rel => exact ⟨_, (decide (t255 ≥ 0)), (by first | rfl | (simp; done) | (simp [*]; done)), H', ⟨by have := HJ13.out; have := HK2.out; first | omega | exact Nat.le_refl _⟩, ⟨BK240.out⟩, ⟨HB.out⟩⟩
              ·replace c47 := Bool.eq_false_iff.mpr c47
               subst c47
               have H1 : (diffs_CheckClash.j2 k2 true) = some r := by rw [if_neg (show ¬ (false = true) by decide)] at H; exact H
               clear H
               have H := H1
               clear H1
               have H' := Aside0.mk H
               clear H
               go_wp2
               go_meet
               case rel => exact ⟨_, (true), (by first | rfl | (simp; done) | (simp [*]; done)), H', ⟨by have := HJ13.out; have := HK2.out; first | omega | exact Nat.le_refl _⟩, ⟨BK240.out⟩, ⟨HB.out⟩⟩
             case rest =>
              clear HC43
              (try clear c1); (try clear c2); (try clear p2); (try clear q2); (try clear hx2); (try clear qi2); (try clear c3); (try clear p3); (try clear q3); (try clear hx3); (try clear hf3); (try clear c4); (try clear p6); (try clear c7); (try clear c9); (try clear c13); (try clear c13b0); (try clear c13b1); (try clear c15); (try clear c15b0); (try clear c15b1); (try clear c15b2); (try clear c17); (try clear c18); (try clear c18b0); (try clear c18b1); (try clear c19); (try clear c19b0); (try clear c19b1); (try clear c23); (try clear c23b0); (try clear c24); (try clear c24b0); (try clear p24); (try clear q24); (try clear hx24); (try clear c25); (try clear c25b0); (try clear p25); (try clear q25); (try clear hx25); (try clear qi25); (try clear c26); (try clear c26b0); (try clear c27); (try clear c27b0); (try clear c28); (try clear c28b0); (try clear c29); (try clear c29b0); (try clear q30); (try clear c31); (try clear p34); (try clear q34); (try clear hx34); (try clear hf34); (try clear c37); (try clear c39); (try clear c39b0); (try clear c39b1); (try clear c40); (try clear c40b0); (try clear c41); (try clear c41b0); (try clear c47); (try clear hcz16_0); (try clear hcz16_1); (try clear hcz20_0); (try clear hcz20_1); (try clear hcz32_0); (try clear hcz32_1); (try clear hcz35_0); (try clear hcz35_1); (try clear hcz45_0); (try clear hcz45_1); (try clear hfz16_0); (try clear hfz16_1); (try clear hfz20_0); (try clear hfz20_1); (try clear hfz32_0); (try clear hfz32_1); (try clear hfz35_0); (try clear hfz35_1); (try clear hfz45_0); (try clear hfz45_1); (try clear hx249_0); (try clear hx250_0); (try clear hx250_1); (try clear hx250_2); (try clear hx251_0); (try clear hx253_0); (try clear hx254_0); (try clear hx254_1); (try clear hx254_2); (try clear hx34_0); (try clear p2); (try clear p249); (try clear p250); (try clear p251); (try clear p253); (try clear p254); (try clear p34); (try clear q249); (try clear q250); (try clear q251); (try clear q253); (try clear q254); (try clear q34)
              obtain ⟨kq, x76_42, rfl, HA, HJ42, BK240, HB⟩ := hcut
              cases kq with
              | zero => exact absurd HA.out (by simp [diffs_CheckClash.j2])
              | succ kj42 =>
               have H := HA.out
               clear HA
               simp only [diffs_CheckClash.j2] at H
               by_cases c48 : x76_42 = true
               ·subst c48
                have H1 : (some 43) = some r := by rw [if_pos rfl] at H; exact H
                clear H
                have H := H1
                clear H1
                obtain rfl := Option.some.inj H
                go_wp2
                go_ret
                exact ⟨by first | rfl | (simp [errW_none, errW_some] <;> rfl) | (simp [*, errW_none, errW_some] <;> rfl), HB.out⟩
               ·replace c48 := Bool.eq_false_iff.mpr c48
                subst c48
                have H1 : (some 0) = some r := by rw [if_neg (show ¬ (false = true) by decide)] at H; exact H
                clear H
                have H := H1
                clear H1
                obtain rfl := Option.some.inj H
                go_wp2
                go_ret
                exact ⟨by first | rfl | (simp [errW_none, errW_some] <;> rfl) | (simp [*, errW_none, errW_some] <;> rfl), HB.out⟩
            ·rw [if_neg c41] at H
             exact absurd H (by simp)
           ·rw [if_neg c40] at H
            exact absurd H (by simp)
          ·rw [if_neg c39] at H
           exact absurd H (by simp)
      ·rw [if_neg c19] at H
       exact absurd H (by simp)
     ·rw [if_neg c18] at H
      exact absurd H (by simp)
 ·rw [if_neg c13] at H
  have c13b0 : (t245 == 0) = false := beq_eq_false_iff_ne.mpr c13
  have c13b1 : (t245 != 0) = true := bne_iff_ne.mpr c13
  (first | rw [c13b0] | (simp only [i64_w, i32_w]; rw [c13b0]) | skip)
  obtain rfl := Option.some.inj H
  go_wp2
  go_ret
  exact ⟨by first | rfl | (simp [errW_none, errW_some] <;> rfl) | (simp [*, errW_none, errW_some] <;> rfl), HB.out⟩

end Go.Proofs.Ytpolojoeabmhdaa.A
