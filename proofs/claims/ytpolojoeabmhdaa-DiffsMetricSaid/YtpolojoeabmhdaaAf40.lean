-- made by wrap.py out of the translation
import Derived.Test.YtpolojoeabmhdaaA0
import Derived.Test.YtpolojoeabmhdaaAf29
import Derived.Test.YtpolojoeabmhdaaAf94
import Derived.Test.YtpolojoeabmhdaaHSolve
namespace Go.Proofs.Ytpolojoeabmhdaa.A
open Go.RowKit Go.Proofs.YtpolojoeabmhdaaW.PrintWords Go.Proofs.YtpolojoeabmhdaaW.PrintLast Go.Proofs.YtpolojoeabmhdaaW.PrintMore
attribute [local go_sem] max2_int min2_int max_two min_two max_three min_three max_four min_four
set_option linter.unusedVariables false
set_option linter.unusedSimpArgs false

/-! ### diffs_Clash: function 40 -/
def diffs_Clash.l0 : Nat → Int → List Int → Int → Int → List (S39) → List Int → List Bool → List Int → Option (List Int × Bool × Int)
 | 0, _, _, _, _, _, _, _, _ => none
 | k + 1, x8, x9, x10, x262000, x262001, x277000, x277001, x277002 => if 0 ≤ x10 then (if x10 < (x277002.length : Int) then (if x9.length < 17592186044416 then ((some (x9 ++ [rd x277002 x10] : List Int)).bind fun y278 => (if 0 ≤ (rd x277002 x10) then (if (rd x277002 x10) < (x262001.length : Int) then (if ((rd_T39 x262001 (rd x277002 x10)).f0) = x8 then ((slices_Reverse_int_int.f k y278).bind fun t282 => (some (t282, true, 0))) else (diffs_Clash.l0 k x8 y278 ((rd_T39 x262001 (rd x277002 x10)).f0) x262000 x262001 x277000 x277001 x277002)) else (none)) else (none))) else (none)) else (none)) else (none)
def diffs_Clash.f (k : Nat) (a0_0 : Int) (l0_1 : List (S39)) : Option (List Int × Bool × Int) := (diffs_Check.f k a0_0 l0_1).bind fun t262 => (if t262 = 0 then ((diffs_solve.f k a0_0 l0_1).bind fun bt263 => (if bt263.2.2.2.2 < 0 then (some (([] : List Int), false, 0)) else (diffs_Clash.l0 k bt263.2.2.2.2 ([] : List Int) bt263.2.2.2.2 a0_0 l0_1 bt263.2.1 bt263.2.2.1 bt263.2.2.2.1))) else (some (([] : List Int), false, t262)))
theorem diffs_Clash.mono_l : ∀ k, (∀ y0 y1 y2 y3 y4 y5 y6 y7, LeO (diffs_Clash.l0 k y0 y1 y2 y3 y4 y5 y6 y7) (diffs_Clash.l0 (k + 1) y0 y1 y2 y3 y4 y5 y6 y7))
 | 0 => fun _ _ _ _ _ _ _ _ r h => by simp [diffs_Clash.l0] at h
 | k + 1 => by
  have ih0 := diffs_Clash.mono_l k
  ·intro y0 y1 y2 y3 y4 y5 y6 y7
   unfold diffs_Clash.l0
   repeat' first
   | (with_reducible exact ih0 _ _ _ _ _ _ _ _)
   | (with_reducible exact diffs_Check.mono _ _ _)
   | (with_reducible exact diffs_solve.mono _ _ _)
   | (with_reducible exact slices_Reverse_int_int.mono _ _)
   | (with_reducible exact LeO.refl _)
   | (with_reducible exact LeO.none _)
   | (with_reducible refine LeO.ite ?_ ?_)
   | (with_reducible refine LeO.bind ?_ (fun _ => ?_))
   | exact ih0 _ _ _ _ _ _ _ _
   | exact diffs_Check.mono _ _ _
   | exact diffs_solve.mono _ _ _
   | exact slices_Reverse_int_int.mono _ _
   | exact LeO.none _
   | refine LeO.ite ?_ ?_
   | refine LeO.bind ?_ (fun _ => ?_)
theorem diffs_Clash.mono : ∀ a0 a1 k, LeO (diffs_Clash.f k a0 a1) (diffs_Clash.f (k + 1) a0 a1) := by
 intro a0 a1 k
 have ih0 := diffs_Clash.mono_l k
 unfold diffs_Clash.f
 repeat' first
   | (with_reducible exact ih0 _ _ _ _ _ _ _ _)
   | (with_reducible exact diffs_Check.mono _ _ _)
   | (with_reducible exact diffs_solve.mono _ _ _)
   | (with_reducible exact slices_Reverse_int_int.mono _ _)
   | (with_reducible exact LeO.refl _)
   | (with_reducible exact LeO.none _)
   | (with_reducible refine LeO.ite ?_ ?_)
   | (with_reducible refine LeO.bind ?_ (fun _ => ?_))
   | exact ih0 _ _ _ _ _ _ _ _
   | exact diffs_Check.mono _ _ _
   | exact diffs_solve.mono _ _ _
   | exact slices_Reverse_int_int.mono _ _
   | exact LeO.none _
   | refine LeO.ite ?_ ?_
   | refine LeO.bind ?_ (fun _ => ?_)
set_option maxHeartbeats 8000000 in
set_option maxRecDepth 100000 in
theorem diffs_Clash.calls (k : Nat) (a0_0 : Int) (A0_1 : Option Addr) (c0_1 : Nat) (l0_1 : List (S39)) (r1 : List Int) (r2 : Bool) (r3 : Int) (w : World) (hr0_1 : Kd.C k39 w A0_1 l0_1.length l0_1) (hc0_1 : l0_1.length ≤ c0_1) (h : diffs_Clash.f k a0_0 l0_1 = some (r1, r2, r3)) :
  Calls Try.prog 40 #[.agg #[.int .i64 a0_0, .slice A0_1 l0_1.length c0_1]] w fun e w' => ∃ v0_ : Value, e = .returned (.tuple #[v0_, .bool r2, .int .i64 r3]) ∧ Kd.R (Kd.int .i64) 3 w' w.heap.size (fun _ => True) v0_ r1 ∧ Below w.heap.size w w' := by
 have hu24 := Try.underlying24
 have hu88 := Try.underlying88
 have HR0_1 := Aside0.mk hr0_1
 have HC0_1 := Aside0.mk hc0_1
 clear hr0_1 hc0_1
 have HB := Aside0.mk (Below.refl w.heap.size w)
 have H : ((diffs_Check.f k a0_0 l0_1).bind fun t262 => (if t262 = 0 then ((diffs_solve.f k a0_0 l0_1).bind fun bt263 => (if bt263.2.2.2.2 < 0 then (some (([] : List Int), false, 0)) else (diffs_Clash.l0 k bt263.2.2.2.2 ([] : List Int) bt263.2.2.2.2 a0_0 l0_1 bt263.2.1 bt263.2.2.1 bt263.2.2.2.1))) else (some (([] : List Int), false, t262)))) = some (r1, r2, r3) := h
 clear h
 replace H := Option.bind_eq_some_iff.mp H
 obtain ⟨t262, A20, H⟩ := H
 replace H : (if t262 = 0 then ((diffs_solve.f k a0_0 l0_1).bind fun bt263 => (if bt263.2.2.2.2 < 0 then (some (([] : List Int), false, 0)) else (diffs_Clash.l0 k bt263.2.2.2.2 ([] : List Int) bt263.2.2.2.2 a0_0 l0_1 bt263.2.1 bt263.2.2.1 bt263.2.2.2.1))) else (some (([] : List Int), false, t262))) = some (r1, r2, r3) := H
 have A2 := Aside0.mk A20
 clear A20
 have HF3 := Aside0.mk H
 clear H
 go_enter Try.func40, Try.ntmps40
 go_upto_if 15 with (first | ((with_reducible refine gate_dst (N := 1) rfl ?_); refine box_event ?hg (N := 1) ?hd (cs := #[.int .i64 a0_0, .slice A0_1 l0_1.length c0_1]) (t := 24) ?hr ?_; (case hd => rfl); (case hg => rfl); (case hr => first | (go_simp; done) | (go_simp; rfl)); intro gb261 hg w4 hbox hb; have BK261 := Aside0.mk (hbox); have GW261 := Aside0.mk ((by rw [hg]; exact (below_size (by repeat (first | (with_reducible first | exact HB.out | apply below_alloc | apply pw_below_drewN | apply below_drew1) | exact HB.out))) : w.heap.size ≤ gb261)); have GE261 := Aside0.mk ((by rw [hg]; exact (below_size (by repeat (first | (with_reducible first | exact HB.out | apply below_alloc | apply pw_below_drewN | apply below_drew1) | exact HB.out))) : w.heap.size ≤ gb261)); replace HB := Aside0.mk (below_step (by repeat (first | (with_reducible first | exact HB.out | apply below_alloc | apply pw_below_drewN | apply below_drew1) | exact HB.out)) hb); clear hb hbox hg; have hcz5_0 : w4.cell? ⟨gb261, 0, none⟩ = some (.int .i64 a0_0) := (blk_cell BK261.out 0).trans rfl; have hcz5_1 : w4.cell? ⟨gb261, 1, none⟩ = some (.slice A0_1 l0_1.length c0_1) := (blk_cell BK261.out 1).trans rfl; have hfz5_0 := blk_frozen BK261.out 0; have hfz5_1 := blk_frozen BK261.out 1) | ((with_reducible refine gate_callee (f := 29) rfl ?_); refine goesL_ (some 13) rfl rfl Try.func29 (by kernel_rfl) rfl #[.agg #[.int .i64 a0_0, .slice A0_1 l0_1.length c0_1]] rfl (by (try simp only [List.map_toArray, List.map_cons, List.map_nil]); first | done | rfl | (simp only [List.length_drop, List.length_take]; rfl)) ?_; (with_reducible refine (diffs_Check.calls k a0_0 _ _ l0_1 t262 _ ?side1 ?side2 A2.out).mono ?_); (case side1 => exact (Kd.C_below HR0_1.out HB.out)); (case side2 => exact HC0_1.out); rintro e w6 ⟨rfl, hb⟩; refine ⟨_, rfl, ?_⟩; replace BK261 := Aside0.mk (blk_below (g := gb261) (o := .cells #[.int .i64 a0_0, .slice A0_1 l0_1.length c0_1] 24 (0, 0)) BK261.out hb); replace HB := Aside0.mk (below_step (by repeat (first | (with_reducible first | exact HB.out | apply below_alloc | apply pw_below_drewN | apply below_drew1 | refine below_set ?_ GE261.out) | exact HB.out)) hb); (try clear hb); (try clear hb2); (try clear hk); (try clear hi)))
 (try simp only [Act.put, List.setIfInBounds_toArray, List.set_cons_zero, List.set_cons_succ])
 have H := HF3.out
 clear HF3
 by_cases c7 : t262 = 0
 ·rw [if_pos c7] at H
  have c7b0 : (t262 == 0) = true := beq_iff_eq.mpr c7
  have c7b1 : (t262 != 0) = false := bne_eq_false_iff_eq.mpr c7
  clear c7
  (first | rw [c7b0] | (simp only [i64_w, i32_w]; rw [c7b0]) | skip)
  replace H := Option.bind_eq_some_iff.mp H
  obtain ⟨⟨t263, t266, t269, t272, t275⟩, A80, H⟩ := H
  replace H : (if t275 < 0 then (some (([] : List Int), false, 0)) else (diffs_Clash.l0 k t275 ([] : List Int) t275 a0_0 l0_1 t266 t269 t272)) = some (r1, r2, r3) := H
  have A8 := Aside0.mk A80
  clear A80
  have HF9 := Aside0.mk H
  clear H
  have hcz10_0 : w6.cell? ⟨gb261, 0, none⟩ = some (.int .i64 a0_0) := (blk_cell BK261.out 0).trans rfl
  have hcz10_1 : w6.cell? ⟨gb261, 1, none⟩ = some (.slice A0_1 l0_1.length c0_1) := (blk_cell BK261.out 1).trans rfl
  have hfz10_0 := blk_frozen BK261.out 0
  have hfz10_1 := blk_frozen BK261.out 1
  go_upto_if 26 with (first | ((with_reducible refine gate_callee (f := 81) rfl ?_); refine goesL_ (some 21) rfl rfl Try.func81 (by kernel_rfl) rfl #[.iface 100 (.agg #[.int .i64 a0_0, .slice A0_1 l0_1.length c0_1])] rfl (by (try simp only [List.map_toArray, List.map_cons, List.map_nil]); first | done | rfl | (simp only [List.length_drop, List.length_take]; rfl)) ?_; (with_reducible refine (diffs_solve.calls k a0_0 _ _ l0_1 t263 t266 t269 t272 t275 _ ?side1 ?side2 A8.out).mono ?_); (case side1 => exact (Kd.C_below HR0_1.out HB.out)); (case side2 => exact HC0_1.out); rintro e w11 ⟨v264, v267, v270, v273, rfl, ho0, ho1, ho2, ho3, hb⟩; refine ⟨_, rfl, ?_⟩; have HO265 := Aside0.mk (Kd.R_lower ho0 (below_size (by repeat (first | (with_reducible first | exact HB.out | apply below_alloc | apply pw_below_drewN | apply below_drew1 | refine below_set ?_ GE261.out) | exact HB.out)))); have HO268 := Aside0.mk (Kd.R_lower ho1 (below_size (by repeat (first | (with_reducible first | exact HB.out | apply below_alloc | apply pw_below_drewN | apply below_drew1 | refine below_set ?_ GE261.out) | exact HB.out)))); have HO271 := Aside0.mk (Kd.R_lower ho2 (below_size (by repeat (first | (with_reducible first | exact HB.out | apply below_alloc | apply pw_below_drewN | apply below_drew1 | refine below_set ?_ GE261.out) | exact HB.out)))); have HO274 := Aside0.mk (Kd.R_lower ho3 (below_size (by repeat (first | (with_reducible first | exact HB.out | apply below_alloc | apply pw_below_drewN | apply below_drew1 | refine below_set ?_ GE261.out) | exact HB.out)))); replace BK261 := Aside0.mk (blk_below (g := gb261) (o := .cells #[.int .i64 a0_0, .slice A0_1 l0_1.length c0_1] 24 (0, 0)) BK261.out hb); replace HB := Aside0.mk (below_step (by repeat (first | (with_reducible first | exact HB.out | apply below_alloc | apply pw_below_drewN | apply below_drew1 | refine below_set ?_ GE261.out) | exact HB.out)) hb); (try clear hb); (try clear hb2); (try clear hk); (try clear hi); (try clear ho0); (try clear ho1); (try clear ho2); (try clear ho3)) | ((with_reducible refine gate_dst (N := 7) rfl ?_); refine box_event ?hg (N := 7) ?hd (cs := #[.slice none 0 0, .slice none 0 0, .slice none 0 0]) (t := 88) ?hr ?_; (case hd => rfl); (case hg => rfl); (case hr => first | (go_simp; done) | (go_simp; rfl)); intro gb276 hg w12 hbox hb; replace HO265 := Aside0.mk (Kd.R_below HO265.out hb); replace HO268 := Aside0.mk (Kd.R_below HO268.out hb); replace HO271 := Aside0.mk (Kd.R_below HO271.out hb); replace HO274 := Aside0.mk (Kd.R_below HO274.out hb); have BK276 := Aside0.mk (hbox); have GW276 := Aside0.mk ((by rw [hg]; exact (below_size (by repeat (first | (with_reducible first | exact HB.out | apply below_alloc | apply pw_below_drewN | apply below_drew1 | refine below_set ?_ GE261.out) | exact HB.out))) : w.heap.size ≤ gb276)); have GE276 := Aside0.mk ((by rw [hg]; exact (below_size (by repeat (first | (with_reducible first | exact HB.out | apply below_alloc | apply pw_below_drewN | apply below_drew1 | refine below_set ?_ GE261.out) | exact HB.out))) : w.heap.size ≤ gb276)); replace HB := Aside0.mk (below_step (by repeat (first | (with_reducible first | exact HB.out | apply below_alloc | apply pw_below_drewN | apply below_drew1 | refine below_set ?_ GE261.out) | exact HB.out)) hb); have NB261_276 := Aside0.mk ((by rw [hg]; exact Nat.ne_of_lt (blk_lt (g := gb261) (o := .cells #[.int .i64 a0_0, .slice A0_1 l0_1.length c0_1] 24 (0, 0)) BK261.out) : gb261 ≠ gb276)); have NB276_261 := Aside0.mk ((by rw [hg]; exact Nat.ne_of_gt (blk_lt (g := gb261) (o := .cells #[.int .i64 a0_0, .slice A0_1 l0_1.length c0_1] 24 (0, 0)) BK261.out) : gb276 ≠ gb261)); replace BK261 := Aside0.mk (blk_below (g := gb261) (o := .cells #[.int .i64 a0_0, .slice A0_1 l0_1.length c0_1] 24 (0, 0)) BK261.out hb); clear hb hbox hg; obtain ⟨Ao13, co13, eo13⟩ := Kd.R_slice HO268.out; subst eo13; have hnb14 := NB276_261.out; have hnc14 := NB261_276.out; have hcz15_0 : w12.cell? ⟨gb276, 0, none⟩ = some (.slice none 0 0) := (blk_cell BK276.out 0).trans rfl; have hcz15_1 : w12.cell? ⟨gb276, 1, none⟩ = some (.slice none 0 0) := (blk_cell BK276.out 1).trans rfl; have hcz15_2 : w12.cell? ⟨gb276, 2, none⟩ = some (.slice none 0 0) := (blk_cell BK276.out 2).trans rfl; have hfz15_0 := blk_frozen BK276.out 0; have hfz15_1 := blk_frozen BK276.out 1; have hfz15_2 := blk_frozen BK276.out 2; obtain ⟨Ao16, co16, eo16⟩ := Kd.R_slice HO271.out; subst eo16; obtain ⟨Ao17, co17, eo17⟩ := Kd.R_slice HO274.out; subst eo17))
  (try simp only [Act.put, List.setIfInBounds_toArray, List.set_cons_zero, List.set_cons_succ])
  have H := HF9.out
  clear HF9
  by_cases c18 : t275 < 0
  ·rw [if_pos c18] at H
   have c18b0 : decide (t275 < 0) = true := decide_eq_true c18
   clear c18
   (first | rw [c18b0] | (simp only [i64_w, i32_w]; rw [c18b0]) | skip)
   simp only [Option.some.injEq, Prod.mk.injEq] at H
   obtain ⟨rfl, rfl, rfl⟩ := H
   go_wp2
   go_ret3
   exact ⟨_, by first | rfl | (simp [errW_none, errW_some] <;> rfl) | (simp [*, errW_none, errW_some] <;> rfl), by first | exact Kd.R_nil _ _ _ _ _ | exact Kd.N_nil _ _ _ _ _ | exact Kd.V_nil _ _ _ _ _ | exact Kd.Q_nil _ _ _ _ _ | exact Kd.S_nil _ _ _ _ _, by repeat (first | (with_reducible first | exact HB.out | apply below_alloc | apply pw_below_drewN | apply below_drew1 | refine below_set ?_ GE261.out | refine below_set ?_ GE276.out) | exact HB.out)⟩
  ·rw [if_neg c18] at H
   have c18b0 : decide (t275 < 0) = false := decide_eq_false c18
   clear c18
   (first | rw [c18b0] | (simp only [i64_w, i32_w]; rw [c18b0]) | skip)
   have H' := Aside0.mk H
   clear H
   go_wp2
   go_loopg [9, 10] k (fun kq v9 v10 w' => ∃ (x9_1 : List Int) (x10_1 : Int), v10 = .int .i64 x10_1 ∧ Aside0 (diffs_Clash.l0 kq t275 x9_1 x10_1 a0_0 l0_1 t266 t269 t272 = some (r1, r2, r3)) ∧ Aside0 (kq ≤ k) ∧ Aside0 (Kd.R (Kd.int .i64) 3 w' w.heap.size (fun k_ => some k_ ≠ ((.slice Ao13 t266.length co13) : Value).ownBlock ∧ some k_ ≠ ((.slice Ao17 t272.length co17) : Value).ownBlock) v9 x9_1) ∧ Aside0 (Kd.R (Kd.int .i64) 3 w' w.heap.size (fun k_ => some k_ ≠ (v9 : Value).ownBlock ∧ some k_ ≠ ((.slice Ao17 t272.length co17) : Value).ownBlock) (.slice Ao13 t266.length co13) t266) ∧ Aside0 (Kd.R Kd.bool 4 w' w.heap.size (fun _ => True) (.slice Ao16 t269.length co16) t269) ∧ Aside0 (Kd.R (Kd.int .i64) 3 w' w.heap.size (fun k_ => some k_ ≠ (v9 : Value).ownBlock ∧ some k_ ≠ ((.slice Ao13 t266.length co13) : Value).ownBlock) (.slice Ao17 t272.length co17) t272) ∧ Aside0 (w'.heap[gb261]? = some (.cells #[.int .i64 a0_0, (.slice A0_1 l0_1.length c0_1)] 24 (0, 0))) ∧ Aside0 (w'.heap[gb276]? = some (.cells #[(.slice Ao13 t266.length co13), (.slice Ao16 t269.length co16), (.slice Ao17 t272.length co17)] 88 (0, 0))) ∧ Aside0 (Below w.heap.size w w'))
   case atStart => exact ⟨(([] : List Int)), (t275), (by first | rfl | (simp; done) | (simp [*]; done)), H', ⟨Nat.le_refl _⟩, ⟨by first | exact Kd.R_nil _ _ _ _ _ | exact Kd.N_nil _ _ _ _ _ | exact Kd.V_nil _ _ _ _ _ | exact Kd.Q_nil _ _ _ _ _ | exact Kd.S_nil _ _ _ _ _⟩, ⟨by (with_reducible repeat (first | apply Kd.R_alloc | apply Kd.R_drewN | apply Kd.R_drew)); exact Kd.R_mono (Kd.R_far (p := ⟨gb276, 2, none⟩) (Kd.R_far (p := ⟨gb276, 1, none⟩) (Kd.R_far (p := ⟨gb276, 0, none⟩) (Kd.R_types HO268.out BK276.out (by decide)) (fun _ hk => hk.2) (.slice Ao13 t266.length co13)) (fun _ hk => hk.2) (.slice Ao16 t269.length co16)) (fun _ hk => hk.2) (.slice Ao17 t272.length co17)) (fun _ hk => ⟨(by simp [Value.ownBlock]), hk.1.2⟩)⟩, ⟨by (with_reducible repeat (first | apply Kd.R_alloc | apply Kd.R_drewN | apply Kd.R_drew)); exact Kd.R_mono (Kd.R_far (p := ⟨gb276, 2, none⟩) (Kd.R_far (p := ⟨gb276, 1, none⟩) (Kd.R_far (p := ⟨gb276, 0, none⟩) (Kd.R_types HO271.out BK276.out (by decide)) (fun _ hk => hk.2) (.slice Ao13 t266.length co13)) (fun _ hk => hk.2) (.slice Ao16 t269.length co16)) (fun _ hk => hk.2) (.slice Ao17 t272.length co17)) (fun _ hk => trivial)⟩, ⟨by (with_reducible repeat (first | apply Kd.R_alloc | apply Kd.R_drewN | apply Kd.R_drew)); exact Kd.R_mono (Kd.R_far (p := ⟨gb276, 2, none⟩) (Kd.R_far (p := ⟨gb276, 1, none⟩) (Kd.R_far (p := ⟨gb276, 0, none⟩) (Kd.R_types HO274.out BK276.out (by decide)) (fun _ hk => hk.2) (.slice Ao13 t266.length co13)) (fun _ hk => hk.2) (.slice Ao16 t269.length co16)) (fun _ hk => hk.2) (.slice Ao17 t272.length co17)) (fun _ hk => ⟨(by simp [Value.ownBlock]), hk.1.2⟩)⟩, ⟨by (with_reducible repeat (first | refine blk_drewN ?_ _ | refine blk_drew ?_ | refine blk_alloc ?_ _)); refine blk_far ?_ NB261_276.out _; (with_reducible repeat (first | refine blk_drewN ?_ _ | refine blk_drew ?_ | refine blk_alloc ?_ _)); refine blk_far ?_ NB261_276.out _; (with_reducible repeat (first | refine blk_drewN ?_ _ | refine blk_drew ?_ | refine blk_alloc ?_ _)); refine blk_far ?_ NB261_276.out _; (with_reducible repeat (first | refine blk_drewN ?_ _ | refine blk_drew ?_ | refine blk_alloc ?_ _)); exact BK261.out⟩, ⟨by (with_reducible repeat (first | refine blk_drewN ?_ _ | refine blk_drew ?_ | refine blk_alloc ?_ _)); refine blk_put (cs := #[.slice Ao13 t266.length co13, .slice Ao16 t269.length co16, .slice none 0 0]) ?_ 2 _ rfl; (with_reducible repeat (first | refine blk_drewN ?_ _ | refine blk_drew ?_ | refine blk_alloc ?_ _)); refine blk_put (cs := #[.slice Ao13 t266.length co13, .slice none 0 0, .slice none 0 0]) ?_ 1 _ rfl; (with_reducible repeat (first | refine blk_drewN ?_ _ | refine blk_drew ?_ | refine blk_alloc ?_ _)); refine blk_put (cs := #[.slice none 0 0, .slice none 0 0, .slice none 0 0]) ?_ 0 _ rfl; (with_reducible repeat (first | refine blk_drewN ?_ _ | refine blk_drew ?_ | refine blk_alloc ?_ _)); exact BK276.out⟩, ⟨by repeat (first | (with_reducible first | exact HB.out | apply below_alloc | apply pw_below_drewN | apply below_drew1 | refine below_set ?_ GE261.out | refine below_set ?_ GE276.out) | exact HB.out)⟩⟩
   case round =>
    clear H'
    (try clear c1); (try clear c2); (try clear p2); (try clear c4); (try clear c7); (try clear c7b0); (try clear c7b1); (try clear c8); (try clear c14); (try clear c18); (try clear c18b0); (try clear hcz10_0); (try clear hcz10_1); (try clear hcz15_0); (try clear hcz15_1); (try clear hcz15_2); (try clear hcz5_0); (try clear hcz5_1); (try clear hfz10_0); (try clear hfz10_1); (try clear hfz15_0); (try clear hfz15_1); (try clear hfz15_2); (try clear hfz5_0); (try clear hfz5_1)
    obtain ⟨x9_1, x10_1, rfl, HA, HK1, HO_9, HO_277000, HO_277001, HO_277002, BK261, BK276, HB⟩ := hrel
    cases gk with
    | zero => exact absurd HA.out (by simp [diffs_Clash.l0])
    | succ k1 =>
     have H := HA.out
     clear HA
     simp only [diffs_Clash.l0] at H
     by_cases c19 : 0 ≤ x10_1
     ·rw [if_pos c19] at H
      have c19b0 : decide (0 ≤ x10_1) = true := decide_eq_true c19
      clear c19
      by_cases c20 : x10_1 < (t272.length : Int)
      ·rw [if_pos c20] at H
       have c20b0 : decide (x10_1 < (t272.length : Int)) = true := decide_eq_true c20
       clear c20
       by_cases c21 : x9_1.length < 17592186044416
       ·rw [if_pos c21] at H
        have LMc21 := Aside0.mk c21
        clear c21
        obtain ⟨y278, hy278⟩ : ∃ y_ : List Int, y_ = (x9_1 ++ [rd t272 x10_1]) := ⟨_, rfl⟩
        replace H : (if 0 ≤ (rd t272 x10_1) then (if (rd t272 x10_1) < (l0_1.length : Int) then (if ((rd_T39 l0_1 (rd t272 x10_1)).f0) = t275 then ((slices_Reverse_int_int.f k1 y278).bind fun t282 => (some (t282, true, 0))) else (diffs_Clash.l0 k1 t275 y278 ((rd_T39 l0_1 (rd t272 x10_1)).f0) a0_0 l0_1 t266 t269 t272)) else (none)) else (none)) = some (r1, r2, r3) := by first | (rw [hy278]; with_reducible exact H) | (have H2_ := (Option.bind_some _ _).symm.trans H; rw [hy278]; with_reducible exact H2_) | (have H2_ := (Option.bind_some _ _).symm.trans H; with_reducible exact H2_) | with_reducible exact H | (rw [hy278]; exact H) | exact H
        have Ny278 := Aside0.mk hy278
        clear hy278
        by_cases c22 : 0 ≤ (rd t272 x10_1)
        ·rw [if_pos c22] at H
         have c22b0 : decide (0 ≤ (rd t272 x10_1)) = true := decide_eq_true c22
         clear c22
         by_cases c23 : (rd t272 x10_1) < (l0_1.length : Int)
         ·rw [if_pos c23] at H
          have c23b0 : decide ((rd t272 x10_1) < (l0_1.length : Int)) = true := decide_eq_true c23
          clear c23
          have HF24 := Aside0.mk H
          clear H
          have hnb25 := NB276_261.out
          have hnc25 := NB261_276.out
          have hcz26_0 : wr.cell? ⟨gb276, 0, none⟩ = some (.slice Ao13 t266.length co13) := (blk_cell BK276.out 0).trans rfl
          have hcz26_1 : wr.cell? ⟨gb276, 1, none⟩ = some (.slice Ao16 t269.length co16) := (blk_cell BK276.out 1).trans rfl
          have hcz26_2 : wr.cell? ⟨gb276, 2, none⟩ = some (.slice Ao17 t272.length co17) := (blk_cell BK276.out 2).trans rfl
          have hfz26_0 := blk_frozen BK276.out 0
          have hfz26_1 := blk_frozen BK276.out 1
          have hfz26_2 := blk_frozen BK276.out 2
          have p277 : 0 ≤ (x10_1 : Int) := of_decide_eq_true (by first | (with_reducible assumption) | assumption)
          have q277 : x10_1 < (t272.length : Int) := of_decide_eq_true (by first | (with_reducible assumption) | assumption)
          obtain ⟨ad277, e277, hx277_0⟩ := Kd.at_int (Kd.R_reads' HO_277002.out).2.2 x10_1 p277 q277
          cases e277
          replace p277 := eq_true p277
          replace q277 := eq_true q277
          go_upto_if 45 with (first | ((with_reducible refine gate_builtin (b := .append) (xs := #[.tmp 33, .tmp 35]) rfl ?_); at_builtin; refine Kd.R_append (Kd.int .i64) (w0 := w) w.heap.size rfl (.tmp 33) (.tmp 35) 29 3 (.int .i64 0) 8 rfl Try.underlying29 info3 rfl (by decide) (by omega) u9 x9_1 (rd t272 x10_1) [.int .i64 (rd t272 x10_1)] (fun k_ => some k_ ≠ (.slice Ao13 t266.length co13 : Value).ownBlock ∧ some k_ ≠ (.slice (some ad277) t272.length co17 : Value).ownBlock) (fun _ => False) rfl rfl ?aP (fun _ hk => hk.elim) ?aF ?aO ?aB ?aS ?aL ?_; (case aP => exact rfl); (case aB => exact (by repeat (first | (with_reducible first | exact HB.out | apply below_alloc | apply pw_below_drewN | apply below_drew1 | refine below_set ?_ GE261.out | refine below_set ?_ GE276.out) | exact HB.out))); (case aF => exact (fun k_ hk => ⟨Kd.fresh' (Kd.R_lt HO_277000.out) k_ hk, Kd.fresh' (Kd.R_lt HO_277002.out) k_ hk⟩)); (case aO => exact HO_9.out); (case aS => exact (below_size (by repeat (first | (with_reducible first | exact HB.out | apply below_alloc | apply pw_below_drewN | apply below_drew1 | refine below_set ?_ GE261.out | refine below_set ?_ GE276.out) | exact HB.out)))); (case aL => have := LMc21.out; omega); intro v279 w27 ho hb hg hat; rw [← Ny278.out] at ho; replace HO_277000 := Aside0.mk (Kd.R_after (ok := (fun k_ => some k_ ≠ (.slice (some ad277) t272.length co17 : Value).ownBlock)) (by (with_reducible repeat (first | apply Kd.R_alloc | apply Kd.R_drewN | apply Kd.R_drew)); exact Kd.R_mono HO_277000.out (fun _ hk => ⟨hk.2, hk.1⟩)) hg hat); replace HO_277001 := Aside0.mk (Kd.R_over' HO_277001.out (Kd.R_typed HO_9.out) (by decide) hg); replace HO_277002 := Aside0.mk (Kd.R_after (ok := (fun k_ => some k_ ≠ (.slice Ao13 t266.length co13 : Value).ownBlock)) (by (with_reducible repeat (first | apply Kd.R_alloc | apply Kd.R_drewN | apply Kd.R_drew)); exact Kd.R_mono HO_277002.out (fun _ hk => ⟨hk.2, hk.1⟩)) hg hat); replace BK261 := Aside0.mk (blk_grown (g := gb261) (o := .cells #[.int .i64 a0_0, .slice A0_1 l0_1.length c0_1] 24 (0, 0)) BK261.out hg (Kd.R_ne HO_9.out BK261.out (by decide))); replace BK276 := Aside0.mk (blk_grown (g := gb276) (o := .cells #[.slice Ao13 t266.length co13, .slice Ao16 t269.length co16, .slice (some ad277) t272.length co17] 88 (0, 0)) BK276.out hg (Kd.R_ne HO_9.out BK276.out (by decide))); replace HB := Aside0.mk (hb); have HO280 := Aside0.mk (ho); clear HO_9; clear ho hb hg hat; have hcz28_0 : w27.cell? ⟨gb261, 0, none⟩ = some (.int .i64 a0_0) := (blk_cell BK261.out 0).trans rfl; have hcz28_1 : w27.cell? ⟨gb261, 1, none⟩ = some (.slice A0_1 l0_1.length c0_1) := (blk_cell BK261.out 1).trans rfl; have hfz28_0 := blk_frozen BK261.out 0; have hfz28_1 := blk_frozen BK261.out 1; have p281 : 0 ≤ ((rd t272 x10_1) : Int) := of_decide_eq_true (by first | (with_reducible assumption) | assumption); have q281 : (rd t272 x10_1) < (l0_1.length : Int) := of_decide_eq_true (by first | (with_reducible assumption) | assumption); obtain ⟨ad281, e281, hx281_0, hx281_1, hx281_2⟩ := at_T39 HR0_1.out (rd t272 x10_1) p281 q281; cases e281; replace hx281_0 := (HB.out.cell (World.block_lt_of_cell? w _ hx281_0)).trans hx281_0; replace hx281_1 := (HB.out.cell (World.block_lt_of_cell? w _ hx281_1)).trans hx281_1; replace hx281_2 := (HB.out.cell (World.block_lt_of_cell? w _ hx281_2)).trans hx281_2; replace p281 := eq_true p281; replace q281 := eq_true q281))
          (try simp only [Act.put, List.setIfInBounds_toArray, List.set_cons_zero, List.set_cons_succ])
          have H := HF24.out
          clear HF24
          by_cases c29 : ((rd_T39 l0_1 (rd t272 x10_1)).f0) = t275
          ·rw [if_pos c29] at H
           have c29b0 : (((rd_T39 l0_1 (rd t272 x10_1)).f0) == t275) = true := beq_iff_eq.mpr c29
           have c29b1 : (((rd_T39 l0_1 (rd t272 x10_1)).f0) != t275) = false := bne_eq_false_iff_eq.mpr c29
           clear c29
           (first | rw [c29b0] | (simp only [i64_w, i32_w]; rw [c29b0]) | skip)
           replace H := Option.bind_eq_some_iff.mp H
           obtain ⟨t282, A300, H⟩ := H
           replace H : (some (t282, true, 0)) = some (r1, r2, r3) := H
           have A30 := Aside0.mk A300
           clear A300
           simp only [Option.some.injEq, Prod.mk.injEq] at H
           obtain ⟨rfl, rfl, rfl⟩ := H
           obtain ⟨Ao31, co31, eo31⟩ := Kd.R_slice HO280.out
           subst eo31
           go_wp2_with (first | ((with_reducible refine gate_callee (f := 94) rfl ?_); refine goesL_ (some 47) rfl rfl Try.func94 (by kernel_rfl) rfl #[.slice Ao31 y278.length co31] rfl (by (try simp only [List.map_toArray, List.map_cons, List.map_nil]); first | done | rfl | (simp only [List.length_drop, List.length_take]; rfl)) ?_; (with_reducible refine (slices_Reverse_int_int.calls k1 (fun k_ => some k_ = (.slice Ao31 y278.length co31 : Value).ownBlock) (.slice Ao31 y278.length co31) y278 t282 w _ ?side1 ?side2 A30.out).mono ?_); (case side1 => repeat (first | (with_reducible first | exact HB.out | apply below_alloc | apply pw_below_drewN | apply below_drew1 | refine below_set ?_ GE261.out | refine below_set ?_ GE276.out) | exact HB.out)); (case side2 => exact Kd.R_tight rfl HO280.out); rintro e w32 ⟨rfl, hy0, hb, hkp⟩; refine ⟨_, rfl, ?_⟩; replace HO_277000 := Aside0.mk (Kd.R_mono (ok' := fun k_ => some k_ ≠ (.slice (some ad277) t272.length co17 : Value).ownBlock ∧ some k_ ≠ (.slice Ao31 y278.length co31 : Value).ownBlock) (Kd.R_keptB (HO_277000.out) hkp (fun k_ hk_ hs_ => (hk_.2) hs_)) (fun k_ hk_ => ⟨hk_.1.1, hk_.1.2⟩)); replace HO_277001 := Aside0.mk (Kd.R_mono (ok' := fun k_ => True) (Kd.R_keptB ((Kd.R_apart' HO_277001.out (Kd.R_typed HO280.out) (by decide))) hkp (fun k_ hk_ hs_ => (hk_.2) hs_)) (fun k_ hk_ => trivial)); replace HO_277002 := Aside0.mk (Kd.R_mono (ok' := fun k_ => some k_ ≠ (.slice Ao13 t266.length co13 : Value).ownBlock ∧ some k_ ≠ (.slice Ao31 y278.length co31 : Value).ownBlock) (Kd.R_keptB (HO_277002.out) hkp (fun k_ hk_ hs_ => (hk_.2) hs_)) (fun k_ hk_ => ⟨hk_.1.1, hk_.1.2⟩)); replace BK261 := Aside0.mk (blk_kept BK261.out hkp (fun hs_ => (fun e_ => (Kd.R_ne HO280.out BK261.out (by decide)) e_) hs_)); replace BK276 := Aside0.mk (blk_kept BK276.out hkp (fun hs_ => (fun e_ => (Kd.R_ne HO280.out BK276.out (by decide)) e_) hs_)); replace HO280 := Aside0.mk (Kd.R_reok rfl hy0 (fun k_ e_ => HO280.out.1 k_ e_)); replace HB := Aside0.mk (hb); (try clear hb); (try clear hkp); (try clear hy0)))
           go_ret3
           exact ⟨_, by first | rfl | (simp [errW_none, errW_some] <;> rfl) | (simp [*, errW_none, errW_some] <;> rfl), by (with_reducible repeat (first | apply Kd.R_alloc | apply Kd.R_drewN | apply Kd.R_drew)); exact Kd.R_mono HO280.out (fun _ hk => trivial), by repeat (first | (with_reducible first | exact HB.out | apply below_alloc | apply pw_below_drewN | apply below_drew1 | refine below_set ?_ GE261.out | refine below_set ?_ GE276.out) | exact HB.out)⟩
          ·rw [if_neg c29] at H
           have c29b0 : (((rd_T39 l0_1 (rd t272 x10_1)).f0) == t275) = false := beq_eq_false_iff_ne.mpr c29
           have c29b1 : (((rd_T39 l0_1 (rd t272 x10_1)).f0) != t275) = true := bne_iff_ne.mpr c29
           (first | rw [c29b0] | (simp only [i64_w, i32_w]; rw [c29b0]) | skip)
           have H' := Aside0.mk H
           clear H
           go_wp2
           go_roundg k1
           case measure => have := HK1.out; omega
           case rel => exact ⟨(y278), ((rd_T39 l0_1 (rd t272 x10_1)).f0), (by first | rfl | (simp; done) | (simp [*]; done)), H', ⟨by have := HK1.out; omega⟩, ⟨HO280.out⟩, ⟨by (with_reducible repeat (first | apply Kd.R_alloc | apply Kd.R_drewN | apply Kd.R_drew)); exact Kd.R_mono HO_277000.out (fun _ hk => ⟨hk.2, hk.1⟩)⟩, ⟨HO_277001.out⟩, ⟨by (with_reducible repeat (first | apply Kd.R_alloc | apply Kd.R_drewN | apply Kd.R_drew)); exact Kd.R_mono HO_277002.out (fun _ hk => ⟨hk.2, hk.1⟩)⟩, ⟨BK261.out⟩, ⟨BK276.out⟩, ⟨by repeat (first | (with_reducible first | exact HB.out | apply below_alloc | apply pw_below_drewN | apply below_drew1 | refine below_set ?_ GE261.out | refine below_set ?_ GE276.out) | exact HB.out)⟩⟩
         ·rw [if_neg c23] at H
          exact absurd H (by simp)
        ·rw [if_neg c22] at H
         exact absurd H (by simp)
       ·rw [if_neg c21] at H
        exact absurd H (by simp)
      ·rw [if_neg c20] at H
       exact absurd H (by simp)
     ·rw [if_neg c19] at H
      exact absurd H (by simp)
 ·rw [if_neg c7] at H
  have c7b0 : (t262 == 0) = false := beq_eq_false_iff_ne.mpr c7
  have c7b1 : (t262 != 0) = true := bne_iff_ne.mpr c7
  (first | rw [c7b0] | (simp only [i64_w, i32_w]; rw [c7b0]) | skip)
  simp only [Option.some.injEq, Prod.mk.injEq] at H
  obtain ⟨rfl, rfl, rfl⟩ := H
  go_wp2
  go_ret3
  exact ⟨_, by first | rfl | (simp [errW_none, errW_some] <;> rfl) | (simp [*, errW_none, errW_some] <;> rfl), by first | exact Kd.R_nil _ _ _ _ _ | exact Kd.N_nil _ _ _ _ _ | exact Kd.V_nil _ _ _ _ _ | exact Kd.Q_nil _ _ _ _ _ | exact Kd.S_nil _ _ _ _ _, by repeat (first | (with_reducible first | exact HB.out | apply below_alloc | apply pw_below_drewN | apply below_drew1 | refine below_set ?_ GE261.out) | exact HB.out)⟩

end Go.Proofs.Ytpolojoeabmhdaa.A
