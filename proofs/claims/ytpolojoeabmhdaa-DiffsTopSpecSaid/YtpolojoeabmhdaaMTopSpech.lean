import Derived.Test.YtpolojoeabmhdaaMTopSpecd
import Derived.Test.YtpolojoeabmhdaaMTopSpecg
set_option linter.unusedVariables false
set_option linter.unusedSimpArgs false
namespace Go.Proofs.Ytpolojoeabmhdaa.A
open Go.RowKit Go.Proofs.YtpolojoeabmhdaaW.PrintWords Go.Proofs.YtpolojoeabmhdaaW.PrintLast Go.Proofs.YtpolojoeabmhdaaW.PrintMore
attribute [local go_sem] max2_int min2_int max_two min_two max_three min_three max_four min_four
mutual
def snowlineref04_Lengths.l0 : Nat → List Bool → List Int → List Bool → Int → Int → List (S39) → Option (List Int × List Bool × Bool)
 | 0, _, _, _, _, _, _ => none
 | k + 1, x1, x4, x5, x7, x340000, x340001 => if x7 < x340000 then (if x4.length < 17592186044416 then (if 0 ≤ x7 then (if x7 < (x1.length : Int) then (if x5.length < 140737488355328 then (snowlineref04_Lengths.l0 k x1 (x4 ++ [0]) (x5 ++ [rdOf false x1 x7]) (wrap64 (x7 + 1)) x340000 x340001) else (none)) else (none)) else (none)) else (none)) else (snowlineref04_Lengths.l1 k x4 x5 0 x340000 x340001)
def snowlineref04_Lengths.l1 : Nat → List Int → List Bool → Int → Int → List (S39) → Option (List Int × List Bool × Bool)
 | 0, _, _, _, _, _ => none
 | k + 1, x4, x5, x8, x340000, x340001 => if x8 ≤ x340000 then (snowlineref04_Lengths.l2 k x4 x5 x8 false 0 x340000 x340001) else (some (x4, x5, false))
def snowlineref04_Lengths.l2 : Nat → List Int → List Bool → Int → Bool → Int → Int → List (S39) → Option (List Int × List Bool × Bool)
 | 0, _, _, _, _, _, _, _ => none
 | k + 1, x4, x5, x8, x9, x10, x340000, x340001 => if x10 < (x340001.length : Int) then (if 0 ≤ x10 then (if 0 ≤ ((rd_T39 x340001 x10).f0) then (if ((rd_T39 x340001 x10).f0) < (x5.length : Int) then (if rdOf false x5 ((rd_T39 x340001 x10).f0) = true then (if 0 ≤ ((rd_T39 x340001 x10).f1) then (if ((rd_T39 x340001 x10).f1) < (x5.length : Int) then (if (rdOf false x5 ((rd_T39 x340001 x10).f1) = true) then (if ((rd_T39 x340001 x10).f0) < (x4.length : Int) then (if ((rd_T39 x340001 x10).f1) < (x4.length : Int) then (snowlineref04_Lengths.j3 k x4 x5 x8 x9 x10 (decide ((wrap64 ((rd x4 ((rd_T39 x340001 x10).f0)) + ((rd_T39 x340001 x10).f2))) < (rd x4 ((rd_T39 x340001 x10).f1)))) x340000 x340001 ((rd_T39 x340001 x10).f0) ((rd_T39 x340001 x10).f1) ((rd_T39 x340001 x10).f2)) else (none)) else (none)) else (snowlineref04_Lengths.j3 k x4 x5 x8 x9 x10 true x340000 x340001 ((rd_T39 x340001 x10).f0) ((rd_T39 x340001 x10).f1) ((rd_T39 x340001 x10).f2))) else (none)) else (none)) else (snowlineref04_Lengths.j3 k x4 x5 x8 x9 x10 false x340000 x340001 ((rd_T39 x340001 x10).f0) ((rd_T39 x340001 x10).f1) ((rd_T39 x340001 x10).f2))) else (none)) else (none)) else (none)) else (if x9 = true then (snowlineref04_Lengths.l1 k x4 x5 (wrap64 (x8 + 1)) x340000 x340001) else (some (x4, x5, true)))
def snowlineref04_Lengths.j3 : Nat → List Int → List Bool → Int → Bool → Int → Bool → Int → List (S39) → Int → Int → Int → Option (List Int × List Bool × Bool)
 | 0, _, _, _, _, _, _, _, _, _, _, _ => none
 | k + 1, x4, x5, x8, x9, x10, x74, x340000, x340001, x349000, x349001, x349002 => if x74 = true then (if 0 ≤ x349000 then (if x349000 < (x4.length : Int) then (if 0 ≤ x349001 then (if x349001 < (x4.length : Int) then (if x349001 < (x5.length : Int) then (snowlineref04_Lengths.l2 k (x4.set (x349001 : Int).toNat (wrap64 ((rd x4 x349000) + x349002))) (x5.set (x349001 : Int).toNat true) x8 true (wrap64 (x10 + 1)) x340000 x340001) else (none)) else (none)) else (none)) else (none)) else (none)) else (snowlineref04_Lengths.l2 k x4 x5 x8 x9 (wrap64 (x10 + 1)) x340000 x340001)
end
def snowlineref04_Lengths.f (k : Nat) (a0_0 : Int) (l0_1 : List (S39)) (l1 : List Bool) : Option (List Int × List Bool × Bool) := snowlineref04_Lengths.l0 k l1 ([] : List Int) ([] : List Bool) 0 a0_0 l0_1
theorem snowlineref04_Lengths.mono_l : ∀ k, (∀ y0 y1 y2 y3 y4 y5, LeO (snowlineref04_Lengths.l0 k y0 y1 y2 y3 y4 y5) (snowlineref04_Lengths.l0 (k + 1) y0 y1 y2 y3 y4 y5)) ∧ (∀ y0 y1 y2 y3 y4, LeO (snowlineref04_Lengths.l1 k y0 y1 y2 y3 y4) (snowlineref04_Lengths.l1 (k + 1) y0 y1 y2 y3 y4)) ∧ (∀ y0 y1 y2 y3 y4 y5 y6, LeO (snowlineref04_Lengths.l2 k y0 y1 y2 y3 y4 y5 y6) (snowlineref04_Lengths.l2 (k + 1) y0 y1 y2 y3 y4 y5 y6)) ∧ (∀ y0 y1 y2 y3 y4 y5 y6 y7 y8 y9 y10, LeO (snowlineref04_Lengths.j3 k y0 y1 y2 y3 y4 y5 y6 y7 y8 y9 y10) (snowlineref04_Lengths.j3 (k + 1) y0 y1 y2 y3 y4 y5 y6 y7 y8 y9 y10))
 | 0 => ⟨fun _ _ _ _ _ _ r h => by simp [snowlineref04_Lengths.l0] at h, fun _ _ _ _ _ r h => by simp [snowlineref04_Lengths.l1] at h, fun _ _ _ _ _ _ _ r h => by simp [snowlineref04_Lengths.l2] at h, fun _ _ _ _ _ _ _ _ _ _ _ r h => by simp [snowlineref04_Lengths.j3] at h⟩
 | k + 1 => by
  obtain ⟨ih0, ih1, ih2, ih3⟩ := snowlineref04_Lengths.mono_l k; refine ⟨?_, ?_, ?_, ?_⟩ <;> intros <;> (first | unfold snowlineref04_Lengths.l0 | unfold snowlineref04_Lengths.l1 | unfold snowlineref04_Lengths.l2 | unfold snowlineref04_Lengths.j3) <;> repeat' first | (with_reducible first | exact ih0 _ _ _ _ _ _ | exact ih1 _ _ _ _ _ | exact ih2 _ _ _ _ _ _ _ | exact ih3 _ _ _ _ _ _ _ _ _ _ _ | exact LeO.refl _ | exact LeO.none _ | refine LeO.ite ?_ ?_ | refine LeO.bind ?_ (fun _ => ?_)) | exact ih0 _ _ _ _ _ _ | exact ih1 _ _ _ _ _ | exact ih2 _ _ _ _ _ _ _ | exact ih3 _ _ _ _ _ _ _ _ _ _ _ | exact LeO.none _ | refine LeO.ite ?_ ?_ | refine LeO.bind ?_ (fun _ => ?_)
theorem snowlineref04_Lengths.mono : ∀ a0 a1 a2 k, LeO (snowlineref04_Lengths.f k a0 a1 a2) (snowlineref04_Lengths.f (k + 1) a0 a1 a2) := by
 intro a0 a1 a2 k; obtain ⟨ih0, ih1, ih2, ih3⟩ := snowlineref04_Lengths.mono_l k; unfold snowlineref04_Lengths.f; repeat' first | (with_reducible first | exact ih0 _ _ _ _ _ _ | exact ih1 _ _ _ _ _ | exact ih2 _ _ _ _ _ _ _ | exact ih3 _ _ _ _ _ _ _ _ _ _ _ | exact LeO.refl _ | exact LeO.none _ | refine LeO.ite ?_ ?_ | refine LeO.bind ?_ (fun _ => ?_)) | exact ih0 _ _ _ _ _ _ | exact ih1 _ _ _ _ _ | exact ih2 _ _ _ _ _ _ _ | exact ih3 _ _ _ _ _ _ _ _ _ _ _ | exact LeO.none _ | refine LeO.ite ?_ ?_ | refine LeO.bind ?_ (fun _ => ?_)
def snowlineref04_Lengths.T14 : Bool × List (List Nat × List Nat) := (true, [([], []), ([], []), ([1], [1]), ([0, 2], [0, 2]), ([3], [3]), ([4], [4]), ([5], [5]), ([5], [5]), ([7, 5], [5, 7]), ([6, 8, 5], [5, 6, 8]), ([9, 5], [5, 9]), ([10, 5], [5, 10]), ([11, 5, 5], [5, 11]), ([12], [12]), ([12], [12]), ([14, 12], [12, 14]), ([13, 15, 12], [12, 13, 15]), ([16, 12], [12, 16]), ([12], [12]), ([18, 12], [12, 18]), ([17, 19, 12], [12, 17, 19]), ([12], [12]), ([12], [12]), ([22, 12], [12, 22]), ([21, 23, 12], [12, 21, 23]), ([24, 12], [12, 24]), ([20, 25, 12], [12, 20, 25]), ([12, 26, 5], [5, 12, 26]), ([5, 27], [5, 27])])
def snowlineref04_Lengths.B14 : List Nat := [0, 0, 2, 7, 15, 31, 63, 63, 191, 511, 1023, 2047, 4095, 8191, 8191, 24575, 65535, 131071, 8191, 270335, 1048575, 8191, 8191, 4202495, 14688255, 31465471, 67108863, 134217727, 268435455]
theorem snowlineref04_Lengths.tab14 : rtab .any (opsOf Try.f71 14) = snowlineref04_Lengths.T14 := by kernel_rfl
theorem snowlineref04_Lengths.bits14 : waitsOk snowlineref04_Lengths.T14.2 snowlineref04_Lengths.B14 = true := by kernel_rfl
def snowlineref04_Lengths.T15 : Bool × List (List Nat × List Nat) := (true, [([], []), ([], []), ([1], [1]), ([], []), ([], []), ([4], [4]), ([3, 5], [3, 5]), ([6], [6]), ([], []), ([8], [8]), ([7, 9], [7, 9]), ([0, 2, 0, 1, 2, 3, 4, 5, 6, 7, 8, 9, 10], [0, 2]), ([11, 10, 0, 1, 2, 3, 4, 5, 6, 7, 8, 9, 10], [10, 11])])
def snowlineref04_Lengths.B15 : List Nat := [0, 0, 2, 0, 0, 16, 56, 120, 0, 256, 1016, 2047, 4095]
theorem snowlineref04_Lengths.tab15 : rtab .any (opsOf Try.f71 15) = snowlineref04_Lengths.T15 := by kernel_rfl
theorem snowlineref04_Lengths.bits15 : waitsOk snowlineref04_Lengths.T15.2 snowlineref04_Lengths.B15 = true := by kernel_rfl
set_option maxHeartbeats 8000000 in
set_option maxRecDepth 100000 in
theorem snowlineref04_Lengths.calls (k : Nat) (a0_0 : Int) (A0_1 : Option Addr) (c0_1 : Nat) (l0_1 : List (S39)) (A1 : Option Addr) (c1 : Nat) (l1 : List Bool) (r1 : List Int) (r2 : List Bool) (r3 : Bool) (w : World) (hr0_1 : Kd.C k39 w A0_1 l0_1.length l0_1) (hc0_1 : l0_1.length ≤ c0_1) (hr1 : Kd.C Kd.bool w A1 l1.length l1) (hc1 : l1.length ≤ c1) (h : snowlineref04_Lengths.f k a0_0 l0_1 l1 = some (r1, r2, r3)) :
  Calls Try.prog 71 #[.agg #[.int .i64 a0_0, .slice A0_1 l0_1.length c0_1], .slice A1 l1.length c1] w fun e w' => ∃ v0_ v1_ : Value, e = .returned (.tuple #[v0_, v1_, .bool r3]) ∧ Kd.R (Kd.int .i64) 3 w' w.heap.size (fun _ => True) v0_ r1 ∧ Kd.R Kd.bool 4 w' w.heap.size (fun _ => True) v1_ r2 ∧ Below w.heap.size w w' := by
 have hu24 := Try.underlying24; have hu39 := Try.underlying39; have HR0_1 := Z_ hr0_1; have HC0_1 := Z_ hc0_1; clear hr0_1 hc0_1; have HR1 := Z_ hr1; have HC1 := Z_ hc1; clear hr1 hc1; have HB := Z_ (Below.refl w.heap.size w); have H : (snowlineref04_Lengths.l0 k l1 ([] : List Int) ([] : List Bool) 0 a0_0 l0_1) = some (r1, r2, r3) := h; clear h; have H' := Z_ H; clear H; go_enter Try.func71, Try.ntmps71; go_wp2_with (first | ((with_reducible refine gate_dst (N := 2) rfl ?_); refine box_event ?hg (N := 2) ?hd (cs := #[.int .i64 a0_0, .slice A0_1 l0_1.length c0_1]) (t := 24) ?hr ?_; (case hd => rfl); (case hg => rfl); (case hr => first | (go_simp; done) | (go_simp; rfl)); intro gb339 hg w3 hbox hb; have BK339 := Z_ (hbox); have GW339 := Z_ ((by rw [hg]; exact (fZ_ HB.out) : w.heap.size ≤ gb339)); have GE339 := Z_ ((by rw [hg]; exact (fZ_ HB.out) : w.heap.size ≤ gb339)); replace HB := Z_ (fS_ HB.out hb); clear hb hbox hg)); go_loopg [4, 5, 7] k (fun kq v4 v5 v7 w' => ∃ (x4_1 : List Int) (x5_1 : List Bool) (x7_1 : Int), v7 = .int .i64 x7_1 ∧ Aside0 (snowlineref04_Lengths.l0 kq l1 x4_1 x5_1 x7_1 a0_0 l0_1 = some (r1, r2, r3)) ∧ Aside0 (kq ≤ k) ∧ Aside0 (Kd.R (Kd.int .i64) 3 w' w.heap.size (fun _ => True) v4 x4_1) ∧ Aside0 (Kd.R Kd.bool 4 w' w.heap.size (fun _ => True) v5 x5_1) ∧ Aside0 (w'.heap[gb339]? = some (.cells #[.int .i64 a0_0, (.slice A0_1 l0_1.length c0_1)] 24 (0, 0))) ∧ Aside0 (Below w.heap.size w w'))
 case atStart => exact ⟨(([] : List Int)), (([] : List Bool)), (0), (by first | rfl | (simp; done) | (simp [*]; done)), H', ⟨nR_ _⟩, ⟨by first | exact Kd.R_nil _ _ _ _ _ | exact Kd.N_nil _ _ _ _ _ | exact Kd.V_nil _ _ _ _ _ | exact Kd.Q_nil _ _ _ _ _ | exact Kd.S_nil _ _ _ _ _⟩, ⟨by first | exact Kd.R_nil _ _ _ _ _ | exact Kd.N_nil _ _ _ _ _ | exact Kd.V_nil _ _ _ _ _ | exact Kd.Q_nil _ _ _ _ _ | exact Kd.S_nil _ _ _ _ _⟩, ⟨BK339.out⟩, ⟨HB.out⟩⟩
 case round =>
  clear H'; (try clear c1); (try clear p2)
  obtain ⟨x4_1, x5_1, x7_1, rfl, HA, HK1, HO_4, HO_5, BK339, HB⟩ := hrel
  cases gk with
  | zero => exact absurd HA.out (by simp [snowlineref04_Lengths.l0])
  | succ k1 =>
   have H := HA.out; clear HA; simp only [snowlineref04_Lengths.l0] at H; by_cases c4 : x7_1 < a0_0
   ·rw [if_pos c4] at H
    have c4b0 : decide (x7_1 < a0_0) = true := eT_ c4; clear c4; by_cases c5 : x4_1.length < 17592186044416
    ·rw [if_pos c5] at H
     have LMc5 := Z_ c5; clear c5; obtain ⟨y340, hy340⟩ : ∃ y_ : List Int, y_ = (x4_1 ++ [0]) := ⟨_, rfl⟩; replace H : (if 0 ≤ x7_1 then (if x7_1 < (l1.length : Int) then (if x5_1.length < 140737488355328 then (snowlineref04_Lengths.l0 k1 l1 y340 (x5_1 ++ [rdOf false l1 x7_1]) (wrap64 (x7_1 + 1)) a0_0 l0_1) else (none)) else (none)) else (none)) = some (r1, r2, r3) := by first | (rw [hy340]; with_reducible exact H) | (have H2_ := (oB_ _ _).symm.trans H; rw [hy340]; with_reducible exact H2_) | (have H2_ := (oB_ _ _).symm.trans H; with_reducible exact H2_) | with_reducible exact H | (rw [hy340]; exact H) | exact H
     have Ny340 := Z_ hy340; clear hy340; by_cases c6 : 0 ≤ x7_1
     ·rw [if_pos c6] at H
      have c6b0 : decide (0 ≤ x7_1) = true := eT_ c6; clear c6; by_cases c7 : x7_1 < (l1.length : Int)
      ·rw [if_pos c7] at H
       have c7b0 : decide (x7_1 < (l1.length : Int)) = true := eT_ c7; clear c7; by_cases c8 : x5_1.length < 140737488355328
       ·rw [if_pos c8] at H
        have LMc8 := Z_ c8; clear c8; obtain ⟨y344, hy344⟩ : ∃ y_ : List Bool, y_ = (x5_1 ++ [rdOf false l1 x7_1]) := ⟨_, rfl⟩; replace H : (snowlineref04_Lengths.l0 k1 l1 y340 y344 (wrap64 (x7_1 + 1)) a0_0 l0_1) = some (r1, r2, r3) := by first | (rw [hy344]; with_reducible exact H) | (have H2_ := (oB_ _ _).symm.trans H; rw [hy344]; with_reducible exact H2_) | (have H2_ := (oB_ _ _).symm.trans H; with_reducible exact H2_) | with_reducible exact H | (rw [hy344]; exact H) | exact H
        have Ny344 := Z_ hy344; clear hy344; have H' := Z_ H; clear H; have hcz9_0 : wr.cell? ⟨gb339, 0, none⟩ = some (.int .i64 a0_0) := (bC_ BK339.out 0).trans rfl; have hcz9_1 : wr.cell? ⟨gb339, 1, none⟩ = some (.slice A0_1 l0_1.length c0_1) := (bC_ BK339.out 1).trans rfl; have hfz9_0 := bF_ BK339.out 0; have hfz9_1 := bF_ BK339.out 1; go_wp2_with (first | ((with_reducible refine gate_builtin (b := .append) (xs := #[.tmp 18, .tmp 19]) rfl ?_); at_builtin; refine Kd.R_append (Kd.int .i64) (w0 := w) w.heap.size rfl (.tmp 18) (.tmp 19) 29 3 (.int .i64 0) 8 rfl Try.underlying29 info3 rfl (by decide) (by omega) u4 x4_1 0 [.int .i64 0] (fun _ => True) (fun _ => False) rfl rfl ?aP (fun _ hk => hk.elim) ?aF ?aO ?aB ?aS ?aL ?_; (case aP => exact rfl); (case aB => exact HB.out); (case aF => exact (fun _ _ => trivial)); (case aO => exact HO_4.out); (case aS => exact (fZ_ HB.out)); (case aL => have := LMc5.out; omega); intro v341 w10 ho hb hg hat; rw [← Ny340.out] at ho; replace HO_5 := Z_ (Kd.R_over' HO_5.out (Kd.R_typed HO_4.out) (by decide) hg); replace BK339 := Z_ (blk_grown (g := gb339) (o := .cells #[.int .i64 a0_0, .slice A0_1 l0_1.length c0_1] 24 (0, 0)) BK339.out hg (Kd.R_ne HO_4.out BK339.out (by decide))); replace HB := Z_ (hb); have HO342 := Z_ (ho); clear HO_4; clear ho hb hg hat; have p343 : 0 ≤ (x7_1 : Int) := dT_ (by first | (with_reducible assumption) | assumption); have q343 : x7_1 < (l1.length : Int) := dT_ (by first | (with_reducible assumption) | assumption); obtain ⟨ad343, e343, hx343_0⟩ := Kd.at_bool HR1.out x7_1 p343 q343; cases e343; replace hx343_0 := (HB.out.cell (World.block_lt_of_cell? w _ hx343_0)).trans hx343_0; replace p343 := eq_true p343; replace q343 := eq_true q343) | ((with_reducible refine gate_builtin (b := .append) (xs := #[.tmp 21, .tmp 26]) rfl ?_); at_builtin; refine Kd.R_append Kd.bool (w0 := w) w.heap.size rfl (.tmp 21) (.tmp 26) 41 4 (.bool false) 1 rfl Try.underlying41 info4 rfl (by decide) (by omega) u5 x5_1 (rdOf false l1 x7_1) [.bool (rdOf false l1 x7_1)] (fun _ => True) (fun _ => False) rfl rfl ?aP (fun _ hk => hk.elim) ?aF ?aO ?aB ?aS ?aL ?_; (case aP => exact rfl); (case aB => exact HB.out); (case aF => exact (fun _ _ => trivial)); (case aO => exact HO_5.out); (case aS => exact (fZ_ HB.out)); (case aL => have := LMc8.out; omega); intro v345 w11 ho hb hg hat; rw [← Ny344.out] at ho; replace BK339 := Z_ (blk_grown (g := gb339) (o := .cells #[.int .i64 a0_0, .slice A0_1 l0_1.length c0_1] 24 (0, 0)) BK339.out hg (Kd.R_ne HO_5.out BK339.out (by decide))); replace HO342 := Z_ (Kd.R_over' HO342.out (Kd.R_typed HO_5.out) (by decide) hg); replace HB := Z_ (hb); have HO346 := Z_ (ho); clear HO_5; clear ho hb hg hat)); go_roundg k1
        case measure => have := HK1.out; omega
        case rel => exact ⟨(y340), (y344), (wrap64 (x7_1 + 1)), (by first | rfl | (simp; done) | (simp [*]; done)), H', ⟨by have := HK1.out; omega⟩, ⟨HO342.out⟩, ⟨HO346.out⟩, ⟨BK339.out⟩, ⟨HB.out⟩⟩
       rw [if_neg c8] at H; exact absurd H (by simp)
      rw [if_neg c7] at H; exact absurd H (by simp)
     rw [if_neg c6] at H; exact absurd H (by simp)
    rw [if_neg c5] at H; exact absurd H (by simp)
   rw [if_neg c4] at H; have c4b0 : decide (x7_1 < a0_0) = false := eF_ c4; clear c4; have H' := Z_ H; clear H; have hcz12_0 : wr.cell? ⟨gb339, 0, none⟩ = some (.int .i64 a0_0) := (bC_ BK339.out 0).trans rfl; have hcz12_1 : wr.cell? ⟨gb339, 1, none⟩ = some (.slice A0_1 l0_1.length c0_1) := (bC_ BK339.out 1).trans rfl; have hfz12_0 := bF_ BK339.out 0; have hfz12_1 := bF_ BK339.out 1; go_wp2; go_loopg [4, 5, 8] k1 (fun kq v4 v5 v8 w' => ∃ (x4_2 : List Int) (x5_2 : List Bool) (x8_2 : Int), v8 = .int .i64 x8_2 ∧ Aside0 (snowlineref04_Lengths.l1 kq x4_2 x5_2 x8_2 a0_0 l0_1 = some (r1, r2, r3)) ∧ Aside0 (kq ≤ k1) ∧ Aside0 (Kd.R (Kd.int .i64) 3 w' w.heap.size (fun _ => True) v4 x4_2) ∧ Aside0 (Kd.R Kd.bool 4 w' w.heap.size (fun _ => True) v5 x5_2) ∧ Aside0 (w'.heap[gb339]? = some (.cells #[.int .i64 a0_0, (.slice A0_1 l0_1.length c0_1)] 24 (0, 0))) ∧ Aside0 (Below w.heap.size w w'))
   case atStart => exact ⟨(x4_1), (x5_1), (0), (by first | rfl | (simp; done) | (simp [*]; done)), H', ⟨nR_ _⟩, ⟨HO_4.out⟩, ⟨HO_5.out⟩, ⟨BK339.out⟩, ⟨HB.out⟩⟩
   case round =>
    clear H'; (try clear c1); (try clear p2); (try clear p3); (try clear q3); (try clear hx3); (try clear c4); (try clear c4b0); (try clear c5); (try clear c6); (try clear c6b0); (try clear p6); (try clear c7); (try clear c7b0); (try clear c8); (try clear hcz12_0); (try clear hcz12_1); (try clear hcz9_0); (try clear hcz9_1); (try clear hfz12_0); (try clear hfz12_1); (try clear hfz9_0); (try clear hfz9_1); (try clear hx343_0); (try clear p2); (try clear p343); (try clear q343)
    obtain ⟨x4_2, x5_2, x8_2, rfl, HA, HK2, HO_4, HO_5, BK339, HB⟩ := hrel
    cases gk with
    | zero => exact absurd HA.out (by simp [snowlineref04_Lengths.l1])
    | succ k2 =>
     have H := HA.out; clear HA; simp only [snowlineref04_Lengths.l1] at H; by_cases c13 : x8_2 ≤ a0_0
     ·rw [if_pos c13] at H
      have c13b0 : decide (x8_2 ≤ a0_0) = true := eT_ c13; clear c13; have H' := Z_ H; clear H; have hcz14_0 : wr.cell? ⟨gb339, 0, none⟩ = some (.int .i64 a0_0) := (bC_ BK339.out 0).trans rfl; have hcz14_1 : wr.cell? ⟨gb339, 1, none⟩ = some (.slice A0_1 l0_1.length c0_1) := (bC_ BK339.out 1).trans rfl; have hfz14_0 := bF_ BK339.out 0; have hfz14_1 := bF_ BK339.out 1; go_wp2; go_loopg [9, 10] k2 (fun kq v9 v10 w' => ∃ (x4_3 : List Int) (x5_3 : List Bool) (x9_3 : Bool) (x10_3 : Int), v9 = .bool x9_3 ∧ v10 = .int .i64 x10_3 ∧ Aside0 (snowlineref04_Lengths.l2 kq x4_3 x5_3 x8_2 x9_3 x10_3 a0_0 l0_1 = some (r1, r2, r3)) ∧ Aside0 (kq ≤ k2) ∧ Aside0 (Kd.R (Kd.int .i64) 3 w' w.heap.size (fun _ => True) u4 x4_3) ∧ Aside0 (Kd.R Kd.bool 4 w' w.heap.size (fun _ => True) u5 x5_3) ∧ Aside0 (w'.heap[gb339]? = some (.cells #[.int .i64 a0_0, (.slice A0_1 l0_1.length c0_1)] 24 (0, 0))) ∧ Aside0 (Below w.heap.size w w'))
      case atStart => exact ⟨(x4_2), (x5_2), (false), (0), (by first | rfl | (simp; done) | (simp [*]; done)), (by first | rfl | (simp; done) | (simp [*]; done)), H', ⟨nR_ _⟩, ⟨HO_4.out⟩, ⟨HO_5.out⟩, ⟨BK339.out⟩, ⟨HB.out⟩⟩
      case round =>
       clear H'; (try clear c1); (try clear p2); (try clear p3); (try clear q3); (try clear hx3); (try clear c4); (try clear c4b0); (try clear c5); (try clear c6); (try clear c6b0); (try clear p6); (try clear c7); (try clear c7b0); (try clear c8); (try clear c13); (try clear c13b0); (try clear hcz12_0); (try clear hcz12_1); (try clear hcz14_0); (try clear hcz14_1); (try clear hcz9_0); (try clear hcz9_1); (try clear hfz12_0); (try clear hfz12_1); (try clear hfz14_0); (try clear hfz14_1); (try clear hfz9_0); (try clear hfz9_1); (try clear hx343_0); (try clear p2); (try clear p3); (try clear p343); (try clear p6); (try clear q3); (try clear q343)
       obtain ⟨x4_3, x5_3, x9_3, x10_3, rfl, rfl, HA, HK3, HO_4, HO_5, BK339, HB⟩ := hrel
       cases gk with
       | zero => exact absurd HA.out (by simp [snowlineref04_Lengths.l2])
       | succ k3 =>
        have H := HA.out; clear HA; simp only [snowlineref04_Lengths.l2] at H; by_cases c15 : x10_3 < (l0_1.length : Int)
        ·rw [if_pos c15] at H
         have c15b0 : decide (x10_3 < (l0_1.length : Int)) = true := eT_ c15; clear c15; by_cases c16 : 0 ≤ x10_3
         ·rw [if_pos c16] at H
          have c16b0 : decide (0 ≤ x10_3) = true := eT_ c16; clear c16; have HC17 := Z_ H; clear H; have hcz18_0 : wr.cell? ⟨gb339, 0, none⟩ = some (.int .i64 a0_0) := (bC_ BK339.out 0).trans rfl; have hcz18_1 : wr.cell? ⟨gb339, 1, none⟩ = some (.slice A0_1 l0_1.length c0_1) := (bC_ BK339.out 1).trans rfl; have hfz18_0 := bF_ BK339.out 0; have hfz18_1 := bF_ BK339.out 1; have p347 : 0 ≤ (x10_3 : Int) := dT_ (by first | (with_reducible assumption) | assumption); have q347 : x10_3 < (l0_1.length : Int) := dT_ (by first | (with_reducible assumption) | assumption); obtain ⟨ad347, e347, hx347_0, hx347_1, hx347_2⟩ := at_T39 HR0_1.out x10_3 p347 q347; cases e347
          replace hx347_0 := (HB.out.cell (World.block_lt_of_cell? w _ hx347_0)).trans hx347_0; replace hx347_1 := (HB.out.cell (World.block_lt_of_cell? w _ hx347_1)).trans hx347_1; replace hx347_2 := (HB.out.cell (World.block_lt_of_cell? w _ hx347_2)).trans hx347_2; replace p347 := eq_true p347; replace q347 := eq_true q347; go_upto_region 14 with (first | ((with_reducible refine gate_dst (N := 11) rfl ?_); refine box_event ?hg (N := 11) ?hd (cs := #[.int .i64 0, .int .i64 0, .int .i64 0]) (t := 39) ?hr ?_; (case hd => rfl); (case hg => rfl); (case hr => first | (go_simp; done) | (go_simp; rfl)); intro gb348 hg w19 hbox hb; replace HO_4 := Z_ (rB_ HO_4.out hb); replace HO_5 := Z_ (rB_ HO_5.out hb); have BK348 := Z_ (hbox); have GW348 := Z_ ((by rw [hg]; exact (fZ_ HB.out) : w.heap.size ≤ gb348)); have GE348 := Z_ ((by rw [hg]; exact (fZ_ HB.out) : w.heap.size ≤ gb348)); replace HB := Z_ (fS_ HB.out hb); have NB339_348 := Z_ ((by rw [hg]; exact Nat.ne_of_lt (blk_lt (g := gb339) (o := .cells #[.int .i64 a0_0, .slice (some ad347) l0_1.length c0_1] 24 (0, 0)) BK339.out) : gb339 ≠ gb348)); have NB348_339 := Z_ ((by rw [hg]; exact Nat.ne_of_gt (blk_lt (g := gb339) (o := .cells #[.int .i64 a0_0, .slice (some ad347) l0_1.length c0_1] 24 (0, 0)) BK339.out) : gb348 ≠ gb339)); replace BK339 := Z_ (bB_ (g := gb339) (o := .cells #[.int .i64 a0_0, .slice (some ad347) l0_1.length c0_1] 24 (0, 0)) BK339.out hb); clear hb hbox hg; have hnb20 := NB348_339.out; have hnc20 := NB339_348.out; have hcz21_0 : w19.cell? ⟨gb348, 0, none⟩ = some (.int .i64 0) := (bC_ BK348.out 0).trans rfl; have hcz21_1 : w19.cell? ⟨gb348, 1, none⟩ = some (.int .i64 0) := (bC_ BK348.out 1).trans rfl; have hcz21_2 : w19.cell? ⟨gb348, 2, none⟩ = some (.int .i64 0) := (bC_ BK348.out 2).trans rfl; have hfz21_0 := bF_ BK348.out 0; have hfz21_1 := bF_ BK348.out 1; have hfz21_2 := bF_ BK348.out 2)); (try simp only [Act.put, sT_, sZ_, sS_])
          go_cut [74] (fun v74 wc => ∃ (kq : Nat) (x74_16 : Bool), v74 = .bool x74_16 ∧ Aside0 (snowlineref04_Lengths.j3 kq x4_3 x5_3 x8_2 x9_3 x10_3 x74_16 a0_0 l0_1 ((rd_T39 l0_1 x10_3).f0) ((rd_T39 l0_1 x10_3).f1) ((rd_T39 l0_1 x10_3).f2) = some (r1, r2, r3)) ∧ Aside0 (kq ≤ k3) ∧ Aside0 (Kd.R (Kd.int .i64) 3 wc w.heap.size (fun _ => True) u4 x4_3) ∧ Aside0 (Kd.R Kd.bool 4 wc w.heap.size (fun _ => True) u5 x5_3) ∧ Aside0 (wc.heap[gb339]? = some (.cells #[.int .i64 a0_0, (.slice (some ad347) l0_1.length c0_1)] 24 (0, 0))) ∧ Aside0 (wc.heap[gb348]? = some (.cells #[.int .i64 ((rd_T39 l0_1 x10_3).f0), .int .i64 ((rd_T39 l0_1 x10_3).f1), .int .i64 ((rd_T39 l0_1 x10_3).f2)] 39 (0, 0))) ∧ Aside0 (Below w.heap.size w wc))
          case first =>
           have H := HC17.out; clear HC17; by_cases c22 : 0 ≤ ((rd_T39 l0_1 x10_3).f0)
           ·rw [if_pos c22] at H
            have c22b0 : decide (0 ≤ ((rd_T39 l0_1 x10_3).f0)) = true := eT_ c22; clear c22; (first | rw [c22b0] | (simp only [i64_w, i32_w]; rw [c22b0]) | skip)
            by_cases c23 : ((rd_T39 l0_1 x10_3).f0) < (x5_3.length : Int)
            ·rw [if_pos c23] at H
             have c23b0 : decide (((rd_T39 l0_1 x10_3).f0) < (x5_3.length : Int)) = true := eT_ c23; clear c23; obtain ⟨bq24, hbq24⟩ : ∃ b_ : Bool, b_ = (rdOf false x5_3 ((rd_T39 l0_1 x10_3).f0)) := ⟨_, rfl⟩; replace H : (if bq24 = true then (if 0 ≤ ((rd_T39 l0_1 x10_3).f1) then (if ((rd_T39 l0_1 x10_3).f1) < (x5_3.length : Int) then (if (rdOf false x5_3 ((rd_T39 l0_1 x10_3).f1) = true) then (if ((rd_T39 l0_1 x10_3).f0) < (x4_3.length : Int) then (if ((rd_T39 l0_1 x10_3).f1) < (x4_3.length : Int) then (snowlineref04_Lengths.j3 k3 x4_3 x5_3 x8_2 x9_3 x10_3 (decide ((wrap64 ((rd x4_3 ((rd_T39 l0_1 x10_3).f0)) + ((rd_T39 l0_1 x10_3).f2))) < (rd x4_3 ((rd_T39 l0_1 x10_3).f1)))) a0_0 l0_1 ((rd_T39 l0_1 x10_3).f0) ((rd_T39 l0_1 x10_3).f1) ((rd_T39 l0_1 x10_3).f2)) else (none)) else (none)) else (snowlineref04_Lengths.j3 k3 x4_3 x5_3 x8_2 x9_3 x10_3 true a0_0 l0_1 ((rd_T39 l0_1 x10_3).f0) ((rd_T39 l0_1 x10_3).f1) ((rd_T39 l0_1 x10_3).f2))) else (none)) else (none)) else (snowlineref04_Lengths.j3 k3 x4_3 x5_3 x8_2 x9_3 x10_3 false a0_0 l0_1 ((rd_T39 l0_1 x10_3).f0) ((rd_T39 l0_1 x10_3).f1) ((rd_T39 l0_1 x10_3).f2))) = some (r1, r2, r3) := by rw [← hbq24] at H; exact H
             have Nbq24 := Z_ hbq24; clear hbq24; by_cases c25 : bq24 = true
             ·subst c25
              have H1 : (if 0 ≤ ((rd_T39 l0_1 x10_3).f1) then (if ((rd_T39 l0_1 x10_3).f1) < (x5_3.length : Int) then (if (rdOf false x5_3 ((rd_T39 l0_1 x10_3).f1) = true) then (if ((rd_T39 l0_1 x10_3).f0) < (x4_3.length : Int) then (if ((rd_T39 l0_1 x10_3).f1) < (x4_3.length : Int) then (snowlineref04_Lengths.j3 k3 x4_3 x5_3 x8_2 x9_3 x10_3 (decide ((wrap64 ((rd x4_3 ((rd_T39 l0_1 x10_3).f0)) + ((rd_T39 l0_1 x10_3).f2))) < (rd x4_3 ((rd_T39 l0_1 x10_3).f1)))) a0_0 l0_1 ((rd_T39 l0_1 x10_3).f0) ((rd_T39 l0_1 x10_3).f1) ((rd_T39 l0_1 x10_3).f2)) else (none)) else (none)) else (snowlineref04_Lengths.j3 k3 x4_3 x5_3 x8_2 x9_3 x10_3 true a0_0 l0_1 ((rd_T39 l0_1 x10_3).f0) ((rd_T39 l0_1 x10_3).f1) ((rd_T39 l0_1 x10_3).f2))) else (none)) else (none)) = some (r1, r2, r3) := by rw [if_pos rfl] at H; exact H
              clear H; have H := H1; clear H1; by_cases c26 : 0 ≤ ((rd_T39 l0_1 x10_3).f1)
              ·rw [if_pos c26] at H
               have c26b0 : decide (0 ≤ ((rd_T39 l0_1 x10_3).f1)) = true := eT_ c26; clear c26; by_cases c27 : ((rd_T39 l0_1 x10_3).f1) < (x5_3.length : Int)
               ·rw [if_pos c27] at H
                have c27b0 : decide (((rd_T39 l0_1 x10_3).f1) < (x5_3.length : Int)) = true := eT_ c27; clear c27; obtain ⟨bq28, hbq28⟩ : ∃ b_ : Bool, b_ = (rdOf false x5_3 ((rd_T39 l0_1 x10_3).f1)) := ⟨_, rfl⟩; replace H : (if (bq28 = true) then (if ((rd_T39 l0_1 x10_3).f0) < (x4_3.length : Int) then (if ((rd_T39 l0_1 x10_3).f1) < (x4_3.length : Int) then (snowlineref04_Lengths.j3 k3 x4_3 x5_3 x8_2 x9_3 x10_3 (decide ((wrap64 ((rd x4_3 ((rd_T39 l0_1 x10_3).f0)) + ((rd_T39 l0_1 x10_3).f2))) < (rd x4_3 ((rd_T39 l0_1 x10_3).f1)))) a0_0 l0_1 ((rd_T39 l0_1 x10_3).f0) ((rd_T39 l0_1 x10_3).f1) ((rd_T39 l0_1 x10_3).f2)) else (none)) else (none)) else (snowlineref04_Lengths.j3 k3 x4_3 x5_3 x8_2 x9_3 x10_3 true a0_0 l0_1 ((rd_T39 l0_1 x10_3).f0) ((rd_T39 l0_1 x10_3).f1) ((rd_T39 l0_1 x10_3).f2))) = some (r1, r2, r3) := by rw [← hbq28] at H; exact H
                have Nbq28 := Z_ hbq28; clear hbq28; by_cases c29 : (bq28 = true)
                ·subst c29
                 have H1 : (if ((rd_T39 l0_1 x10_3).f0) < (x4_3.length : Int) then (if ((rd_T39 l0_1 x10_3).f1) < (x4_3.length : Int) then (snowlineref04_Lengths.j3 k3 x4_3 x5_3 x8_2 x9_3 x10_3 (decide ((wrap64 ((rd x4_3 ((rd_T39 l0_1 x10_3).f0)) + ((rd_T39 l0_1 x10_3).f2))) < (rd x4_3 ((rd_T39 l0_1 x10_3).f1)))) a0_0 l0_1 ((rd_T39 l0_1 x10_3).f0) ((rd_T39 l0_1 x10_3).f1) ((rd_T39 l0_1 x10_3).f2)) else (none)) else (none)) = some (r1, r2, r3) := by rw [if_pos rfl] at H; exact H
                 clear H; have H := H1; clear H1; by_cases c30 : ((rd_T39 l0_1 x10_3).f0) < (x4_3.length : Int)
                 ·rw [if_pos c30] at H
                  have c30b0 : decide (((rd_T39 l0_1 x10_3).f0) < (x4_3.length : Int)) = true := eT_ c30; clear c30; by_cases c31 : ((rd_T39 l0_1 x10_3).f1) < (x4_3.length : Int)
                  ·rw [if_pos c31] at H
                   have c31b0 : decide (((rd_T39 l0_1 x10_3).f1) < (x4_3.length : Int)) = true := eT_ c31; clear c31; have H' := Z_ H; clear H; try go_wp2
                   have n0_ : Aside0 (Kd.R (Kd.int .i64) 3 (((w19.setCell ⟨gb348, 0, none⟩ (.int .i64 ((rd_T39 l0_1 x10_3).f0))).setCell ⟨gb348, 1, none⟩ (.int .i64 ((rd_T39 l0_1 x10_3).f1))).setCell ⟨gb348, 2, none⟩ (.int .i64 ((rd_T39 l0_1 x10_3).f2))) w.heap.size (fun _ => True) u4 x4_3) := ⟨by (with_reducible repeat (first | apply rN_ | apply rD_)); exact rM_ (rF_ (p := ⟨gb348, 2, none⟩) (rF_ (p := ⟨gb348, 1, none⟩) (rF_ (p := ⟨gb348, 0, none⟩) (Kd.R_types HO_4.out BK348.out (by decide)) (fun _ hk => hk.2) (.int .i64 ((rd_T39 l0_1 x10_3).f0))) (fun _ hk => hk.2) (.int .i64 ((rd_T39 l0_1 x10_3).f1))) (fun _ hk => hk.2) (.int .i64 ((rd_T39 l0_1 x10_3).f2))) (fun _ hk => trivial)⟩; have n1_ : Aside0 (Kd.R Kd.bool 4 (((w19.setCell ⟨gb348, 0, none⟩ (.int .i64 ((rd_T39 l0_1 x10_3).f0))).setCell ⟨gb348, 1, none⟩ (.int .i64 ((rd_T39 l0_1 x10_3).f1))).setCell ⟨gb348, 2, none⟩ (.int .i64 ((rd_T39 l0_1 x10_3).f2))) w.heap.size (fun _ => True) u5 x5_3) := ⟨by (with_reducible repeat (first | apply rN_ | apply rD_)); exact rM_ (rF_ (p := ⟨gb348, 2, none⟩) (rF_ (p := ⟨gb348, 1, none⟩) (rF_ (p := ⟨gb348, 0, none⟩) (Kd.R_types HO_5.out BK348.out (by decide)) (fun _ hk => hk.2) (.int .i64 ((rd_T39 l0_1 x10_3).f0))) (fun _ hk => hk.2) (.int .i64 ((rd_T39 l0_1 x10_3).f1))) (fun _ hk => hk.2) (.int .i64 ((rd_T39 l0_1 x10_3).f2))) (fun _ hk => trivial)⟩; have n2_ : Aside0 ((((w19.setCell ⟨gb348, 0, none⟩ (.int .i64 ((rd_T39 l0_1 x10_3).f0))).setCell ⟨gb348, 1, none⟩ (.int .i64 ((rd_T39 l0_1 x10_3).f1))).setCell ⟨gb348, 2, none⟩ (.int .i64 ((rd_T39 l0_1 x10_3).f2))).heap[gb339]? = some (.cells #[.int .i64 a0_0, .slice (some ad347) l0_1.length c0_1] 24 (0, 0))) := ⟨by (with_reducible repeat (first | refine bN_ ?_ _ | refine bD_ ?_)); refine blk_far ?_ NB339_348.out _; (with_reducible repeat (first | refine bN_ ?_ _ | refine bD_ ?_)); refine blk_far ?_ NB339_348.out _; (with_reducible repeat (first | refine bN_ ?_ _ | refine bD_ ?_)); refine blk_far ?_ NB339_348.out _; (with_reducible repeat (first | refine bN_ ?_ _ | refine bD_ ?_)); exact BK339.out⟩; have n3_ : Aside0 ((((w19.setCell ⟨gb348, 0, none⟩ (.int .i64 ((rd_T39 l0_1 x10_3).f0))).setCell ⟨gb348, 1, none⟩ (.int .i64 ((rd_T39 l0_1 x10_3).f1))).setCell ⟨gb348, 2, none⟩ (.int .i64 ((rd_T39 l0_1 x10_3).f2))).heap[gb348]? = some (.cells #[.int .i64 ((rd_T39 l0_1 x10_3).f0), .int .i64 ((rd_T39 l0_1 x10_3).f1), .int .i64 ((rd_T39 l0_1 x10_3).f2)] 39 (0, 0))) := ⟨by (with_reducible repeat (first | refine bN_ ?_ _ | refine bD_ ?_)); refine blk_put (cs := #[.int .i64 ((rd_T39 l0_1 x10_3).f0), .int .i64 ((rd_T39 l0_1 x10_3).f1), .int .i64 0]) ?_ 2 _ rfl; (with_reducible repeat (first | refine bN_ ?_ _ | refine bD_ ?_)); refine blk_put (cs := #[.int .i64 ((rd_T39 l0_1 x10_3).f0), .int .i64 0, .int .i64 0]) ?_ 1 _ rfl; (with_reducible repeat (first | refine bN_ ?_ _ | refine bD_ ?_)); refine blk_put (cs := #[.int .i64 0, .int .i64 0, .int .i64 0]) ?_ 0 _ rfl; (with_reducible repeat (first | refine bN_ ?_ _ | refine bD_ ?_)); exact BK348.out⟩; have n4_ : Aside0 (Below w.heap.size w (((w19.setCell ⟨gb348, 0, none⟩ (.int .i64 ((rd_T39 l0_1 x10_3).f0))).setCell ⟨gb348, 1, none⟩ (.int .i64 ((rd_T39 l0_1 x10_3).f1))).setCell ⟨gb348, 2, none⟩ (.int .i64 ((rd_T39 l0_1 x10_3).f2)))) := ⟨by repeat (first | (with_reducible first | exact HB.out | apply fA_ | apply pB_ | apply fD_ | refine fE_ ?_ GE339.out | refine fE_ ?_ GE348.out) | exact HB.out)⟩; (try clear HO_4)
                   (try clear HO_5)
                   (try clear BK339)
                   (try clear BK348)
                   (try clear HB)
                   generalize (((w19.setCell ⟨gb348, 0, none⟩ (.int .i64 ((rd_T39 l0_1 x10_3).f0))).setCell ⟨gb348, 1, none⟩ (.int .i64 ((rd_T39 l0_1 x10_3).f1))).setCell ⟨gb348, 2, none⟩ (.int .i64 ((rd_T39 l0_1 x10_3).f2))) = w32 at n0_ n1_ n2_ n3_ n4_ ⊢; have HO_4 := n0_; have HO_5 := n1_; have BK339 := n2_; have BK348 := n3_; have HB := n4_; clear n0_ n1_ n2_ n3_ n4_; replace HO_4 := Z_ (rD_ HO_4.out); replace HO_5 := Z_ (rD_ HO_5.out); replace BK339 := Z_ (bD_ BK339.out); replace BK348 := Z_ (bD_ BK348.out); replace HB := Z_ (fD_ HB.out); obtain ⟨Ao34, co34, eo34⟩ := rS_ HO_5.out; (first | subst eo34 | (injection eo34 with f1_ f2_ f3_; have f4_ := f1_.symm; have f5_ := f3_.symm; clear f1_ f2_ f3_; subst f4_; subst f5_))
                   have p349 : 0 ≤ (((rd_T39 l0_1 x10_3).f0) : Int) := dT_ (by first | (with_reducible assumption) | assumption); have q349 : ((rd_T39 l0_1 x10_3).f0) < (x5_3.length : Int) := dT_ (by first | (with_reducible assumption) | assumption); obtain ⟨ad349, e349, hx349_0⟩ := Kd.at_bool (rR_ HO_5.out).2.2 ((rd_T39 l0_1 x10_3).f0) p349 q349; (try rw [← Nbq24.out] at hx349_0)
                   (try rw [← Nbq28.out] at hx349_0)
                   cases e349
                   replace p349 := eq_true p349; replace q349 := eq_true q349; have p350 : 0 ≤ (((rd_T39 l0_1 x10_3).f1) : Int) := dT_ (by first | (with_reducible assumption) | assumption); have q350 : ((rd_T39 l0_1 x10_3).f1) < (x5_3.length : Int) := dT_ (by first | (with_reducible assumption) | assumption); obtain ⟨ad350, e350, hx350_0⟩ := Kd.at_bool (rR_ HO_5.out).2.2 ((rd_T39 l0_1 x10_3).f1) p350 q350; (try rw [← Nbq24.out] at hx350_0)
                   (try rw [← Nbq28.out] at hx350_0)
                   obtain rfl : ad349 = ad350 := (by injection e350); replace p350 := eq_true p350; replace q350 := eq_true q350; obtain ⟨Ao35, co35, eo35⟩ := rS_ HO_4.out; (first | subst eo35 | (injection eo35 with f1_ f2_ f3_; have f4_ := f1_.symm; have f5_ := f3_.symm; clear f1_ f2_ f3_; subst f4_; subst f5_))
                   have p351 : 0 ≤ (((rd_T39 l0_1 x10_3).f0) : Int) := dT_ (by first | (with_reducible assumption) | assumption); have q351 : ((rd_T39 l0_1 x10_3).f0) < (x4_3.length : Int) := dT_ (by first | (with_reducible assumption) | assumption); obtain ⟨ad351, e351, hx351_0⟩ := Kd.at_int (rR_ HO_4.out).2.2 ((rd_T39 l0_1 x10_3).f0) p351 q351; cases e351
                   replace p351 := eq_true p351; replace q351 := eq_true q351; have p352 : 0 ≤ (((rd_T39 l0_1 x10_3).f1) : Int) := dT_ (by first | (with_reducible assumption) | assumption); have q352 : ((rd_T39 l0_1 x10_3).f1) < (x4_3.length : Int) := dT_ (by first | (with_reducible assumption) | assumption); obtain ⟨ad352, e352, hx352_0⟩ := Kd.at_int (rR_ HO_4.out).2.2 ((rd_T39 l0_1 x10_3).f1) p352 q352; obtain rfl : ad351 = ad352 := (by injection e352); replace p352 := eq_true p352; replace q352 := eq_true q352; refine start_ (n := 29) (S := fun w' => w'.cell? ⟨gb348, 0, none⟩ = some (.int .i64 ((rd_T39 l0_1 x10_3).f0)) ∧ w'.cell? ⟨gb348, 1, none⟩ = some (.int .i64 ((rd_T39 l0_1 x10_3).f1)) ∧ w'.cell? ⟨gb348, 2, none⟩ = some (.int .i64 ((rd_T39 l0_1 x10_3).f2)) ∧ w'.cell? (ad349.add (((rd_T39 l0_1 x10_3).f0)).toNat) = some (.bool true) ∧ w'.cell? (ad349.add (((rd_T39 l0_1 x10_3).f1)).toNat) = some (.bool true) ∧ w'.cell? (ad351.add (((rd_T39 l0_1 x10_3).f0)).toNat) = some (.int .i64 (rd x4_3 ((rd_T39 l0_1 x10_3).f0))) ∧ w'.cell? (ad351.add (((rd_T39 l0_1 x10_3).f1)).toNat) = some (.int .i64 (rd x4_3 ((rd_T39 l0_1 x10_3).f1)))) (ds := []) #[false, false, false, false, false, false, false, false, false, false, false, false, false, false, false, false, false, false, false, false, false, false, false, false, false, false, false, false, false] (by kernel_rfl) rfl rfl ⟨(bC_ BK348.out 0).trans rfl, (bC_ BK348.out 1).trans rfl, (bC_ BK348.out 2).trans rfl, hx349_0, hx350_0, hx351_0, hx352_0⟩ (fun hHeld => ?_); refine with_tabW snowlineref04_Lengths.tab14 snowlineref04_Lengths.bits14 (fun HT_ HW_ => ?_); generalize w32.drew = w33 at HO_4 HO_5 BK339 BK348 HB hx349_0 hx350_0 hx351_0 hx352_0 hHeld ⊢; refine pure_ (i := 0) (N := some 46) (v := ?_) (a' := ?_) (mB_ 29 1) rfl rfl (any_of HT_.out (by kernel_rfl)) (fun _ _ _ h => h) (Or.inl ⟨by rfl, ?_⟩) ?_ ?_; rotate_left; ·intro w'; go_simp; with_reducible rfl
                   rotate_left; ·simp only [Act.put, sT_, sZ_, sS_, i64_w]; rfl
                   refine pure_ (i := 1) (N := some 47) (v := ?_) (a' := ?_) (mB_ 29 3) rfl rfl (any_of HT_.out (by kernel_rfl)) (fun _ _ _ h => h) (Or.inl ⟨by rfl, ?_⟩) ?_ ?_; rotate_left; ·intro w'; go_simp; with_reducible rfl
                   rotate_left; ·simp only [Act.put, sT_, sZ_, sS_, i64_w]; rfl
                   refine take_ (i := 2) (N := some 48) (v := ?_) (a' := ?_) (mB_ 29 7) rfl rfl (take_ofW HT_.out HW_.out (by kernel_rfl)) (fun _ _ _ h => h) (Or.inl ⟨by rfl, ?_⟩) hHeld ?_ ?_; rotate_left; ·rintro w' ⟨s0, s1, s2, s3, s4, s5, s6⟩; go_simp; with_reducible rfl
                   rotate_left; ·simp only [Act.put, sT_, sZ_, sS_, i64_w]; rfl
                   refine pure_ (i := 3) (N := some 49) (v := ?_) (a' := ?_) (mB_ 29 15) rfl rfl (any_of HT_.out (by kernel_rfl)) (fun _ _ _ h => h) (Or.inl ⟨by rfl, ?_⟩) ?_ ?_; rotate_left; ·intro w'; go_simp; with_reducible rfl
                   rotate_left; ·simp only [Act.put, sT_, sZ_, sS_, i64_w]; rfl
                   refine take_ (i := 4) (N := some 50) (v := ?_) (a' := ?_) (mB_ 29 31) rfl rfl (take_ofW HT_.out HW_.out (by kernel_rfl)) (fun _ _ _ h => h) (Or.inl ⟨by rfl, ?_⟩) hHeld ?_ ?_; rotate_left; ·rintro w' ⟨s0, s1, s2, s3, s4, s5, s6⟩; go_simp; with_reducible rfl
                   rotate_left; ·simp only [Act.put, sT_, sZ_, sS_, i64_w]; rfl
                   refine pure_ (i := 5) (N := some 51) (v := ?_) (a' := ?_) (mB_ 29 63) rfl rfl (any_of HT_.out (by kernel_rfl)) (fun _ _ _ h => h) (Or.inl ⟨by rfl, ?_⟩) ?_ ?_; rotate_left; ·intro w'; go_simp; with_reducible rfl
                   rotate_left; ·simp only [Act.put, sT_, sZ_, sS_, i64_w]; rfl
                   refine pure_ (i := 6) (N := some 52) (v := ?_) (a' := ?_) (mB_ 29 127) rfl rfl (any_of HT_.out (by kernel_rfl)) (fun _ _ _ h => h) (Or.inl ⟨by rfl, ?_⟩) ?_ ?_; rotate_left; ·intro w'; go_simp; with_reducible rfl
                   rotate_left; ·simp only [Act.put, sT_, sZ_, sS_, i64_w]; rfl
                   refine pure_ (i := 7) (N := some 53) (v := ?_) (a' := ?_) (mB_ 29 255) rfl rfl (any_of HT_.out (by kernel_rfl)) (fun _ _ _ h => h) (Or.inl ⟨by rfl, ?_⟩) ?_ ?_; rotate_left; ·intro w'; go_simp; with_reducible rfl
                   rotate_left; ·simp only [Act.put, sT_, sZ_, sS_, i64_w]; rfl
                   refine take_ (i := 8) (N := some 54) (v := ?_) (a' := ?_) (mB_ 29 511) rfl rfl (take_ofW HT_.out HW_.out (by kernel_rfl)) (fun _ _ _ h => h) (Or.inl ⟨by rfl, ?_⟩) hHeld ?_ ?_; rotate_left; ·rintro w' ⟨s0, s1, s2, s3, s4, s5, s6⟩; go_simp; with_reducible rfl
                   rotate_left; ·simp only [Act.put, sT_, sZ_, sS_, i64_w]; rfl
                   refine pure_ (i := 9) (N := some 55) (v := ?_) (a' := ?_) (mB_ 29 1023) rfl rfl (any_of HT_.out (by kernel_rfl)) (fun _ _ _ h => h) (Or.inl ⟨by rfl, ?_⟩) ?_ ?_; rotate_left; ·intro w'; go_simp; with_reducible rfl
                   rotate_left; ·simp only [Act.put, sT_, sZ_, sS_, i64_w]; rfl
                   refine take_ (i := 10) (N := some 56) (v := ?_) (a' := ?_) (mB_ 29 2047) rfl rfl (take_ofW HT_.out HW_.out (by kernel_rfl)) (fun _ _ _ h => h) (Or.inl ⟨by rfl, ?_⟩) hHeld ?_ ?_; rotate_left; ·rintro w' ⟨s0, s1, s2, s3, s4, s5, s6⟩; go_simp; with_reducible rfl
                   rotate_left; ·simp only [Act.put, sT_, sZ_, sS_, i64_w]; rfl
                   refine pure_ (i := 11) (N := some 57) (v := ?_) (a' := ?_) (mB_ 29 4095) rfl rfl (any_of HT_.out (by kernel_rfl)) (fun _ _ _ h => h) (Or.inl ⟨by rfl, ?_⟩) ?_ ?_; rotate_left; ·intro w'; go_simp; with_reducible rfl
                   rotate_left; ·simp only [Act.put, sT_, sZ_, sS_, i64_w]; rfl
                   refine pure_ (i := 12) (N := some 58) (v := ?_) (a' := ?_) (mB_ 29 8191) rfl rfl (any_of HT_.out (by kernel_rfl)) (fun _ _ _ h => h) (Or.inl ⟨by rfl, ?_⟩) ?_ ?_; rotate_left; ·intro w'; go_simp; with_reducible rfl
                   rotate_left; ·simp only [Act.put, sT_, sZ_, sS_, i64_w]; rfl
                   refine pure_ (i := 13) (N := some 59) (v := ?_) (a' := ?_) (mB_ 29 16383) rfl rfl (any_of HT_.out (by kernel_rfl)) (fun _ _ _ h => h) (Or.inl ⟨by rfl, ?_⟩) ?_ ?_; rotate_left; ·intro w'; go_simp; with_reducible rfl
                   rotate_left; ·simp only [Act.put, sT_, sZ_, sS_, i64_w]; rfl
                   refine pure_ (i := 14) (N := some 60) (v := ?_) (a' := ?_) (mB_ 29 32767) rfl rfl (any_of HT_.out (by kernel_rfl)) (fun _ _ _ h => h) (Or.inl ⟨by rfl, ?_⟩) ?_ ?_; rotate_left; ·intro w'; go_simp; with_reducible rfl
                   rotate_left; ·simp only [Act.put, sT_, sZ_, sS_, i64_w]; rfl
                   refine pure_ (i := 18) (N := some 64) (v := ?_) (a' := ?_) (mB_ 29 294911) rfl rfl (any_of HT_.out (by kernel_rfl)) (fun _ _ _ h => h) (Or.inl ⟨by rfl, ?_⟩) ?_ ?_; rotate_left; ·intro w'; go_simp; with_reducible rfl
                   rotate_left; ·simp only [Act.put, sT_, sZ_, sS_, i64_w]; rfl
                   refine pure_ (i := 21) (N := some 67) (v := ?_) (a' := ?_) (mB_ 29 2392063) rfl rfl (any_of HT_.out (by kernel_rfl)) (fun _ _ _ h => h) (Or.inl ⟨by rfl, ?_⟩) ?_ ?_; rotate_left; ·intro w'; go_simp; with_reducible rfl
                   rotate_left; ·simp only [Act.put, sT_, sZ_, sS_, i64_w]; rfl
                   refine pure_ (i := 22) (N := some 68) (v := ?_) (a' := ?_) (mB_ 29 6586367) rfl rfl (any_of HT_.out (by kernel_rfl)) (fun _ _ _ h => h) (Or.inl ⟨by rfl, ?_⟩) ?_ ?_; rotate_left; ·intro w'; go_simp; with_reducible rfl
                   rotate_left; ·simp only [Act.put, sT_, sZ_, sS_, i64_w]; rfl
                   refine take_ (i := 15) (N := some 61) (v := ?_) (a' := ?_) (mB_ 29 6619135) rfl rfl (take_ofW HT_.out HW_.out (by kernel_rfl)) (fun _ _ _ h => h) (Or.inl ⟨by rfl, ?_⟩) hHeld ?_ ?_; rotate_left; ·rintro w' ⟨s0, s1, s2, s3, s4, s5, s6⟩; go_simp; with_reducible rfl
                   rotate_left; ·simp only [Act.put, sT_, sZ_, sS_, i64_w]; rfl
                   refine pure_ (i := 16) (N := some 62) (v := ?_) (a' := ?_) (mB_ 29 6684671) rfl rfl (any_of HT_.out (by kernel_rfl)) (fun _ _ _ h => h) (Or.inl ⟨by rfl, ?_⟩) ?_ ?_; rotate_left; ·intro w'; go_simp; with_reducible rfl
                   rotate_left; ·simp only [Act.put, sT_, sZ_, sS_, i64_w]; rfl
                   refine take_ (i := 17) (N := some 63) (v := ?_) (a' := ?_) (mB_ 29 6815743) rfl rfl (take_ofW HT_.out HW_.out (by kernel_rfl)) (fun _ _ _ h => h) (Or.inl ⟨by rfl, ?_⟩) hHeld ?_ ?_; rotate_left; ·rintro w' ⟨s0, s1, s2, s3, s4, s5, s6⟩; go_simp; with_reducible rfl
                   rotate_left; ·simp only [Act.put, sT_, sZ_, sS_, i64_w]; rfl
                   refine take_ (i := 19) (N := some 65) (v := ?_) (a' := ?_) (mB_ 29 7340031) rfl rfl (take_ofW HT_.out HW_.out (by kernel_rfl)) (fun _ _ _ h => h) (Or.inl ⟨by rfl, ?_⟩) hHeld ?_ ?_; rotate_left; ·rintro w' ⟨s0, s1, s2, s3, s4, s5, s6⟩; go_simp; with_reducible rfl
                   rotate_left; ·simp only [Act.put, sT_, sZ_, sS_, i64_w]; rfl
                   refine pure_ (i := 20) (N := some 66) (v := ?_) (a' := ?_) (mB_ 29 8388607) rfl rfl (any_of HT_.out (by kernel_rfl)) (fun _ _ _ h => h) (Or.inl ⟨by rfl, ?_⟩) ?_ ?_; rotate_left; ·intro w'; go_simp; with_reducible rfl
                   rotate_left; ·simp only [Act.put, sT_, sZ_, sS_, i64_w]; rfl
                   refine take_ (i := 23) (N := some 69) (v := ?_) (a' := ?_) (mB_ 29 16777215) rfl rfl (take_ofW HT_.out HW_.out (by kernel_rfl)) (fun _ _ _ h => h) (Or.inl ⟨by rfl, ?_⟩) hHeld ?_ ?_; rotate_left; ·rintro w' ⟨s0, s1, s2, s3, s4, s5, s6⟩; go_simp; with_reducible rfl
                   rotate_left; ·simp only [Act.put, sT_, sZ_, sS_, i64_w]; rfl
                   refine pure_ (i := 24) (N := some 70) (v := ?_) (a' := ?_) (mB_ 29 33554431) rfl rfl (any_of HT_.out (by kernel_rfl)) (fun _ _ _ h => h) (Or.inl ⟨by rfl, ?_⟩) ?_ ?_; rotate_left; ·intro w'; go_simp; with_reducible rfl
                   rotate_left; ·simp only [Act.put, sT_, sZ_, sS_, i64_w]; rfl
                   refine take_ (i := 25) (N := some 71) (v := ?_) (a' := ?_) (mB_ 29 67108863) rfl rfl (take_ofW HT_.out HW_.out (by kernel_rfl)) (fun _ _ _ h => h) (Or.inl ⟨by rfl, ?_⟩) hHeld ?_ ?_; rotate_left; ·rintro w' ⟨s0, s1, s2, s3, s4, s5, s6⟩; go_simp; with_reducible rfl
                   rotate_left; ·simp only [Act.put, sT_, sZ_, sS_, i64_w]; rfl
                   refine pure_ (i := 26) (N := some 72) (v := ?_) (a' := ?_) (mB_ 29 134217727) rfl rfl (any_of HT_.out (by kernel_rfl)) (fun _ _ _ h => h) (Or.inl ⟨by rfl, ?_⟩) ?_ ?_; rotate_left; ·intro w'; go_simp; with_reducible rfl
                   rotate_left; ·simp only [Act.put, sT_, sZ_, sS_, i64_w]; rfl
                   refine pure_ (i := 27) (N := some 73) (v := ?_) (a' := ?_) (mB_ 29 268435455) rfl rfl (any_of HT_.out (by kernel_rfl)) (fun _ _ _ h => h) (Or.inl ⟨by rfl, ?_⟩) ?_ ?_; rotate_left; ·intro w'; go_simp; with_reducible rfl
                   rotate_left; ·simp only [Act.put, sT_, sZ_, sS_, i64_w]; rfl
                   refine pure_ (i := 28) (N := some 74) (v := ?_) (a' := ?_) (mB_ 29 536870911) rfl rfl (any_of HT_.out (by kernel_rfl)) (fun _ _ _ h => h) (Or.inl ⟨by rfl, ?_⟩) ?_ ?_; rotate_left; ·intro w'; go_simp; with_reducible rfl
                   rotate_left; ·simp only [Act.put, sT_, sZ_, sS_, i64_w]; rfl
                   refine done_ (done_of HT_.out (by kernel_rfl)) ?_; try go_wp2
                   go_meet
                   case rel => exact ⟨_, (decide ((wrap64 ((rd x4_3 ((rd_T39 l0_1 x10_3).f0)) + ((rd_T39 l0_1 x10_3).f2))) < (rd x4_3 ((rd_T39 l0_1 x10_3).f1)))), (by first | rfl | (simp; done) | (simp [*]; done)), H', ⟨by have := HK1.out; have := HK2.out; have := HK3.out; first | omega | exact nR_ _⟩, ⟨HO_4.out⟩, ⟨HO_5.out⟩, ⟨BK339.out⟩, ⟨BK348.out⟩, ⟨HB.out⟩⟩
                  rw [if_neg c31] at H; exact absurd H (by simp)
                 rw [if_neg c30] at H; exact absurd H (by simp)
                replace c29 := bE_.mpr c29; subst c29; have H1 : (snowlineref04_Lengths.j3 k3 x4_3 x5_3 x8_2 x9_3 x10_3 true a0_0 l0_1 ((rd_T39 l0_1 x10_3).f0) ((rd_T39 l0_1 x10_3).f1) ((rd_T39 l0_1 x10_3).f2)) = some (r1, r2, r3) := by rw [if_neg (show ¬ (false = true) by decide)] at H; exact H
                clear H; have H := H1; clear H1; have H' := Z_ H; clear H; try go_wp2
                have n0_ : Aside0 (Kd.R (Kd.int .i64) 3 (((w19.setCell ⟨gb348, 0, none⟩ (.int .i64 ((rd_T39 l0_1 x10_3).f0))).setCell ⟨gb348, 1, none⟩ (.int .i64 ((rd_T39 l0_1 x10_3).f1))).setCell ⟨gb348, 2, none⟩ (.int .i64 ((rd_T39 l0_1 x10_3).f2))) w.heap.size (fun _ => True) u4 x4_3) := ⟨by (with_reducible repeat (first | apply rN_ | apply rD_)); exact rM_ (rF_ (p := ⟨gb348, 2, none⟩) (rF_ (p := ⟨gb348, 1, none⟩) (rF_ (p := ⟨gb348, 0, none⟩) (Kd.R_types HO_4.out BK348.out (by decide)) (fun _ hk => hk.2) (.int .i64 ((rd_T39 l0_1 x10_3).f0))) (fun _ hk => hk.2) (.int .i64 ((rd_T39 l0_1 x10_3).f1))) (fun _ hk => hk.2) (.int .i64 ((rd_T39 l0_1 x10_3).f2))) (fun _ hk => trivial)⟩; have n1_ : Aside0 (Kd.R Kd.bool 4 (((w19.setCell ⟨gb348, 0, none⟩ (.int .i64 ((rd_T39 l0_1 x10_3).f0))).setCell ⟨gb348, 1, none⟩ (.int .i64 ((rd_T39 l0_1 x10_3).f1))).setCell ⟨gb348, 2, none⟩ (.int .i64 ((rd_T39 l0_1 x10_3).f2))) w.heap.size (fun _ => True) u5 x5_3) := ⟨by (with_reducible repeat (first | apply rN_ | apply rD_)); exact rM_ (rF_ (p := ⟨gb348, 2, none⟩) (rF_ (p := ⟨gb348, 1, none⟩) (rF_ (p := ⟨gb348, 0, none⟩) (Kd.R_types HO_5.out BK348.out (by decide)) (fun _ hk => hk.2) (.int .i64 ((rd_T39 l0_1 x10_3).f0))) (fun _ hk => hk.2) (.int .i64 ((rd_T39 l0_1 x10_3).f1))) (fun _ hk => hk.2) (.int .i64 ((rd_T39 l0_1 x10_3).f2))) (fun _ hk => trivial)⟩; have n2_ : Aside0 ((((w19.setCell ⟨gb348, 0, none⟩ (.int .i64 ((rd_T39 l0_1 x10_3).f0))).setCell ⟨gb348, 1, none⟩ (.int .i64 ((rd_T39 l0_1 x10_3).f1))).setCell ⟨gb348, 2, none⟩ (.int .i64 ((rd_T39 l0_1 x10_3).f2))).heap[gb339]? = some (.cells #[.int .i64 a0_0, .slice (some ad347) l0_1.length c0_1] 24 (0, 0))) := ⟨by (with_reducible repeat (first | refine bN_ ?_ _ | refine bD_ ?_)); refine blk_far ?_ NB339_348.out _; (with_reducible repeat (first | refine bN_ ?_ _ | refine bD_ ?_)); refine blk_far ?_ NB339_348.out _; (with_reducible repeat (first | refine bN_ ?_ _ | refine bD_ ?_)); refine blk_far ?_ NB339_348.out _; (with_reducible repeat (first | refine bN_ ?_ _ | refine bD_ ?_)); exact BK339.out⟩; have n3_ : Aside0 ((((w19.setCell ⟨gb348, 0, none⟩ (.int .i64 ((rd_T39 l0_1 x10_3).f0))).setCell ⟨gb348, 1, none⟩ (.int .i64 ((rd_T39 l0_1 x10_3).f1))).setCell ⟨gb348, 2, none⟩ (.int .i64 ((rd_T39 l0_1 x10_3).f2))).heap[gb348]? = some (.cells #[.int .i64 ((rd_T39 l0_1 x10_3).f0), .int .i64 ((rd_T39 l0_1 x10_3).f1), .int .i64 ((rd_T39 l0_1 x10_3).f2)] 39 (0, 0))) := ⟨by (with_reducible repeat (first | refine bN_ ?_ _ | refine bD_ ?_)); refine blk_put (cs := #[.int .i64 ((rd_T39 l0_1 x10_3).f0), .int .i64 ((rd_T39 l0_1 x10_3).f1), .int .i64 0]) ?_ 2 _ rfl; (with_reducible repeat (first | refine bN_ ?_ _ | refine bD_ ?_)); refine blk_put (cs := #[.int .i64 ((rd_T39 l0_1 x10_3).f0), .int .i64 0, .int .i64 0]) ?_ 1 _ rfl; (with_reducible repeat (first | refine bN_ ?_ _ | refine bD_ ?_)); refine blk_put (cs := #[.int .i64 0, .int .i64 0, .int .i64 0]) ?_ 0 _ rfl; (with_reducible repeat (first | refine bN_ ?_ _ | refine bD_ ?_)); exact BK348.out⟩; have n4_ : Aside0 (Below w.heap.size w (((w19.setCell ⟨gb348, 0, none⟩ (.int .i64 ((rd_T39 l0_1 x10_3).f0))).setCell ⟨gb348, 1, none⟩ (.int .i64 ((rd_T39 l0_1 x10_3).f1))).setCell ⟨gb348, 2, none⟩ (.int .i64 ((rd_T39 l0_1 x10_3).f2)))) := ⟨by repeat (first | (with_reducible first | exact HB.out | apply fA_ | apply pB_ | apply fD_ | refine fE_ ?_ GE339.out | refine fE_ ?_ GE348.out) | exact HB.out)⟩; (try clear HO_4)
                (try clear HO_5)
                (try clear BK339)
                (try clear BK348)
                (try clear HB)
                generalize (((w19.setCell ⟨gb348, 0, none⟩ (.int .i64 ((rd_T39 l0_1 x10_3).f0))).setCell ⟨gb348, 1, none⟩ (.int .i64 ((rd_T39 l0_1 x10_3).f1))).setCell ⟨gb348, 2, none⟩ (.int .i64 ((rd_T39 l0_1 x10_3).f2))) = w36 at n0_ n1_ n2_ n3_ n4_ ⊢; have HO_4 := n0_; have HO_5 := n1_; have BK339 := n2_; have BK348 := n3_; have HB := n4_; clear n0_ n1_ n2_ n3_ n4_; replace HO_4 := Z_ (rD_ HO_4.out); replace HO_5 := Z_ (rD_ HO_5.out); replace BK339 := Z_ (bD_ BK339.out); replace BK348 := Z_ (bD_ BK348.out); replace HB := Z_ (fD_ HB.out); obtain ⟨Ao38, co38, eo38⟩ := rS_ HO_5.out; (first | subst eo38 | (injection eo38 with f1_ f2_ f3_; have f4_ := f1_.symm; have f5_ := f3_.symm; clear f1_ f2_ f3_; subst f4_; subst f5_))
                have p349 : 0 ≤ (((rd_T39 l0_1 x10_3).f0) : Int) := dT_ (by first | (with_reducible assumption) | assumption); have q349 : ((rd_T39 l0_1 x10_3).f0) < (x5_3.length : Int) := dT_ (by first | (with_reducible assumption) | assumption); obtain ⟨ad349, e349, hx349_0⟩ := Kd.at_bool (rR_ HO_5.out).2.2 ((rd_T39 l0_1 x10_3).f0) p349 q349; (try rw [← Nbq24.out] at hx349_0)
                (try rw [← Nbq28.out] at hx349_0)
                cases e349
                replace p349 := eq_true p349; replace q349 := eq_true q349; have p350 : 0 ≤ (((rd_T39 l0_1 x10_3).f1) : Int) := dT_ (by first | (with_reducible assumption) | assumption); have q350 : ((rd_T39 l0_1 x10_3).f1) < (x5_3.length : Int) := dT_ (by first | (with_reducible assumption) | assumption); obtain ⟨ad350, e350, hx350_0⟩ := Kd.at_bool (rR_ HO_5.out).2.2 ((rd_T39 l0_1 x10_3).f1) p350 q350; (try rw [← Nbq24.out] at hx350_0)
                (try rw [← Nbq28.out] at hx350_0)
                obtain rfl : ad349 = ad350 := (by injection e350); replace p350 := eq_true p350; replace q350 := eq_true q350; refine start_ (n := 29) (S := fun w' => w'.cell? ⟨gb348, 0, none⟩ = some (.int .i64 ((rd_T39 l0_1 x10_3).f0)) ∧ w'.cell? ⟨gb348, 1, none⟩ = some (.int .i64 ((rd_T39 l0_1 x10_3).f1)) ∧ w'.cell? ⟨gb348, 2, none⟩ = some (.int .i64 ((rd_T39 l0_1 x10_3).f2)) ∧ w'.cell? (ad349.add (((rd_T39 l0_1 x10_3).f0)).toNat) = some (.bool true) ∧ w'.cell? (ad349.add (((rd_T39 l0_1 x10_3).f1)).toNat) = some (.bool false)) (ds := []) #[false, false, false, false, false, false, false, false, false, false, false, false, false, false, false, false, false, false, false, false, false, false, false, false, false, false, false, false, false] (by kernel_rfl) rfl rfl ⟨(bC_ BK348.out 0).trans rfl, (bC_ BK348.out 1).trans rfl, (bC_ BK348.out 2).trans rfl, hx349_0, hx350_0⟩ (fun hHeld => ?_); refine with_tabW snowlineref04_Lengths.tab14 snowlineref04_Lengths.bits14 (fun HT_ HW_ => ?_); generalize w36.drew = w37 at HO_4 HO_5 BK339 BK348 HB hx349_0 hx350_0 hHeld ⊢; refine pure_ (i := 0) (N := some 46) (v := ?_) (a' := ?_) (mB_ 29 1) rfl rfl (any_of HT_.out (by kernel_rfl)) (fun _ _ _ h => h) (Or.inl ⟨by rfl, ?_⟩) ?_ ?_; rotate_left; ·intro w'; go_simp; with_reducible rfl
                rotate_left; ·simp only [Act.put, sT_, sZ_, sS_, i64_w]; rfl
                refine pure_ (i := 1) (N := some 47) (v := ?_) (a' := ?_) (mB_ 29 3) rfl rfl (any_of HT_.out (by kernel_rfl)) (fun _ _ _ h => h) (Or.inl ⟨by rfl, ?_⟩) ?_ ?_; rotate_left; ·intro w'; go_simp; with_reducible rfl
                rotate_left; ·simp only [Act.put, sT_, sZ_, sS_, i64_w]; rfl
                refine take_ (i := 2) (N := some 48) (v := ?_) (a' := ?_) (mB_ 29 7) rfl rfl (take_ofW HT_.out HW_.out (by kernel_rfl)) (fun _ _ _ h => h) (Or.inl ⟨by rfl, ?_⟩) hHeld ?_ ?_; rotate_left; ·rintro w' ⟨s0, s1, s2, s3, s4⟩; go_simp; with_reducible rfl
                rotate_left; ·simp only [Act.put, sT_, sZ_, sS_, i64_w]; rfl
                refine pure_ (i := 3) (N := some 49) (v := ?_) (a' := ?_) (mB_ 29 15) rfl rfl (any_of HT_.out (by kernel_rfl)) (fun _ _ _ h => h) (Or.inl ⟨by rfl, ?_⟩) ?_ ?_; rotate_left; ·intro w'; go_simp; with_reducible rfl
                rotate_left; ·simp only [Act.put, sT_, sZ_, sS_, i64_w]; rfl
                refine take_ (i := 4) (N := some 50) (v := ?_) (a' := ?_) (mB_ 29 31) rfl rfl (take_ofW HT_.out HW_.out (by kernel_rfl)) (fun _ _ _ h => h) (Or.inl ⟨by rfl, ?_⟩) hHeld ?_ ?_; rotate_left; ·rintro w' ⟨s0, s1, s2, s3, s4⟩; go_simp; with_reducible rfl
                rotate_left; ·simp only [Act.put, sT_, sZ_, sS_, i64_w]; rfl
                refine pure_ (i := 5) (N := some 51) (v := ?_) (a' := ?_) (mB_ 29 63) rfl rfl (any_of HT_.out (by kernel_rfl)) (fun _ _ _ h => h) (Or.inl ⟨by rfl, ?_⟩) ?_ ?_; rotate_left; ·intro w'; go_simp; with_reducible rfl
                rotate_left; ·simp only [Act.put, sT_, sZ_, sS_, i64_w]; rfl
                refine pure_ (i := 6) (N := some 52) (v := ?_) (a' := ?_) (mB_ 29 127) rfl rfl (any_of HT_.out (by kernel_rfl)) (fun _ _ _ h => h) (Or.inl ⟨by rfl, ?_⟩) ?_ ?_; rotate_left; ·intro w'; go_simp; with_reducible rfl
                rotate_left; ·simp only [Act.put, sT_, sZ_, sS_, i64_w]; rfl
                refine pure_ (i := 7) (N := some 53) (v := ?_) (a' := ?_) (mB_ 29 255) rfl rfl (any_of HT_.out (by kernel_rfl)) (fun _ _ _ h => h) (Or.inl ⟨by rfl, ?_⟩) ?_ ?_; rotate_left; ·intro w'; go_simp; with_reducible rfl
                rotate_left; ·simp only [Act.put, sT_, sZ_, sS_, i64_w]; rfl
                refine take_ (i := 8) (N := some 54) (v := ?_) (a' := ?_) (mB_ 29 511) rfl rfl (take_ofW HT_.out HW_.out (by kernel_rfl)) (fun _ _ _ h => h) (Or.inl ⟨by rfl, ?_⟩) hHeld ?_ ?_; rotate_left; ·rintro w' ⟨s0, s1, s2, s3, s4⟩; go_simp; with_reducible rfl
                rotate_left; ·simp only [Act.put, sT_, sZ_, sS_, i64_w]; rfl
                refine pure_ (i := 9) (N := some 55) (v := ?_) (a' := ?_) (mB_ 29 1023) rfl rfl (any_of HT_.out (by kernel_rfl)) (fun _ _ _ h => h) (Or.inl ⟨by rfl, ?_⟩) ?_ ?_; rotate_left; ·intro w'; go_simp; with_reducible rfl
                rotate_left; ·simp only [Act.put, sT_, sZ_, sS_, i64_w]; rfl
                refine take_ (i := 10) (N := some 56) (v := ?_) (a' := ?_) (mB_ 29 2047) rfl rfl (take_ofW HT_.out HW_.out (by kernel_rfl)) (fun _ _ _ h => h) (Or.inl ⟨by rfl, ?_⟩) hHeld ?_ ?_; rotate_left; ·rintro w' ⟨s0, s1, s2, s3, s4⟩; go_simp; with_reducible rfl
                rotate_left; ·simp only [Act.put, sT_, sZ_, sS_, i64_w]; rfl
                refine pure_ (i := 11) (N := some 57) (v := ?_) (a' := ?_) (mB_ 29 4095) rfl rfl (any_of HT_.out (by kernel_rfl)) (fun _ _ _ h => h) (Or.inl ⟨by rfl, ?_⟩) ?_ ?_; rotate_left; ·intro w'; go_simp; with_reducible rfl
                rotate_left; ·simp only [Act.put, sT_, sZ_, sS_, i64_w]; rfl
                refine pure_ (i := 12) (N := some 58) (v := ?_) (a' := ?_) (mB_ 29 8191) rfl rfl (any_of HT_.out (by kernel_rfl)) (fun _ _ _ h => h) (Or.inl ⟨by rfl, ?_⟩) ?_ ?_; rotate_left; ·intro w'; go_simp; with_reducible rfl
                rotate_left; ·simp only [Act.put, sT_, sZ_, sS_, i64_w]; rfl
                refine pure_ (i := 13) (N := some 59) (v := undef) (a' := ?_) (mB_ 29 16383) rfl rfl (any_of HT_.out (by kernel_rfl)) (fun _ _ _ h => h) (Or.inr ⟨by rfl, rfl⟩) ?_ ?_; rotate_left; ·simp only [Act.put, sT_, sZ_, sS_, i64_w]; rfl
                refine pure_ (i := 14) (N := some 60) (v := undef) (a' := ?_) (mB_ 29 32767) rfl rfl (any_of HT_.out (by kernel_rfl)) (fun _ _ _ h => h) (Or.inr ⟨by rfl, rfl⟩) ?_ ?_; rotate_left; ·simp only [Act.put, sT_, sZ_, sS_, i64_w]; rfl
                refine pure_ (i := 15) (N := some 61) (v := undef) (a' := ?_) (mB_ 29 65535) rfl rfl (any_of HT_.out (by kernel_rfl)) (fun _ _ _ h => h) (Or.inr ⟨by rfl, rfl⟩) ?_ ?_; rotate_left; ·simp only [Act.put, sT_, sZ_, sS_, i64_w]; rfl
                refine pure_ (i := 16) (N := some 62) (v := undef) (a' := ?_) (mB_ 29 131071) rfl rfl (any_of HT_.out (by kernel_rfl)) (fun _ _ _ h => h) (Or.inr ⟨by rfl, rfl⟩) ?_ ?_; rotate_left; ·simp only [Act.put, sT_, sZ_, sS_, i64_w]; rfl
                refine pure_ (i := 17) (N := some 63) (v := undef) (a' := ?_) (mB_ 29 262143) rfl rfl (any_of HT_.out (by kernel_rfl)) (fun _ _ _ h => h) (Or.inr ⟨by rfl, rfl⟩) ?_ ?_; rotate_left; ·simp only [Act.put, sT_, sZ_, sS_, i64_w]; rfl
                refine pure_ (i := 18) (N := some 64) (v := undef) (a' := ?_) (mB_ 29 524287) rfl rfl (any_of HT_.out (by kernel_rfl)) (fun _ _ _ h => h) (Or.inr ⟨by rfl, rfl⟩) ?_ ?_; rotate_left; ·simp only [Act.put, sT_, sZ_, sS_, i64_w]; rfl
                refine pure_ (i := 19) (N := some 65) (v := undef) (a' := ?_) (mB_ 29 1048575) rfl rfl (any_of HT_.out (by kernel_rfl)) (fun _ _ _ h => h) (Or.inr ⟨by rfl, rfl⟩) ?_ ?_; rotate_left; ·simp only [Act.put, sT_, sZ_, sS_, i64_w]; rfl
                refine pure_ (i := 20) (N := some 66) (v := undef) (a' := ?_) (mB_ 29 2097151) rfl rfl (any_of HT_.out (by kernel_rfl)) (fun _ _ _ h => h) (Or.inr ⟨by rfl, rfl⟩) ?_ ?_; rotate_left; ·simp only [Act.put, sT_, sZ_, sS_, i64_w]; rfl
                refine pure_ (i := 21) (N := some 67) (v := undef) (a' := ?_) (mB_ 29 4194303) rfl rfl (any_of HT_.out (by kernel_rfl)) (fun _ _ _ h => h) (Or.inr ⟨by rfl, rfl⟩) ?_ ?_; rotate_left; ·simp only [Act.put, sT_, sZ_, sS_, i64_w]; rfl
                refine pure_ (i := 22) (N := some 68) (v := undef) (a' := ?_) (mB_ 29 8388607) rfl rfl (any_of HT_.out (by kernel_rfl)) (fun _ _ _ h => h) (Or.inr ⟨by rfl, rfl⟩) ?_ ?_; rotate_left; ·simp only [Act.put, sT_, sZ_, sS_, i64_w]; rfl
                refine pure_ (i := 23) (N := some 69) (v := undef) (a' := ?_) (mB_ 29 16777215) rfl rfl (any_of HT_.out (by kernel_rfl)) (fun _ _ _ h => h) (Or.inr ⟨by rfl, rfl⟩) ?_ ?_; rotate_left; ·simp only [Act.put, sT_, sZ_, sS_, i64_w]; rfl
                refine pure_ (i := 24) (N := some 70) (v := undef) (a' := ?_) (mB_ 29 33554431) rfl rfl (any_of HT_.out (by kernel_rfl)) (fun _ _ _ h => h) (Or.inr ⟨by rfl, rfl⟩) ?_ ?_; rotate_left; ·simp only [Act.put, sT_, sZ_, sS_, i64_w]; rfl
                refine pure_ (i := 25) (N := some 71) (v := undef) (a' := ?_) (mB_ 29 67108863) rfl rfl (any_of HT_.out (by kernel_rfl)) (fun _ _ _ h => h) (Or.inr ⟨by rfl, rfl⟩) ?_ ?_; rotate_left; ·simp only [Act.put, sT_, sZ_, sS_, i64_w]; rfl
                refine pure_ (i := 26) (N := some 72) (v := undef) (a' := ?_) (mB_ 29 134217727) rfl rfl (any_of HT_.out (by kernel_rfl)) (fun _ _ _ h => h) (Or.inr ⟨by rfl, rfl⟩) ?_ ?_; rotate_left; ·simp only [Act.put, sT_, sZ_, sS_, i64_w]; rfl
                refine pure_ (i := 27) (N := some 73) (v := ?_) (a' := ?_) (mB_ 29 268435455) rfl rfl (any_of HT_.out (by kernel_rfl)) (fun _ _ _ h => h) (Or.inl ⟨by rfl, ?_⟩) ?_ ?_; rotate_left; ·intro w'; go_simp; with_reducible rfl
                rotate_left; ·simp only [Act.put, sT_, sZ_, sS_, i64_w]; rfl
                refine pure_ (i := 28) (N := some 74) (v := ?_) (a' := ?_) (mB_ 29 536870911) rfl rfl (any_of HT_.out (by kernel_rfl)) (fun _ _ _ h => h) (Or.inl ⟨by rfl, ?_⟩) ?_ ?_; rotate_left; ·intro w'; go_simp; with_reducible rfl
                rotate_left; ·simp only [Act.put, sT_, sZ_, sS_, i64_w]; rfl
                refine done_ (done_of HT_.out (by kernel_rfl)) ?_; try go_wp2
                go_meet
                case rel => exact ⟨_, (true), (by first | rfl | (simp; done) | (simp [*]; done)), H', ⟨by have := HK1.out; have := HK2.out; have := HK3.out; first | omega | exact nR_ _⟩, ⟨HO_4.out⟩, ⟨HO_5.out⟩, ⟨BK339.out⟩, ⟨BK348.out⟩, ⟨HB.out⟩⟩
               rw [if_neg c27] at H; exact absurd H (by simp)
              rw [if_neg c26] at H; exact absurd H (by simp)
             replace c25 := bE_.mpr c25; subst c25; have H1 : (snowlineref04_Lengths.j3 k3 x4_3 x5_3 x8_2 x9_3 x10_3 false a0_0 l0_1 ((rd_T39 l0_1 x10_3).f0) ((rd_T39 l0_1 x10_3).f1) ((rd_T39 l0_1 x10_3).f2)) = some (r1, r2, r3) := by rw [if_neg (show ¬ (false = true) by decide)] at H; exact H
             clear H; have H := H1; clear H1; have H' := Z_ H; clear H; try go_wp2
             have n0_ : Aside0 (Kd.R (Kd.int .i64) 3 (((w19.setCell ⟨gb348, 0, none⟩ (.int .i64 ((rd_T39 l0_1 x10_3).f0))).setCell ⟨gb348, 1, none⟩ (.int .i64 ((rd_T39 l0_1 x10_3).f1))).setCell ⟨gb348, 2, none⟩ (.int .i64 ((rd_T39 l0_1 x10_3).f2))) w.heap.size (fun _ => True) u4 x4_3) := ⟨by (with_reducible repeat (first | apply rN_ | apply rD_)); exact rM_ (rF_ (p := ⟨gb348, 2, none⟩) (rF_ (p := ⟨gb348, 1, none⟩) (rF_ (p := ⟨gb348, 0, none⟩) (Kd.R_types HO_4.out BK348.out (by decide)) (fun _ hk => hk.2) (.int .i64 ((rd_T39 l0_1 x10_3).f0))) (fun _ hk => hk.2) (.int .i64 ((rd_T39 l0_1 x10_3).f1))) (fun _ hk => hk.2) (.int .i64 ((rd_T39 l0_1 x10_3).f2))) (fun _ hk => trivial)⟩; have n1_ : Aside0 (Kd.R Kd.bool 4 (((w19.setCell ⟨gb348, 0, none⟩ (.int .i64 ((rd_T39 l0_1 x10_3).f0))).setCell ⟨gb348, 1, none⟩ (.int .i64 ((rd_T39 l0_1 x10_3).f1))).setCell ⟨gb348, 2, none⟩ (.int .i64 ((rd_T39 l0_1 x10_3).f2))) w.heap.size (fun _ => True) u5 x5_3) := ⟨by (with_reducible repeat (first | apply rN_ | apply rD_)); exact rM_ (rF_ (p := ⟨gb348, 2, none⟩) (rF_ (p := ⟨gb348, 1, none⟩) (rF_ (p := ⟨gb348, 0, none⟩) (Kd.R_types HO_5.out BK348.out (by decide)) (fun _ hk => hk.2) (.int .i64 ((rd_T39 l0_1 x10_3).f0))) (fun _ hk => hk.2) (.int .i64 ((rd_T39 l0_1 x10_3).f1))) (fun _ hk => hk.2) (.int .i64 ((rd_T39 l0_1 x10_3).f2))) (fun _ hk => trivial)⟩; have n2_ : Aside0 ((((w19.setCell ⟨gb348, 0, none⟩ (.int .i64 ((rd_T39 l0_1 x10_3).f0))).setCell ⟨gb348, 1, none⟩ (.int .i64 ((rd_T39 l0_1 x10_3).f1))).setCell ⟨gb348, 2, none⟩ (.int .i64 ((rd_T39 l0_1 x10_3).f2))).heap[gb339]? = some (.cells #[.int .i64 a0_0, .slice (some ad347) l0_1.length c0_1] 24 (0, 0))) := ⟨by (with_reducible repeat (first | refine bN_ ?_ _ | refine bD_ ?_)); refine blk_far ?_ NB339_348.out _; (with_reducible repeat (first | refine bN_ ?_ _ | refine bD_ ?_)); refine blk_far ?_ NB339_348.out _; (with_reducible repeat (first | refine bN_ ?_ _ | refine bD_ ?_)); refine blk_far ?_ NB339_348.out _; (with_reducible repeat (first | refine bN_ ?_ _ | refine bD_ ?_)); exact BK339.out⟩; have n3_ : Aside0 ((((w19.setCell ⟨gb348, 0, none⟩ (.int .i64 ((rd_T39 l0_1 x10_3).f0))).setCell ⟨gb348, 1, none⟩ (.int .i64 ((rd_T39 l0_1 x10_3).f1))).setCell ⟨gb348, 2, none⟩ (.int .i64 ((rd_T39 l0_1 x10_3).f2))).heap[gb348]? = some (.cells #[.int .i64 ((rd_T39 l0_1 x10_3).f0), .int .i64 ((rd_T39 l0_1 x10_3).f1), .int .i64 ((rd_T39 l0_1 x10_3).f2)] 39 (0, 0))) := ⟨by (with_reducible repeat (first | refine bN_ ?_ _ | refine bD_ ?_)); refine blk_put (cs := #[.int .i64 ((rd_T39 l0_1 x10_3).f0), .int .i64 ((rd_T39 l0_1 x10_3).f1), .int .i64 0]) ?_ 2 _ rfl; (with_reducible repeat (first | refine bN_ ?_ _ | refine bD_ ?_)); refine blk_put (cs := #[.int .i64 ((rd_T39 l0_1 x10_3).f0), .int .i64 0, .int .i64 0]) ?_ 1 _ rfl; (with_reducible repeat (first | refine bN_ ?_ _ | refine bD_ ?_)); refine blk_put (cs := #[.int .i64 0, .int .i64 0, .int .i64 0]) ?_ 0 _ rfl; (with_reducible repeat (first | refine bN_ ?_ _ | refine bD_ ?_)); exact BK348.out⟩; have n4_ : Aside0 (Below w.heap.size w (((w19.setCell ⟨gb348, 0, none⟩ (.int .i64 ((rd_T39 l0_1 x10_3).f0))).setCell ⟨gb348, 1, none⟩ (.int .i64 ((rd_T39 l0_1 x10_3).f1))).setCell ⟨gb348, 2, none⟩ (.int .i64 ((rd_T39 l0_1 x10_3).f2)))) := ⟨by repeat (first | (with_reducible first | exact HB.out | apply fA_ | apply pB_ | apply fD_ | refine fE_ ?_ GE339.out | refine fE_ ?_ GE348.out) | exact HB.out)⟩; (try clear HO_4)
             (try clear HO_5)
             (try clear BK339)
             (try clear BK348)
             (try clear HB)
             generalize (((w19.setCell ⟨gb348, 0, none⟩ (.int .i64 ((rd_T39 l0_1 x10_3).f0))).setCell ⟨gb348, 1, none⟩ (.int .i64 ((rd_T39 l0_1 x10_3).f1))).setCell ⟨gb348, 2, none⟩ (.int .i64 ((rd_T39 l0_1 x10_3).f2))) = w39 at n0_ n1_ n2_ n3_ n4_ ⊢; have HO_4 := n0_; have HO_5 := n1_; have BK339 := n2_; have BK348 := n3_; have HB := n4_; clear n0_ n1_ n2_ n3_ n4_; replace HO_4 := Z_ (rD_ HO_4.out); replace HO_5 := Z_ (rD_ HO_5.out); replace BK339 := Z_ (bD_ BK339.out); replace BK348 := Z_ (bD_ BK348.out); replace HB := Z_ (fD_ HB.out); obtain ⟨Ao41, co41, eo41⟩ := rS_ HO_5.out; (first | subst eo41 | (injection eo41 with f1_ f2_ f3_; have f4_ := f1_.symm; have f5_ := f3_.symm; clear f1_ f2_ f3_; subst f4_; subst f5_))
             have p349 : 0 ≤ (((rd_T39 l0_1 x10_3).f0) : Int) := dT_ (by first | (with_reducible assumption) | assumption); have q349 : ((rd_T39 l0_1 x10_3).f0) < (x5_3.length : Int) := dT_ (by first | (with_reducible assumption) | assumption); obtain ⟨ad349, e349, hx349_0⟩ := Kd.at_bool (rR_ HO_5.out).2.2 ((rd_T39 l0_1 x10_3).f0) p349 q349; (try rw [← Nbq24.out] at hx349_0)
             cases e349
             replace p349 := eq_true p349; replace q349 := eq_true q349; refine start_ (n := 29) (S := fun w' => w'.cell? ⟨gb348, 0, none⟩ = some (.int .i64 ((rd_T39 l0_1 x10_3).f0)) ∧ w'.cell? ⟨gb348, 1, none⟩ = some (.int .i64 ((rd_T39 l0_1 x10_3).f1)) ∧ w'.cell? ⟨gb348, 2, none⟩ = some (.int .i64 ((rd_T39 l0_1 x10_3).f2)) ∧ w'.cell? (ad349.add (((rd_T39 l0_1 x10_3).f0)).toNat) = some (.bool false)) (ds := []) #[false, false, false, false, false, false, false, false, false, false, false, false, false, false, false, false, false, false, false, false, false, false, false, false, false, false, false, false, false] (by kernel_rfl) rfl rfl ⟨(bC_ BK348.out 0).trans rfl, (bC_ BK348.out 1).trans rfl, (bC_ BK348.out 2).trans rfl, hx349_0⟩ (fun hHeld => ?_); refine with_tabW snowlineref04_Lengths.tab14 snowlineref04_Lengths.bits14 (fun HT_ HW_ => ?_); generalize w39.drew = w40 at HO_4 HO_5 BK339 BK348 HB hx349_0 hHeld ⊢; refine pure_ (i := 0) (N := some 46) (v := ?_) (a' := ?_) (mB_ 29 1) rfl rfl (any_of HT_.out (by kernel_rfl)) (fun _ _ _ h => h) (Or.inl ⟨by rfl, ?_⟩) ?_ ?_; rotate_left; ·intro w'; go_simp; with_reducible rfl
             rotate_left; ·simp only [Act.put, sT_, sZ_, sS_, i64_w]; rfl
             refine pure_ (i := 1) (N := some 47) (v := ?_) (a' := ?_) (mB_ 29 3) rfl rfl (any_of HT_.out (by kernel_rfl)) (fun _ _ _ h => h) (Or.inl ⟨by rfl, ?_⟩) ?_ ?_; rotate_left; ·intro w'; go_simp; with_reducible rfl
             rotate_left; ·simp only [Act.put, sT_, sZ_, sS_, i64_w]; rfl
             refine take_ (i := 2) (N := some 48) (v := ?_) (a' := ?_) (mB_ 29 7) rfl rfl (take_ofW HT_.out HW_.out (by kernel_rfl)) (fun _ _ _ h => h) (Or.inl ⟨by rfl, ?_⟩) hHeld ?_ ?_; rotate_left; ·rintro w' ⟨s0, s1, s2, s3⟩; go_simp; with_reducible rfl
             rotate_left; ·simp only [Act.put, sT_, sZ_, sS_, i64_w]; rfl
             refine pure_ (i := 3) (N := some 49) (v := ?_) (a' := ?_) (mB_ 29 15) rfl rfl (any_of HT_.out (by kernel_rfl)) (fun _ _ _ h => h) (Or.inl ⟨by rfl, ?_⟩) ?_ ?_; rotate_left; ·intro w'; go_simp; with_reducible rfl
             rotate_left; ·simp only [Act.put, sT_, sZ_, sS_, i64_w]; rfl
             refine take_ (i := 4) (N := some 50) (v := ?_) (a' := ?_) (mB_ 29 31) rfl rfl (take_ofW HT_.out HW_.out (by kernel_rfl)) (fun _ _ _ h => h) (Or.inl ⟨by rfl, ?_⟩) hHeld ?_ ?_; rotate_left; ·rintro w' ⟨s0, s1, s2, s3⟩; go_simp; with_reducible rfl
             rotate_left; ·simp only [Act.put, sT_, sZ_, sS_, i64_w]; rfl
             refine pure_ (i := 5) (N := some 51) (v := ?_) (a' := ?_) (mB_ 29 63) rfl rfl (any_of HT_.out (by kernel_rfl)) (fun _ _ _ h => h) (Or.inl ⟨by rfl, ?_⟩) ?_ ?_; rotate_left; ·intro w'; go_simp; with_reducible rfl
             rotate_left; ·simp only [Act.put, sT_, sZ_, sS_, i64_w]; rfl
             refine pure_ (i := 6) (N := some 52) (v := undef) (a' := ?_) (mB_ 29 127) rfl rfl (any_of HT_.out (by kernel_rfl)) (fun _ _ _ h => h) (Or.inr ⟨by rfl, rfl⟩) ?_ ?_; rotate_left; ·simp only [Act.put, sT_, sZ_, sS_, i64_w]; rfl
             refine pure_ (i := 7) (N := some 53) (v := undef) (a' := ?_) (mB_ 29 255) rfl rfl (any_of HT_.out (by kernel_rfl)) (fun _ _ _ h => h) (Or.inr ⟨by rfl, rfl⟩) ?_ ?_; rotate_left; ·simp only [Act.put, sT_, sZ_, sS_, i64_w]; rfl
             refine pure_ (i := 8) (N := some 54) (v := undef) (a' := ?_) (mB_ 29 511) rfl rfl (any_of HT_.out (by kernel_rfl)) (fun _ _ _ h => h) (Or.inr ⟨by rfl, rfl⟩) ?_ ?_; rotate_left; ·simp only [Act.put, sT_, sZ_, sS_, i64_w]; rfl
             refine pure_ (i := 9) (N := some 55) (v := undef) (a' := ?_) (mB_ 29 1023) rfl rfl (any_of HT_.out (by kernel_rfl)) (fun _ _ _ h => h) (Or.inr ⟨by rfl, rfl⟩) ?_ ?_; rotate_left; ·simp only [Act.put, sT_, sZ_, sS_, i64_w]; rfl
             refine pure_ (i := 10) (N := some 56) (v := undef) (a' := ?_) (mB_ 29 2047) rfl rfl (any_of HT_.out (by kernel_rfl)) (fun _ _ _ h => h) (Or.inr ⟨by rfl, rfl⟩) ?_ ?_; rotate_left; ·simp only [Act.put, sT_, sZ_, sS_, i64_w]; rfl
             refine pure_ (i := 11) (N := some 57) (v := undef) (a' := ?_) (mB_ 29 4095) rfl rfl (any_of HT_.out (by kernel_rfl)) (fun _ _ _ h => h) (Or.inr ⟨by rfl, rfl⟩) ?_ ?_; rotate_left; ·simp only [Act.put, sT_, sZ_, sS_, i64_w]; rfl
             refine pure_ (i := 12) (N := some 58) (v := undef) (a' := ?_) (mB_ 29 8191) rfl rfl (any_of HT_.out (by kernel_rfl)) (fun _ _ _ h => h) (Or.inr ⟨by rfl, rfl⟩) ?_ ?_; rotate_left; ·simp only [Act.put, sT_, sZ_, sS_, i64_w]; rfl
             refine pure_ (i := 13) (N := some 59) (v := undef) (a' := ?_) (mB_ 29 16383) rfl rfl (any_of HT_.out (by kernel_rfl)) (fun _ _ _ h => h) (Or.inr ⟨by rfl, rfl⟩) ?_ ?_; rotate_left; ·simp only [Act.put, sT_, sZ_, sS_, i64_w]; rfl
             refine pure_ (i := 14) (N := some 60) (v := undef) (a' := ?_) (mB_ 29 32767) rfl rfl (any_of HT_.out (by kernel_rfl)) (fun _ _ _ h => h) (Or.inr ⟨by rfl, rfl⟩) ?_ ?_; rotate_left; ·simp only [Act.put, sT_, sZ_, sS_, i64_w]; rfl
             refine pure_ (i := 15) (N := some 61) (v := undef) (a' := ?_) (mB_ 29 65535) rfl rfl (any_of HT_.out (by kernel_rfl)) (fun _ _ _ h => h) (Or.inr ⟨by rfl, rfl⟩) ?_ ?_; rotate_left; ·simp only [Act.put, sT_, sZ_, sS_, i64_w]; rfl
             refine pure_ (i := 16) (N := some 62) (v := undef) (a' := ?_) (mB_ 29 131071) rfl rfl (any_of HT_.out (by kernel_rfl)) (fun _ _ _ h => h) (Or.inr ⟨by rfl, rfl⟩) ?_ ?_; rotate_left; ·simp only [Act.put, sT_, sZ_, sS_, i64_w]; rfl
             refine pure_ (i := 17) (N := some 63) (v := undef) (a' := ?_) (mB_ 29 262143) rfl rfl (any_of HT_.out (by kernel_rfl)) (fun _ _ _ h => h) (Or.inr ⟨by rfl, rfl⟩) ?_ ?_; rotate_left; ·simp only [Act.put, sT_, sZ_, sS_, i64_w]; rfl
             refine pure_ (i := 18) (N := some 64) (v := undef) (a' := ?_) (mB_ 29 524287) rfl rfl (any_of HT_.out (by kernel_rfl)) (fun _ _ _ h => h) (Or.inr ⟨by rfl, rfl⟩) ?_ ?_; rotate_left; ·simp only [Act.put, sT_, sZ_, sS_, i64_w]; rfl
             refine pure_ (i := 19) (N := some 65) (v := undef) (a' := ?_) (mB_ 29 1048575) rfl rfl (any_of HT_.out (by kernel_rfl)) (fun _ _ _ h => h) (Or.inr ⟨by rfl, rfl⟩) ?_ ?_; rotate_left; ·simp only [Act.put, sT_, sZ_, sS_, i64_w]; rfl
             refine pure_ (i := 20) (N := some 66) (v := undef) (a' := ?_) (mB_ 29 2097151) rfl rfl (any_of HT_.out (by kernel_rfl)) (fun _ _ _ h => h) (Or.inr ⟨by rfl, rfl⟩) ?_ ?_; rotate_left; ·simp only [Act.put, sT_, sZ_, sS_, i64_w]; rfl
             refine pure_ (i := 21) (N := some 67) (v := undef) (a' := ?_) (mB_ 29 4194303) rfl rfl (any_of HT_.out (by kernel_rfl)) (fun _ _ _ h => h) (Or.inr ⟨by rfl, rfl⟩) ?_ ?_; rotate_left; ·simp only [Act.put, sT_, sZ_, sS_, i64_w]; rfl
             refine pure_ (i := 22) (N := some 68) (v := undef) (a' := ?_) (mB_ 29 8388607) rfl rfl (any_of HT_.out (by kernel_rfl)) (fun _ _ _ h => h) (Or.inr ⟨by rfl, rfl⟩) ?_ ?_; rotate_left; ·simp only [Act.put, sT_, sZ_, sS_, i64_w]; rfl
             refine pure_ (i := 23) (N := some 69) (v := undef) (a' := ?_) (mB_ 29 16777215) rfl rfl (any_of HT_.out (by kernel_rfl)) (fun _ _ _ h => h) (Or.inr ⟨by rfl, rfl⟩) ?_ ?_; rotate_left; ·simp only [Act.put, sT_, sZ_, sS_, i64_w]; rfl
             refine pure_ (i := 24) (N := some 70) (v := undef) (a' := ?_) (mB_ 29 33554431) rfl rfl (any_of HT_.out (by kernel_rfl)) (fun _ _ _ h => h) (Or.inr ⟨by rfl, rfl⟩) ?_ ?_; rotate_left; ·simp only [Act.put, sT_, sZ_, sS_, i64_w]; rfl
             refine pure_ (i := 25) (N := some 71) (v := undef) (a' := ?_) (mB_ 29 67108863) rfl rfl (any_of HT_.out (by kernel_rfl)) (fun _ _ _ h => h) (Or.inr ⟨by rfl, rfl⟩) ?_ ?_; rotate_left; ·simp only [Act.put, sT_, sZ_, sS_, i64_w]; rfl
             refine pure_ (i := 26) (N := some 72) (v := undef) (a' := ?_) (mB_ 29 134217727) rfl rfl (any_of HT_.out (by kernel_rfl)) (fun _ _ _ h => h) (Or.inr ⟨by rfl, rfl⟩) ?_ ?_; rotate_left; ·simp only [Act.put, sT_, sZ_, sS_, i64_w]; rfl
             refine pure_ (i := 27) (N := some 73) (v := undef) (a' := ?_) (mB_ 29 268435455) rfl rfl (any_of HT_.out (by kernel_rfl)) (fun _ _ _ h => h) (Or.inr ⟨by rfl, rfl⟩) ?_ ?_; rotate_left; ·simp only [Act.put, sT_, sZ_, sS_, i64_w]; rfl
             refine pure_ (i := 28) (N := some 74) (v := ?_) (a' := ?_) (mB_ 29 536870911) rfl rfl (any_of HT_.out (by kernel_rfl)) (fun _ _ _ h => h) (Or.inl ⟨by rfl, ?_⟩) ?_ ?_; rotate_left; ·intro w'; go_simp; with_reducible rfl
             rotate_left; ·simp only [Act.put, sT_, sZ_, sS_, i64_w]; rfl
             refine done_ (done_of HT_.out (by kernel_rfl)) ?_; try go_wp2
             go_meet
             case rel => exact ⟨_, (false), (by first | rfl | (simp; done) | (simp [*]; done)), H', ⟨by have := HK1.out; have := HK2.out; have := HK3.out; first | omega | exact nR_ _⟩, ⟨HO_4.out⟩, ⟨HO_5.out⟩, ⟨BK339.out⟩, ⟨BK348.out⟩, ⟨HB.out⟩⟩
            rw [if_neg c23] at H; exact absurd H (by simp)
           rw [if_neg c22] at H; exact absurd H (by simp)
          case rest =>
           clear HC17; (try clear c2); (try clear p2); (try clear q2); (try clear c3); (try clear p3); (try clear q3); (try clear hx3); (try clear p6); (try clear c22); (try clear c23); (try clear q24); (try clear c25); (try clear c26); (try clear c27); (try clear q28); (try clear c29); (try clear c30); (try clear c31); (try clear p34); (try clear q34); (try clear hx34); (try clear p35); (try clear q35); (try clear hx35); (try clear hx349_0); (try clear hx350_0); (try clear p349); (try clear p350); (try clear q349); (try clear q350)
           obtain ⟨kq, x74_16, rfl, HA, HJ16, HO_4, HO_5, BK339, BK348, HB⟩ := hcut
           cases kq with
           | zero => exact absurd HA.out (by simp [snowlineref04_Lengths.j3])
           | succ kj16 =>
            have H := HA.out; clear HA; simp only [snowlineref04_Lengths.j3] at H; by_cases c42 : x74_16 = true
            ·subst c42
             have H1 : (if 0 ≤ ((rd_T39 l0_1 x10_3).f0) then (if ((rd_T39 l0_1 x10_3).f0) < (x4_3.length : Int) then (if 0 ≤ ((rd_T39 l0_1 x10_3).f1) then (if ((rd_T39 l0_1 x10_3).f1) < (x4_3.length : Int) then (if ((rd_T39 l0_1 x10_3).f1) < (x5_3.length : Int) then (snowlineref04_Lengths.l2 kj16 (x4_3.set (((rd_T39 l0_1 x10_3).f1) : Int).toNat (wrap64 ((rd x4_3 ((rd_T39 l0_1 x10_3).f0)) + ((rd_T39 l0_1 x10_3).f2)))) (x5_3.set (((rd_T39 l0_1 x10_3).f1) : Int).toNat true) x8_2 true (wrap64 (x10_3 + 1)) a0_0 l0_1) else (none)) else (none)) else (none)) else (none)) else (none)) = some (r1, r2, r3) := by rw [if_pos rfl] at H; exact H
             clear H; have H := H1; clear H1; by_cases c43 : 0 ≤ ((rd_T39 l0_1 x10_3).f0)
             ·rw [if_pos c43] at H
              have c43b0 : decide (0 ≤ ((rd_T39 l0_1 x10_3).f0)) = true := eT_ c43; clear c43; by_cases c44 : ((rd_T39 l0_1 x10_3).f0) < (x4_3.length : Int)
              ·rw [if_pos c44] at H
               have c44b0 : decide (((rd_T39 l0_1 x10_3).f0) < (x4_3.length : Int)) = true := eT_ c44; clear c44; by_cases c45 : 0 ≤ ((rd_T39 l0_1 x10_3).f1)
               ·rw [if_pos c45] at H
                have c45b0 : decide (0 ≤ ((rd_T39 l0_1 x10_3).f1)) = true := eT_ c45; clear c45; by_cases c46 : ((rd_T39 l0_1 x10_3).f1) < (x4_3.length : Int)
                ·rw [if_pos c46] at H
                 have c46b0 : decide (((rd_T39 l0_1 x10_3).f1) < (x4_3.length : Int)) = true := eT_ c46; clear c46; obtain ⟨y354, hy354⟩ : ∃ y_ : List Int, y_ = (x4_3.set (((rd_T39 l0_1 x10_3).f1) : Int).toNat (wrap64 ((rd x4_3 ((rd_T39 l0_1 x10_3).f0)) + ((rd_T39 l0_1 x10_3).f2)))) := ⟨_, rfl⟩; replace H : (if ((rd_T39 l0_1 x10_3).f1) < (x5_3.length : Int) then (snowlineref04_Lengths.l2 kj16 y354 (x5_3.set (((rd_T39 l0_1 x10_3).f1) : Int).toNat true) x8_2 true (wrap64 (x10_3 + 1)) a0_0 l0_1) else (none)) = some (r1, r2, r3) := by first | (rw [hy354]; with_reducible exact H) | (have H2_ := (oB_ _ _).symm.trans H; rw [hy354]; with_reducible exact H2_) | (have H2_ := (oB_ _ _).symm.trans H; with_reducible exact H2_) | with_reducible exact H | (rw [hy354]; exact H) | exact H
                 have Ny354 := Z_ hy354; clear hy354; by_cases c48 : ((rd_T39 l0_1 x10_3).f1) < (x5_3.length : Int)
                 ·rw [if_pos c48] at H
                  have c48b0 : decide (((rd_T39 l0_1 x10_3).f1) < (x5_3.length : Int)) = true := eT_ c48; clear c48; obtain ⟨y355, hy355⟩ : ∃ y_ : List Bool, y_ = (x5_3.set (((rd_T39 l0_1 x10_3).f1) : Int).toNat true) := ⟨_, rfl⟩; replace H : (snowlineref04_Lengths.l2 kj16 y354 y355 x8_2 true (wrap64 (x10_3 + 1)) a0_0 l0_1) = some (r1, r2, r3) := by first | (rw [hy355]; with_reducible exact H) | (have H2_ := (oB_ _ _).symm.trans H; rw [hy355]; with_reducible exact H2_) | (have H2_ := (oB_ _ _).symm.trans H; with_reducible exact H2_) | with_reducible exact H | (rw [hy355]; exact H) | exact H
                  have Ny355 := Z_ hy355; clear hy355; have H' := Z_ H; clear H; try go_wp2
                  replace HO_4 := Z_ (rD_ HO_4.out); replace HO_5 := Z_ (rD_ HO_5.out); replace BK339 := Z_ (bD_ BK339.out); replace BK348 := Z_ (bD_ BK348.out); replace HB := Z_ (fD_ HB.out); obtain ⟨Ao51, co51, eo51⟩ := rS_ HO_4.out; (first | subst eo51 | (injection eo51 with f1_ f2_ f3_; have f4_ := f1_.symm; have f5_ := f3_.symm; clear f1_ f2_ f3_; subst f4_; subst f5_))
                  have p353 : 0 ≤ (((rd_T39 l0_1 x10_3).f0) : Int) := dT_ (by first | (with_reducible assumption) | assumption); have q353 : ((rd_T39 l0_1 x10_3).f0) < (x4_3.length : Int) := dT_ (by first | (with_reducible assumption) | assumption); obtain ⟨ad353, e353, hx353_0⟩ := Kd.at_int (rR_ HO_4.out).2.2 ((rd_T39 l0_1 x10_3).f0) p353 q353; cases e353
                  replace p353 := eq_true p353; replace q353 := eq_true q353; have p47 : 0 ≤ (((rd_T39 l0_1 x10_3).f1) : Int) := dT_ (by first | (with_reducible assumption) | assumption); have q47 : (((rd_T39 l0_1 x10_3).f1) : Int) < ((x4_3.length : Int) : Int) := dT_ (by first | (with_reducible assumption) | assumption); obtain ⟨go47, co47, eo47, gb47, gl47, cl47, HG47⟩ := Kd.R_form HO_4.out (by omega); (first | cases eo47 | (injection eo47 with ea_ en_ ec_; (first | subst ea_ | (injection ea_ with ea_; subst ea_)); subst ec_; clear en_))
                  have GB47 := Z_ gb47; have GG47 := Z_ HG47; clear gb47 gl47 HG47; (first | simp only [add_plain] at hx353_0 | skip)
                  obtain ⟨hx47_0, hf47_0⟩ := Kd.R_celln 0 HO_4.out (((rd_T39 l0_1 x10_3).f1) : Int) p47 q47; replace p47 := eq_true p47; replace q47 := eq_true q47; have HP52 := Kd.R_putn HO_4.out (((rd_T39 l0_1 x10_3).f1) : Int) (wrap64 ((rd x4_3 ((rd_T39 l0_1 x10_3).f0)) + ((rd_T39 l0_1 x10_3).f2))); rw [← Ny354.out] at HP52; have HQ52 := Z_ HP52; clear HP52; refine start_ (n := 13) (S := fun w' => w'.cell? ⟨gb348, 0, none⟩ = some (.int .i64 ((rd_T39 l0_1 x10_3).f0)) ∧ w'.cell? ⟨gb348, 1, none⟩ = some (.int .i64 ((rd_T39 l0_1 x10_3).f1)) ∧ w'.cell? ⟨gb348, 2, none⟩ = some (.int .i64 ((rd_T39 l0_1 x10_3).f2)) ∧ w'.cell? ⟨go47, (((rd_T39 l0_1 x10_3).f0)).toNat, none⟩ = some (.int .i64 (rd x4_3 ((rd_T39 l0_1 x10_3).f0)))) (ds := [12]) #[false, false, false, false, false, false, false, false, false, false, false, false, false] (by kernel_rfl) rfl rfl ⟨(bC_ BK348.out 0).trans rfl, (bC_ BK348.out 1).trans rfl, (bC_ BK348.out 2).trans rfl, hx353_0⟩ (fun hHeld => ?_); refine with_tabW snowlineref04_Lengths.tab15 snowlineref04_Lengths.bits15 (fun HT_ HW_ => ?_); generalize wc.drew = w50 at HO_4 HO_5 BK339 BK348 HB GG47 HQ52 hf47_0 hx353_0 hx47_0 hHeld ⊢; refine pure_ (i := 0) (N := some 75) (v := ?_) (a' := ?_) (mB_ 13 1) rfl rfl (any_of HT_.out (by kernel_rfl)) (fun _ _ _ h => h) (Or.inl ⟨by rfl, ?_⟩) ?_ ?_; rotate_left; ·intro w'; go_simp; with_reducible rfl
                  rotate_left; ·simp only [Act.put, sT_, sZ_, sS_, i64_w]; rfl
                  refine pure_ (i := 1) (N := some 76) (v := ?_) (a' := ?_) (mB_ 13 3) rfl rfl (any_of HT_.out (by kernel_rfl)) (fun _ _ _ h => h) (Or.inl ⟨by rfl, ?_⟩) ?_ ?_; rotate_left; ·intro w'; go_simp; with_reducible rfl
                  rotate_left; ·simp only [Act.put, sT_, sZ_, sS_, i64_w]; rfl
                  refine pure_ (i := 3) (N := some 78) (v := ?_) (a' := ?_) (mB_ 13 11) rfl rfl (any_of HT_.out (by kernel_rfl)) (fun _ _ _ h => h) (Or.inl ⟨by rfl, ?_⟩) ?_ ?_; rotate_left; ·intro w'; go_simp; with_reducible rfl
                  rotate_left; ·simp only [Act.put, sT_, sZ_, sS_, i64_w]; rfl
                  refine pure_ (i := 4) (N := some 79) (v := ?_) (a' := ?_) (mB_ 13 27) rfl rfl (any_of HT_.out (by kernel_rfl)) (fun _ _ _ h => h) (Or.inl ⟨by rfl, ?_⟩) ?_ ?_; rotate_left; ·intro w'; go_simp; with_reducible rfl
                  rotate_left; ·simp only [Act.put, sT_, sZ_, sS_, i64_w]; rfl
                  refine pure_ (i := 8) (N := some 83) (v := ?_) (a' := ?_) (mB_ 13 283) rfl rfl (any_of HT_.out (by kernel_rfl)) (fun _ _ _ h => h) (Or.inl ⟨by rfl, ?_⟩) ?_ ?_; rotate_left; ·intro w'; go_simp; with_reducible rfl
                  rotate_left; ·simp only [Act.put, sT_, sZ_, sS_, i64_w]; rfl
                  refine take_ (i := 2) (N := some 77) (v := ?_) (a' := ?_) (mB_ 13 287) rfl rfl (take_ofW HT_.out HW_.out (by kernel_rfl)) (fun _ _ _ h => h) (Or.inl ⟨by rfl, ?_⟩) hHeld ?_ ?_; rotate_left; ·rintro w' ⟨s0, s1, s2, s3⟩; go_simp; with_reducible rfl
                  rotate_left; ·simp only [Act.put, sT_, sZ_, sS_, i64_w]; rfl
                  refine take_ (i := 5) (N := some 80) (v := ?_) (a' := ?_) (mB_ 13 319) rfl rfl (take_ofW HT_.out HW_.out (by kernel_rfl)) (fun _ _ _ h => h) (Or.inl ⟨by rfl, ?_⟩) hHeld ?_ ?_; rotate_left; ·rintro w' ⟨s0, s1, s2, s3⟩; go_simp; with_reducible rfl
                  rotate_left; ·simp only [Act.put, sT_, sZ_, sS_, i64_w]; rfl
                  refine pure_ (i := 6) (N := some 81) (v := ?_) (a' := ?_) (mB_ 13 383) rfl rfl (any_of HT_.out (by kernel_rfl)) (fun _ _ _ h => h) (Or.inl ⟨by rfl, ?_⟩) ?_ ?_; rotate_left; ·intro w'; go_simp; with_reducible rfl
                  rotate_left; ·simp only [Act.put, sT_, sZ_, sS_, i64_w]; rfl
                  refine take_ (i := 7) (N := some 82) (v := ?_) (a' := ?_) (mB_ 13 511) rfl rfl (take_ofW HT_.out HW_.out (by kernel_rfl)) (fun _ _ _ h => h) (Or.inl ⟨by rfl, ?_⟩) hHeld ?_ ?_; rotate_left; ·rintro w' ⟨s0, s1, s2, s3⟩; go_simp; with_reducible rfl
                  rotate_left; ·simp only [Act.put, sT_, sZ_, sS_, i64_w]; rfl
                  refine take_ (i := 9) (N := some 84) (v := ?_) (a' := ?_) (mB_ 13 1023) rfl rfl (take_ofW HT_.out HW_.out (by kernel_rfl)) (fun _ _ _ h => h) (Or.inl ⟨by rfl, ?_⟩) hHeld ?_ ?_; rotate_left; ·rintro w' ⟨s0, s1, s2, s3⟩; go_simp; with_reducible rfl
                  rotate_left; ·simp only [Act.put, sT_, sZ_, sS_, i64_w]; rfl
                  refine pure_ (i := 10) (N := some 85) (v := ?_) (a' := ?_) (mB_ 13 2047) rfl rfl (any_of HT_.out (by kernel_rfl)) (fun _ _ _ h => h) (Or.inl ⟨by rfl, ?_⟩) ?_ ?_; rotate_left; ·intro w'; go_simp; with_reducible rfl
                  rotate_left; ·simp only [Act.put, sT_, sZ_, sS_, i64_w]; rfl
                  refine pure_ (i := 11) (N := some 86) (v := ?_) (a' := ?_) (mB_ 13 4095) rfl rfl (any_of HT_.out (by kernel_rfl)) (fun _ _ _ h => h) (Or.inl ⟨by rfl, ?_⟩) ?_ ?_; rotate_left; ·intro w'; go_simp; with_reducible rfl
                  rotate_left; ·simp only [Act.put, sT_, sZ_, sS_, i64_w]; rfl
                  refine last_ (i := 12) (N := none) (mB_ 13 8191) rfl rfl (one_of HT_.out (by kernel_rfl)) (by decide) (fun K hK => ?_); refine skip_ (w1 := ?_) (by rfl) rfl ?_ ?_; rotate_left
                  ·go_simp
                   rfl
                  refine hK.out _ _ ?_; clear hK K; refine done_ (done_of HT_.out (by kernel_rfl)) ?_; have n0_ : Aside0 (Kd.R (Kd.int .i64) 3 (w50.setCell ⟨go47, (((rd_T39 l0_1 x10_3).f1) : Int).toNat, none⟩ (.int .i64 (wrap64 ((rd x4_3 ((rd_T39 l0_1 x10_3).f0)) + ((rd_T39 l0_1 x10_3).f2))))) w.heap.size (fun _ => True) (.slice (some ⟨go47, 0, none⟩) x4_3.length co51) y354) := ⟨HQ52.out⟩; have n1_ : Aside0 (Kd.R Kd.bool 4 (w50.setCell ⟨go47, (((rd_T39 l0_1 x10_3).f1) : Int).toNat, none⟩ (.int .i64 (wrap64 ((rd x4_3 ((rd_T39 l0_1 x10_3).f0)) + ((rd_T39 l0_1 x10_3).f2))))) w.heap.size (fun _ => True) u5 x5_3) := ⟨by (with_reducible repeat (first | apply rN_ | apply rD_)); exact rM_ (rF_ (p := ⟨go47, (((rd_T39 l0_1 x10_3).f1) : Int).toNat, none⟩) (Kd.R_types HO_5.out GG47.out (by decide)) (fun _ hk => hk.2) (.int .i64 (wrap64 ((rd x4_3 ((rd_T39 l0_1 x10_3).f0)) + ((rd_T39 l0_1 x10_3).f2))))) (fun _ hk => trivial)⟩; have n2_ : Aside0 ((w50.setCell ⟨go47, (((rd_T39 l0_1 x10_3).f1) : Int).toNat, none⟩ (.int .i64 (wrap64 ((rd x4_3 ((rd_T39 l0_1 x10_3).f0)) + ((rd_T39 l0_1 x10_3).f2))))).heap[gb339]? = some (.cells #[.int .i64 a0_0, .slice (some ad347) l0_1.length c0_1] 24 (0, 0))) := ⟨by (with_reducible repeat (first | refine bN_ ?_ _ | refine bD_ ?_)); refine blk_far ?_ (by have h_ := Kd.R_ne HO_4.out BK339.out (by decide); intro e_; exact h_ (by rw [e_]; rfl)) _; (with_reducible repeat (first | refine bN_ ?_ _ | refine bD_ ?_)); exact BK339.out⟩; have n3_ : Aside0 ((w50.setCell ⟨go47, (((rd_T39 l0_1 x10_3).f1) : Int).toNat, none⟩ (.int .i64 (wrap64 ((rd x4_3 ((rd_T39 l0_1 x10_3).f0)) + ((rd_T39 l0_1 x10_3).f2))))).heap[gb348]? = some (.cells #[.int .i64 ((rd_T39 l0_1 x10_3).f0), .int .i64 ((rd_T39 l0_1 x10_3).f1), .int .i64 ((rd_T39 l0_1 x10_3).f2)] 39 (0, 0))) := ⟨by (with_reducible repeat (first | refine bN_ ?_ _ | refine bD_ ?_)); refine blk_far ?_ (by have h_ := Kd.R_ne HO_4.out BK348.out (by decide); intro e_; exact h_ (by rw [e_]; rfl)) _; (with_reducible repeat (first | refine bN_ ?_ _ | refine bD_ ?_)); exact BK348.out⟩; have n4_ : Aside0 (Below w.heap.size w (w50.setCell ⟨go47, (((rd_T39 l0_1 x10_3).f1) : Int).toNat, none⟩ (.int .i64 (wrap64 ((rd x4_3 ((rd_T39 l0_1 x10_3).f0)) + ((rd_T39 l0_1 x10_3).f2)))))) := ⟨by repeat (first | (with_reducible first | exact HB.out | apply fA_ | apply pB_ | apply fD_ | refine fE_ ?_ GB47.out | refine fE_ ?_ GE339.out | refine fE_ ?_ GE348.out) | exact HB.out)⟩; (try clear HO_4)
                  (try clear HO_5)
                  (try clear BK339)
                  (try clear BK348)
                  (try clear HB)
                  generalize (w50.setCell ⟨go47, (((rd_T39 l0_1 x10_3).f1) : Int).toNat, none⟩ (.int .i64 (wrap64 ((rd x4_3 ((rd_T39 l0_1 x10_3).f0)) + ((rd_T39 l0_1 x10_3).f2))))) = w53 at n0_ n1_ n2_ n3_ n4_ ⊢; have HO_4 := n0_; have HO_5 := n1_; have BK339 := n2_; have BK348 := n3_; have HB := n4_; clear n0_ n1_ n2_ n3_ n4_; have hnb54 := NB348_339.out; have hnc54 := NB339_348.out; have hcz55_0 : w53.cell? ⟨gb348, 0, none⟩ = some (.int .i64 ((rd_T39 l0_1 x10_3).f0)) := (bC_ BK348.out 0).trans rfl; have hcz55_1 : w53.cell? ⟨gb348, 1, none⟩ = some (.int .i64 ((rd_T39 l0_1 x10_3).f1)) := (bC_ BK348.out 1).trans rfl; have hcz55_2 : w53.cell? ⟨gb348, 2, none⟩ = some (.int .i64 ((rd_T39 l0_1 x10_3).f2)) := (bC_ BK348.out 2).trans rfl; have hfz55_0 := bF_ BK348.out 0; have hfz55_1 := bF_ BK348.out 1; have hfz55_2 := bF_ BK348.out 2; have p49 : 0 ≤ (((rd_T39 l0_1 x10_3).f1) : Int) := dT_ (by first | (with_reducible assumption) | assumption); have q49 : (((rd_T39 l0_1 x10_3).f1) : Int) < ((x5_3.length : Int) : Int) := dT_ (by first | (with_reducible assumption) | assumption); obtain ⟨go49, co49, eo49, gb49, gl49, cl49, HG49⟩ := Kd.R_form HO_5.out (by omega); (first | cases eo49 | (injection eo49 with ea_ en_ ec_; (first | subst ea_ | (injection ea_ with ea_; subst ea_)); subst ec_; clear en_))
                  have GB49 := Z_ gb49; have GG49 := Z_ HG49; clear gb49 gl49 HG49; obtain ⟨hx49_0, hf49_0⟩ := Kd.R_celln false HO_5.out (((rd_T39 l0_1 x10_3).f1) : Int) p49 q49; replace p49 := eq_true p49; replace q49 := eq_true q49; obtain ⟨hy56_, hz56_⟩ := Kd.R_celln false HO_5.out (((rd_T39 l0_1 x10_3).f1) : Int) (dT_ (by first | (with_reducible assumption) | assumption)) (dT_ (by first | (with_reducible assumption) | assumption)); have HP56 := Kd.R_putg HO_5.out (((rd_T39 l0_1 x10_3).f1) : Int) true; try go_wp2_with (first | ((with_reducible refine gate_store (t := 4) (p := 90) rfl ?_); refine store_event (t := 4) (p := 90) (v := ?vo_w57) (w1 := (w53.setCell ⟨go49, (((rd_T39 l0_1 x10_3).f1) : Int).toNat, none⟩ (.bool true))) ?hg ?ho ?hn ?hr ?_; (case ho => rfl); (case hg => rfl); (case hn => rfl); (case hr => first | (go_simp; done) | (go_simp; rfl)); intro w57 hw; have hg : w53.grownBy w57 (some go49) := (by rw [hw]; exact HP56.2); have hp_ : Kd.R Kd.bool 4 w57 w.heap.size (fun _ => True) (.slice (some ⟨go49, 0, none⟩) x5_3.length co49) y355 := (by rw [hw, Ny355.out]; exact HP56.1); clear HP56; replace HO_4 := Z_ (Kd.R_over' (v := (.slice (some ⟨go49, 0, none⟩) x5_3.length co49)) HO_4.out (Kd.R_typed HO_5.out) (by decide) hg); replace BK339 := Z_ (blk_grown (g := gb339) (o := .cells #[.int .i64 a0_0, .slice (some ad347) l0_1.length c0_1] 24 (0, 0)) BK339.out hg (Kd.R_ne HO_5.out BK339.out (by decide))); replace BK348 := Z_ (blk_grown (g := gb348) (o := .cells #[.int .i64 ((rd_T39 l0_1 x10_3).f0), .int .i64 ((rd_T39 l0_1 x10_3).f1), .int .i64 ((rd_T39 l0_1 x10_3).f2)] 39 (0, 0)) BK348.out hg (Kd.R_ne HO_5.out BK348.out (by decide))); replace HO_5 := Z_ (hp_); replace HB := Z_ ((by rw [hw]; exact fE_ (HB.out) GB49.out : Below w.heap.size w w57)); clear hg hw hp_))
                  go_roundg kj16
                  case measure => have := HK1.out; have := HK2.out; have := HK3.out; have := HJ16.out; omega
                  case rel => exact ⟨(y354), (y355), (true), (wrap64 (x10_3 + 1)), (by first | rfl | (simp; done) | (simp [*]; done)), (by first | rfl | (simp; done) | (simp [*]; done)), H', ⟨by have := HK1.out; have := HK2.out; have := HK3.out; have := HJ16.out; omega⟩, ⟨HO_4.out⟩, ⟨HO_5.out⟩, ⟨BK339.out⟩, ⟨HB.out⟩⟩
                 rw [if_neg c48] at H; exact absurd H (by simp)
                rw [if_neg c46] at H; exact absurd H (by simp)
               rw [if_neg c45] at H; exact absurd H (by simp)
              rw [if_neg c44] at H; exact absurd H (by simp)
             rw [if_neg c43] at H; exact absurd H (by simp)
            replace c42 := bE_.mpr c42; subst c42; have H1 : (snowlineref04_Lengths.l2 kj16 x4_3 x5_3 x8_2 x9_3 (wrap64 (x10_3 + 1)) a0_0 l0_1) = some (r1, r2, r3) := by rw [if_neg (show ¬ (false = true) by decide)] at H; exact H
            clear H; have H := H1; clear H1; have H' := Z_ H; clear H; go_wp2; go_roundg kj16
            case measure => have := HK1.out; have := HK2.out; have := HK3.out; have := HJ16.out; omega
            case rel => exact ⟨(x4_3), (x5_3), (x9_3), (wrap64 (x10_3 + 1)), (by first | rfl | (simp; done) | (simp [*]; done)), (by first | rfl | (simp; done) | (simp [*]; done)), H', ⟨by have := HK1.out; have := HK2.out; have := HK3.out; have := HJ16.out; omega⟩, ⟨HO_4.out⟩, ⟨HO_5.out⟩, ⟨BK339.out⟩, ⟨HB.out⟩⟩
         rw [if_neg c16] at H; exact absurd H (by simp)
        rw [if_neg c15] at H; have c15b0 : decide (x10_3 < (l0_1.length : Int)) = false := eF_ c15; clear c15; by_cases c58 : x9_3 = true
        ·subst c58
         have H1 : (snowlineref04_Lengths.l1 k3 x4_3 x5_3 (wrap64 (x8_2 + 1)) a0_0 l0_1) = some (r1, r2, r3) := by rw [if_pos rfl] at H; exact H
         clear H; have H := H1; clear H1; have H' := Z_ H; clear H; have hcz59_0 : wr.cell? ⟨gb339, 0, none⟩ = some (.int .i64 a0_0) := (bC_ BK339.out 0).trans rfl; have hcz59_1 : wr.cell? ⟨gb339, 1, none⟩ = some (.slice A0_1 l0_1.length c0_1) := (bC_ BK339.out 1).trans rfl; have hfz59_0 := bF_ BK339.out 0; have hfz59_1 := bF_ BK339.out 1; go_wp2; go_roundg k3
         case measure => have := HK1.out; have := HK2.out; have := HK3.out; omega
         case rel => exact ⟨(x4_3), (x5_3), (wrap64 (x8_2 + 1)), (by first | rfl | (simp; done) | (simp [*]; done)), H', ⟨by have := HK1.out; have := HK2.out; have := HK3.out; omega⟩, ⟨HO_4.out⟩, ⟨HO_5.out⟩, ⟨BK339.out⟩, ⟨HB.out⟩⟩
        replace c58 := bE_.mpr c58; subst c58; have H1 : (some (x4_3, x5_3, true)) = some (r1, r2, r3) := by rw [if_neg (show ¬ (false = true) by decide)] at H; exact H
        clear H; have H := H1; clear H1; simp only [oJ_, pI_] at H; obtain ⟨rfl, rfl, rfl⟩ := H; have hcz60_0 : wr.cell? ⟨gb339, 0, none⟩ = some (.int .i64 a0_0) := (bC_ BK339.out 0).trans rfl; have hcz60_1 : wr.cell? ⟨gb339, 1, none⟩ = some (.slice A0_1 l0_1.length c0_1) := (bC_ BK339.out 1).trans rfl; have hfz60_0 := bF_ BK339.out 0; have hfz60_1 := bF_ BK339.out 1; go_wp2; go_ret3; exact ⟨_, _, by first | rfl | (simp [errW_none, errW_some] <;> rfl) | (simp [*, errW_none, errW_some] <;> rfl), HO_4.out, HO_5.out, HB.out⟩
     rw [if_neg c13] at H; have c13b0 : decide (x8_2 ≤ a0_0) = false := eF_ c13; clear c13; simp only [oJ_, pI_] at H; obtain ⟨rfl, rfl, rfl⟩ := H; have hcz61_0 : wr.cell? ⟨gb339, 0, none⟩ = some (.int .i64 a0_0) := (bC_ BK339.out 0).trans rfl; have hcz61_1 : wr.cell? ⟨gb339, 1, none⟩ = some (.slice A0_1 l0_1.length c0_1) := (bC_ BK339.out 1).trans rfl; have hfz61_0 := bF_ BK339.out 0; have hfz61_1 := bF_ BK339.out 1; go_wp2; go_ret3; exact ⟨_, _, by first | rfl | (simp [errW_none, errW_some] <;> rfl) | (simp [*, errW_none, errW_some] <;> rfl), HO_4.out, HO_5.out, HB.out⟩
def snowlineref04_marks.l0 : Nat → Bool → Int → List Bool → Int → Int → List (S39) → Option (List Bool)
 | 0, _, _, _, _, _, _ => none
 | k + 1, x1, x2, x7, x8, x357000, x357001 => if x8 < x357000 then (if x1 = true then (if x7.length < 140737488355328 then (snowlineref04_marks.l0 k x1 x2 (x7 ++ [true]) (wrap64 (x8 + 1)) x357000 x357001) else (none)) else (if x7.length < 140737488355328 then (snowlineref04_marks.l0 k x1 x2 (x7 ++ [(x8 == x2)]) (wrap64 (x8 + 1)) x357000 x357001) else (none))) else (some x7)
def snowlineref04_marks.f (k : Nat) (a0_0 : Int) (l0_1 : List (S39)) (a1 : Bool) (a2 : Int) : Option (List Bool) := snowlineref04_marks.l0 k a1 a2 ([] : List Bool) 0 a0_0 l0_1
theorem snowlineref04_marks.mono_l : ∀ k, (∀ y0 y1 y2 y3 y4 y5, LeO (snowlineref04_marks.l0 k y0 y1 y2 y3 y4 y5) (snowlineref04_marks.l0 (k + 1) y0 y1 y2 y3 y4 y5))
 | 0 => fun _ _ _ _ _ _ r h => by simp [snowlineref04_marks.l0] at h
 | k + 1 => by
  have ih0 := snowlineref04_marks.mono_l k; intro y0 y1 y2 y3 y4 y5; unfold snowlineref04_marks.l0; repeat' first | (with_reducible first | exact ih0 _ _ _ _ _ _ | exact LeO.refl _ | exact LeO.none _ | refine LeO.ite ?_ ?_ | refine LeO.bind ?_ (fun _ => ?_)) | exact ih0 _ _ _ _ _ _ | exact LeO.none _ | refine LeO.ite ?_ ?_ | refine LeO.bind ?_ (fun _ => ?_)
theorem snowlineref04_marks.mono : ∀ a0 a1 a2 a3 k, LeO (snowlineref04_marks.f k a0 a1 a2 a3) (snowlineref04_marks.f (k + 1) a0 a1 a2 a3) := by
 intro a0 a1 a2 a3 k; have ih0 := snowlineref04_marks.mono_l k; unfold snowlineref04_marks.f; repeat' first | (with_reducible first | exact ih0 _ _ _ _ _ _ | exact LeO.refl _ | exact LeO.none _ | refine LeO.ite ?_ ?_ | refine LeO.bind ?_ (fun _ => ?_)) | exact ih0 _ _ _ _ _ _ | exact LeO.none _ | refine LeO.ite ?_ ?_ | refine LeO.bind ?_ (fun _ => ?_)
set_option maxHeartbeats 8000000 in
set_option maxRecDepth 100000 in
theorem snowlineref04_marks.calls (k : Nat) (a0_0 : Int) (A0_1 : Option Addr) (c0_1 : Nat) (l0_1 : List (S39)) (a1 : Bool) (a2 : Int) (r : List Bool) (w : World) (hr0_1 : Kd.C k39 w A0_1 l0_1.length l0_1) (hc0_1 : l0_1.length ≤ c0_1) (h : snowlineref04_marks.f k a0_0 l0_1 a1 a2 = some r) :
  Calls Try.prog 72 #[.agg #[.int .i64 a0_0, .slice A0_1 l0_1.length c0_1], .bool a1, .int .i64 a2] w fun e w' => ∃ v0_ : Value, e = .returned (v0_) ∧ Kd.R Kd.bool 4 w' w.heap.size (fun _ => True) v0_ r ∧ Below w.heap.size w w' := by
 have hu24 := Try.underlying24; have HR0_1 := Z_ hr0_1; have HC0_1 := Z_ hc0_1; clear hr0_1 hc0_1; have HB := Z_ (Below.refl w.heap.size w); have H : (snowlineref04_marks.l0 k a1 a2 ([] : List Bool) 0 a0_0 l0_1) = some r := h; clear h; have H' := Z_ H; clear H; go_enter Try.func72, Try.ntmps72; go_wp2_with (first | ((with_reducible refine gate_dst (N := 3) rfl ?_); refine box_event ?hg (N := 3) ?hd (cs := #[.int .i64 a0_0, .slice A0_1 l0_1.length c0_1]) (t := 24) ?hr ?_; (case hd => rfl); (case hg => rfl); (case hr => first | (go_simp; done) | (go_simp; rfl)); intro gb356 hg w4 hbox hb; have BK356 := Z_ (hbox); have GW356 := Z_ ((by rw [hg]; exact (fZ_ HB.out) : w.heap.size ≤ gb356)); have GE356 := Z_ ((by rw [hg]; exact (fZ_ HB.out) : w.heap.size ≤ gb356)); replace HB := Z_ (fS_ HB.out hb); clear hb hbox hg)); go_loopg [7, 8] k (fun kq v7 v8 w' => ∃ (x7_1 : List Bool) (x8_1 : Int), v8 = .int .i64 x8_1 ∧ Aside0 (snowlineref04_marks.l0 kq a1 a2 x7_1 x8_1 a0_0 l0_1 = some r) ∧ Aside0 (kq ≤ k) ∧ Aside0 (Kd.R Kd.bool 4 w' w.heap.size (fun _ => True) v7 x7_1) ∧ Aside0 (w'.heap[gb356]? = some (.cells #[.int .i64 a0_0, (.slice A0_1 l0_1.length c0_1)] 24 (0, 0))) ∧ Aside0 (Below w.heap.size w w'))
 case atStart => exact ⟨(([] : List Bool)), (0), (by first | rfl | (simp; done) | (simp [*]; done)), H', ⟨nR_ _⟩, ⟨by first | exact Kd.R_nil _ _ _ _ _ | exact Kd.N_nil _ _ _ _ _ | exact Kd.V_nil _ _ _ _ _ | exact Kd.Q_nil _ _ _ _ _ | exact Kd.S_nil _ _ _ _ _⟩, ⟨BK356.out⟩, ⟨HB.out⟩⟩
 case round =>
  clear H'; (try clear p2)
  obtain ⟨x7_1, x8_1, rfl, HA, HK1, HO_7, BK356, HB⟩ := hrel
  cases gk with
  | zero => exact absurd HA.out (by simp [snowlineref04_marks.l0])
  | succ k1 =>
   have H := HA.out; clear HA; simp only [snowlineref04_marks.l0] at H; by_cases c5 : x8_1 < a0_0
   ·rw [if_pos c5] at H
    have c5b0 : decide (x8_1 < a0_0) = true := eT_ c5; clear c5; by_cases c6 : a1 = true
    ·subst c6
     have H1 : (if x7_1.length < 140737488355328 then (snowlineref04_marks.l0 k1 true a2 (x7_1 ++ [true]) (wrap64 (x8_1 + 1)) a0_0 l0_1) else (none)) = some r := by rw [if_pos rfl] at H; exact H
     clear H; have H := H1; clear H1; by_cases c7 : x7_1.length < 140737488355328
     ·rw [if_pos c7] at H
      have LMc7 := Z_ c7; clear c7; obtain ⟨y357, hy357⟩ : ∃ y_ : List Bool, y_ = (x7_1 ++ [true]) := ⟨_, rfl⟩; replace H : (snowlineref04_marks.l0 k1 true a2 y357 (wrap64 (x8_1 + 1)) a0_0 l0_1) = some r := by first | (rw [hy357]; with_reducible exact H) | (have H2_ := (oB_ _ _).symm.trans H; rw [hy357]; with_reducible exact H2_) | (have H2_ := (oB_ _ _).symm.trans H; with_reducible exact H2_) | with_reducible exact H | (rw [hy357]; exact H) | exact H
      have Ny357 := Z_ hy357; clear hy357; have H' := Z_ H; clear H; have hcz8_0 : wr.cell? ⟨gb356, 0, none⟩ = some (.int .i64 a0_0) := (bC_ BK356.out 0).trans rfl; have hcz8_1 : wr.cell? ⟨gb356, 1, none⟩ = some (.slice A0_1 l0_1.length c0_1) := (bC_ BK356.out 1).trans rfl; have hfz8_0 := bF_ BK356.out 0; have hfz8_1 := bF_ BK356.out 1; go_wp2_with (first | ((with_reducible refine gate_builtin (b := .append) (xs := #[.tmp 15, .tmp 22]) rfl ?_); at_builtin; refine Kd.R_append Kd.bool (w0 := w) w.heap.size rfl (.tmp 15) (.tmp 22) 41 4 (.bool false) 1 rfl Try.underlying41 info4 rfl (by decide) (by omega) u7 x7_1 true [.bool true] (fun _ => True) (fun _ => False) rfl rfl ?aP (fun _ hk => hk.elim) ?aF ?aO ?aB ?aS ?aL ?_; (case aP => exact rfl); (case aB => exact HB.out); (case aF => exact (fun _ _ => trivial)); (case aO => exact HO_7.out); (case aS => exact (fZ_ HB.out)); (case aL => have := LMc7.out; omega); intro v358 w9 ho hb hg hat; rw [← Ny357.out] at ho; replace BK356 := Z_ (blk_grown (g := gb356) (o := .cells #[.int .i64 a0_0, .slice A0_1 l0_1.length c0_1] 24 (0, 0)) BK356.out hg (Kd.R_ne HO_7.out BK356.out (by decide))); replace HB := Z_ (hb); have HO359 := Z_ (ho); clear HO_7; clear ho hb hg hat)); go_roundg k1
      case measure => have := HK1.out; omega
      case rel => exact ⟨(y357), (wrap64 (x8_1 + 1)), (by first | rfl | (simp; done) | (simp [*]; done)), H', ⟨by have := HK1.out; omega⟩, ⟨HO359.out⟩, ⟨BK356.out⟩, ⟨HB.out⟩⟩
     rw [if_neg c7] at H; exact absurd H (by simp)
    replace c6 := bE_.mpr c6; subst c6; have H1 : (if x7_1.length < 140737488355328 then (snowlineref04_marks.l0 k1 false a2 (x7_1 ++ [(x8_1 == a2)]) (wrap64 (x8_1 + 1)) a0_0 l0_1) else (none)) = some r := by rw [if_neg (show ¬ (false = true) by decide)] at H; exact H
    clear H; have H := H1; clear H1; by_cases c10 : x7_1.length < 140737488355328
    ·rw [if_pos c10] at H
     have LMc10 := Z_ c10; clear c10; obtain ⟨y360, hy360⟩ : ∃ y_ : List Bool, y_ = (x7_1 ++ [(x8_1 == a2)]) := ⟨_, rfl⟩; replace H : (snowlineref04_marks.l0 k1 false a2 y360 (wrap64 (x8_1 + 1)) a0_0 l0_1) = some r := by first | (rw [hy360]; with_reducible exact H) | (have H2_ := (oB_ _ _).symm.trans H; rw [hy360]; with_reducible exact H2_) | (have H2_ := (oB_ _ _).symm.trans H; with_reducible exact H2_) | with_reducible exact H | (rw [hy360]; exact H) | exact H
     have Ny360 := Z_ hy360; clear hy360; have H' := Z_ H; clear H; have hcz11_0 : wr.cell? ⟨gb356, 0, none⟩ = some (.int .i64 a0_0) := (bC_ BK356.out 0).trans rfl; have hcz11_1 : wr.cell? ⟨gb356, 1, none⟩ = some (.slice A0_1 l0_1.length c0_1) := (bC_ BK356.out 1).trans rfl; have hfz11_0 := bF_ BK356.out 0; have hfz11_1 := bF_ BK356.out 1; go_wp2_with (first | ((with_reducible refine gate_builtin (b := .append) (xs := #[.tmp 15, .tmp 22]) rfl ?_); at_builtin; refine Kd.R_append Kd.bool (w0 := w) w.heap.size rfl (.tmp 15) (.tmp 22) 41 4 (.bool false) 1 rfl Try.underlying41 info4 rfl (by decide) (by omega) u7 x7_1 (x8_1 == a2) [.bool (x8_1 == a2)] (fun _ => True) (fun _ => False) rfl rfl ?aP (fun _ hk => hk.elim) ?aF ?aO ?aB ?aS ?aL ?_; (case aP => exact rfl); (case aB => exact HB.out); (case aF => exact (fun _ _ => trivial)); (case aO => exact HO_7.out); (case aS => exact (fZ_ HB.out)); (case aL => have := LMc10.out; omega); intro v361 w12 ho hb hg hat; rw [← Ny360.out] at ho; replace BK356 := Z_ (blk_grown (g := gb356) (o := .cells #[.int .i64 a0_0, .slice A0_1 l0_1.length c0_1] 24 (0, 0)) BK356.out hg (Kd.R_ne HO_7.out BK356.out (by decide))); replace HB := Z_ (hb); have HO362 := Z_ (ho); clear HO_7; clear ho hb hg hat)); go_roundg k1
     case measure => have := HK1.out; omega
     case rel => exact ⟨(y360), (wrap64 (x8_1 + 1)), (by first | rfl | (simp; done) | (simp [*]; done)), H', ⟨by have := HK1.out; omega⟩, ⟨HO362.out⟩, ⟨BK356.out⟩, ⟨HB.out⟩⟩
    rw [if_neg c10] at H; exact absurd H (by simp)
   rw [if_neg c5] at H; have c5b0 : decide (x8_1 < a0_0) = false := eF_ c5; clear c5; obtain rfl := oI_ H; have hcz13_0 : wr.cell? ⟨gb356, 0, none⟩ = some (.int .i64 a0_0) := (bC_ BK356.out 0).trans rfl; have hcz13_1 : wr.cell? ⟨gb356, 1, none⟩ = some (.slice A0_1 l0_1.length c0_1) := (bC_ BK356.out 1).trans rfl; have hfz13_0 := bF_ BK356.out 0; have hfz13_1 := bF_ BK356.out 1; go_wp2; go_ret; exact ⟨_, by first | rfl | (simp [errW_none, errW_some] <;> rfl) | (simp [*, errW_none, errW_some] <;> rfl), HO_7.out, HB.out⟩
def snowlineref04_Solvable.f (k : Nat) (a0_0 : Int) (l0_1 : List (S39)) : Option (Bool) := (snowlineref04_marks.f k a0_0 l0_1 true 0).bind fun t364 => ((snowlineref04_Lengths.f k a0_0 l0_1 t364).bind fun bt367 => (some bt367.2.2))
theorem snowlineref04_Solvable.mono : ∀ a0 a1 k, LeO (snowlineref04_Solvable.f k a0 a1) (snowlineref04_Solvable.f (k + 1) a0 a1) := by
 intro a0 a1 k; unfold snowlineref04_Solvable.f; repeat' first | (with_reducible first | exact snowlineref04_Lengths.mono _ _ _ _ | exact snowlineref04_marks.mono _ _ _ _ _ | exact LeO.refl _ | exact LeO.none _ | refine LeO.ite ?_ ?_ | refine LeO.bind ?_ (fun _ => ?_)) | exact snowlineref04_Lengths.mono _ _ _ _ | exact snowlineref04_marks.mono _ _ _ _ _ | exact LeO.none _ | refine LeO.ite ?_ ?_ | refine LeO.bind ?_ (fun _ => ?_)
def snowlineref04_Solvable.T1 : Bool × List (List Nat × List Nat) := (true, [([], []), ([], []), ([1], [1]), ([0, 2, 2], [0, 2]), ([3], [3]), ([4], [4]), ([4], [4]), ([4], [4]), ([5, 3, 0, 1, 2, 3, 4, 5], [5]), ([6, 8, 0, 1, 2, 3, 4, 5, 6, 8], [6]), ([7, 9, 0, 1, 2, 3, 4, 5, 6, 7, 8, 9], [7])])
def snowlineref04_Solvable.B1 : List Nat := [0, 0, 2, 7, 15, 31, 31, 31, 63, 383, 1023]
theorem snowlineref04_Solvable.tab1 : rtab .any (opsOf Try.f41 1) = snowlineref04_Solvable.T1 := by kernel_rfl
theorem snowlineref04_Solvable.bits1 : waitsOk snowlineref04_Solvable.T1.2 snowlineref04_Solvable.B1 = true := by kernel_rfl
set_option maxHeartbeats 8000000 in
set_option maxRecDepth 100000 in
theorem snowlineref04_Solvable.calls (k : Nat) (a0_0 : Int) (A0_1 : Option Addr) (c0_1 : Nat) (l0_1 : List (S39)) (r : Bool) (w : World) (hr0_1 : Kd.C k39 w A0_1 l0_1.length l0_1) (hc0_1 : l0_1.length ≤ c0_1) (h : snowlineref04_Solvable.f k a0_0 l0_1 = some r) :
  Calls Try.prog 41 #[.agg #[.int .i64 a0_0, .slice A0_1 l0_1.length c0_1]] w fun e w' => e = .returned (.bool r) ∧ Below w.heap.size w w' := by
 have hu24 := Try.underlying24; have HR0_1 := Z_ hr0_1; have HC0_1 := Z_ hc0_1; clear hr0_1 hc0_1; have HB := Z_ (Below.refl w.heap.size w); have H : ((snowlineref04_marks.f k a0_0 l0_1 true 0).bind fun t364 => ((snowlineref04_Lengths.f k a0_0 l0_1 t364).bind fun bt367 => (some bt367.2.2))) = some r := h; clear h; replace H := oS_.mp H; obtain ⟨t364, A20, H⟩ := H; replace H : ((snowlineref04_Lengths.f k a0_0 l0_1 t364).bind fun bt367 => (some bt367.2.2)) = some r := H; have A2 := Z_ A20; clear A20; replace H := oS_.mp H; obtain ⟨⟨t367, t370, t373⟩, A30, H⟩ := H; replace H : (some t373) = some r := H; have A3 := Z_ A30; clear A30; obtain rfl := oI_ H; go_enter Try.func41, Try.ntmps41; try go_wp2_with (first | ((with_reducible refine gate_dst (N := 1) rfl ?_); refine box_event ?hg (N := 1) ?hd (cs := #[.int .i64 a0_0, .slice A0_1 l0_1.length c0_1]) (t := 24) ?hr ?_; (case hd => rfl); (case hg => rfl); (case hr => first | (go_simp; done) | (go_simp; rfl)); intro gb363 hg w4 hbox hb; have BK363 := Z_ (hbox); have GW363 := Z_ ((by rw [hg]; exact (fZ_ HB.out) : w.heap.size ≤ gb363)); have GE363 := Z_ ((by rw [hg]; exact (fZ_ HB.out) : w.heap.size ≤ gb363)); replace HB := Z_ (fS_ HB.out hb); clear hb hbox hg))
 replace BK363 := Z_ (bD_ BK363.out); replace HB := Z_ (fD_ HB.out); refine start_ (n := 11) (S := fun w' => w'.cell? ⟨gb363, 0, none⟩ = some (.int .i64 a0_0) ∧ w'.cell? ⟨gb363, 1, none⟩ = some (.slice A0_1 l0_1.length c0_1)) (ds := []) #[false, false, false, false, false, false, false, false, false, false, false] (by kernel_rfl) rfl rfl ⟨(bC_ BK363.out 0).trans rfl, (bC_ BK363.out 1).trans rfl⟩ (fun hHeld => ?_); refine with_tabW snowlineref04_Solvable.tab1 snowlineref04_Solvable.bits1 (fun HT_ HW_ => ?_); generalize w4.drew = w5 at BK363 HB hHeld ⊢; refine take_ (i := 0) (N := some 7) (v := ?_) (a' := ?_) (mB_ 11 1) rfl rfl (take_ofW HT_.out HW_.out (by kernel_rfl)) (fun _ _ _ h => h) (Or.inl ⟨by rfl, ?_⟩) hHeld ?_ ?_; rotate_left; ·rintro w' ⟨s0, s1⟩; go_simp; with_reducible rfl
 rotate_left; ·simp only [Act.put, sT_, sZ_, sS_, i64_w]; rfl
 refine take_ (i := 1) (N := some 8) (v := ?_) (a' := ?_) (mB_ 11 3) rfl rfl (take_ofW HT_.out HW_.out (by kernel_rfl)) (fun _ _ _ h => h) (Or.inl ⟨by rfl, ?_⟩) hHeld ?_ ?_; rotate_left; ·rintro w' ⟨s0, s1⟩; go_simp; with_reducible rfl
 rotate_left; ·simp only [Act.put, sT_, sZ_, sS_, i64_w]; rfl
 refine one_ (i := 2) (N := some 9) (mB_ 11 7) rfl rfl (one_of HT_.out (by kernel_rfl)) (by decide) (fun K hK => ?_); refine goes_ Try.func72 (by kernel_rfl) rfl #[.agg #[.int .i64 a0_0, .slice A0_1 l0_1.length c0_1], .bool true, .int .i64 0] (by rfl) rfl rfl (by (try simp only [mT_, mC_, mN_]); first | done | rfl | (simp only [lD_, lT_]; rfl)) ?_; with_reducible refine (snowlineref04_marks.calls k a0_0 _ _ l0_1 true 0 t364 _ ?side1 ?side2 A2.out).mono ?_
 (case side1 => exact (cB_ HR0_1.out HB.out))
 (case side2 => exact HC0_1.out)
 rintro e w6 ⟨v365, rfl, ho0, hb⟩; refine ⟨_, rfl, ?_⟩; have HO366 := Z_ (rL_ ho0 (fZ_ HB.out)); replace BK363 := Z_ (bB_ (g := gb363) (o := .cells #[.int .i64 a0_0, .slice A0_1 l0_1.length c0_1] 24 (0, 0)) BK363.out hb); replace HB := Z_ (fS_ HB.out hb); (try clear hb)
 (try clear hb2)
 (try clear hk)
 (try clear hi)
 (try clear ho0)
 obtain ⟨Ao7, co7, eo7⟩ := rS_ HO366.out; (first | subst eo7 | (injection eo7 with f1_ f2_ f3_; have f4_ := f1_.symm; have f5_ := f3_.symm; clear f1_ f2_ f3_; subst f4_; subst f5_))
 refine hK.out _ _ ⟨(bC_ BK363.out 0).trans rfl, (bC_ BK363.out 1).trans rfl⟩ (fun hHeld => ?_); clear hK K; refine norm_ (a' := ?_) ?_ ?_; rotate_left; ·show Act.put _ (some 9) _ = _; simp only [Act.put, sT_, sZ_, sS_, i64_w]; rfl
 refine one_ (i := 3) (N := some 10) (mB_ 11 15) rfl rfl (one_of HT_.out (by kernel_rfl)) (by decide) (fun K hK => ?_); refine goes_ Try.func71 (by kernel_rfl) rfl #[.agg #[.int .i64 a0_0, .slice A0_1 l0_1.length c0_1], .slice Ao7 t364.length co7] (by rfl) rfl rfl (by (try simp only [mT_, mC_, mN_]); first | done | rfl | (simp only [lD_, lT_]; rfl)) ?_; with_reducible refine (snowlineref04_Lengths.calls k a0_0 _ _ l0_1 _ _ t364 t367 t370 t373 _ ?side1 ?side2 ?side3 ?side4 A3.out).mono ?_
 (case side1 => exact (cB_ HR0_1.out HB.out))
 (case side2 => exact HC0_1.out)
 (case side3 => repeat (first | exact (rR_ HO366.out).2.2 | (with_reducible refine Kd.C_alloc ?_ _) | (with_reducible refine Kd.C_drewN ?_ _) | (with_reducible refine Kd.C_drew ?_)))
 (case side4 => exact (rR_ HO366.out).2.1)
 rintro e w8 ⟨v368, v371, rfl, ho0, ho1, hb⟩; refine ⟨_, rfl, ?_⟩; have HO369 := Z_ (rL_ ho0 (fZ_ HB.out)); have HO372 := Z_ (rL_ (Kd.R_new' ho1 (Kd.R_lt HO366.out)) (fZ_ HB.out)); replace HO366 := Z_ (Kd.R_elder' HO366.out (Kd.R_base ho1) hb); replace BK363 := Z_ (bB_ (g := gb363) (o := .cells #[.int .i64 a0_0, .slice A0_1 l0_1.length c0_1] 24 (0, 0)) BK363.out hb); replace HB := Z_ (fS_ HB.out hb); (try clear hb)
 (try clear hb2)
 (try clear hk)
 (try clear hi)
 (try clear ho0)
 (try clear ho1)
 refine hK.out _ _ ⟨(bC_ BK363.out 0).trans rfl, (bC_ BK363.out 1).trans rfl⟩ (fun hHeld => ?_); clear hK K; refine norm_ (a' := ?_) ?_ ?_; rotate_left; ·show Act.put _ (some 10) _ = _; simp only [Act.put, sT_, sZ_, sS_, i64_w]; rfl
 refine pure_ (i := 4) (N := some 6) (v := ?_) (a' := ?_) (mB_ 11 31) rfl rfl (any_of HT_.out (by kernel_rfl)) (fun _ _ _ h => h) (Or.inl ⟨by rfl, ?_⟩) ?_ ?_; rotate_left; ·intro w'; go_simp; with_reducible rfl
 rotate_left; ·simp only [Act.put, sT_, sZ_, sS_, i64_w]; rfl
 refine pure_ (i := 5) (N := some 11) (v := ?_) (a' := ?_) (mB_ 11 63) rfl rfl (any_of HT_.out (by kernel_rfl)) (fun _ _ _ h => h) (Or.inl ⟨by rfl, ?_⟩) ?_ ?_; rotate_left; ·intro w'; go_simp; with_reducible rfl
 rotate_left; ·simp only [Act.put, sT_, sZ_, sS_, i64_w]; rfl
 refine pure_ (i := 6) (N := some 12) (v := ?_) (a' := ?_) (mB_ 11 127) rfl rfl (any_of HT_.out (by kernel_rfl)) (fun _ _ _ h => h) (Or.inl ⟨by rfl, ?_⟩) ?_ ?_; rotate_left; ·intro w'; go_simp; with_reducible rfl
 rotate_left; ·simp only [Act.put, sT_, sZ_, sS_, i64_w]; rfl
 refine pure_ (i := 7) (N := some 13) (v := ?_) (a' := ?_) (mB_ 11 255) rfl rfl (any_of HT_.out (by kernel_rfl)) (fun _ _ _ h => h) (Or.inl ⟨by rfl, ?_⟩) ?_ ?_; rotate_left; ·intro w'; go_simp; with_reducible rfl
 rotate_left; ·simp only [Act.put, sT_, sZ_, sS_, i64_w]; rfl
 refine pure_ (i := 8) (N := some 3) (v := ?_) (a' := ?_) (mB_ 11 511) rfl rfl (any_of HT_.out (by kernel_rfl)) (fun _ _ _ h => h) (Or.inl ⟨by rfl, ?_⟩) ?_ ?_; rotate_left; ·intro w'; go_simp; with_reducible rfl
 rotate_left; ·simp only [Act.put, sT_, sZ_, sS_, i64_w]; rfl
 refine pure_ (i := 9) (N := some 4) (v := ?_) (a' := ?_) (mB_ 11 1023) rfl rfl (any_of HT_.out (by kernel_rfl)) (fun _ _ _ h => h) (Or.inl ⟨by rfl, ?_⟩) ?_ ?_; rotate_left; ·intro w'; go_simp; with_reducible rfl
 rotate_left; ·simp only [Act.put, sT_, sZ_, sS_, i64_w]; rfl
 refine pure_ (i := 10) (N := some 5) (v := ?_) (a' := ?_) (mB_ 11 2047) rfl rfl (any_of HT_.out (by kernel_rfl)) (fun _ _ _ h => h) (Or.inl ⟨by rfl, ?_⟩) ?_ ?_; rotate_left; ·intro w'; go_simp; with_reducible rfl
 rotate_left; ·simp only [Act.put, sT_, sZ_, sS_, i64_w]; rfl
 refine done_ (done_of HT_.out (by kernel_rfl)) ?_; try go_wp2
 go_ret; exact ⟨by first | rfl | (simp [errW_none, errW_some] <;> rfl) | (simp [*, errW_none, errW_some] <;> rfl), HB.out⟩
end Go.Proofs.Ytpolojoeabmhdaa.A
/- The reference: Lengths, marks, Solvable, Check. -/
namespace Go.Proofs.Ytpolojoeabmhdaa.A
open Go.RowKit Go.Proofs.YtpolojoeabmhdaaW.PrintWords Go.Proofs.YtpolojoeabmhdaaW.PrintLast Go.Proofs.YtpolojoeabmhdaaW.PrintMore
theorem ext_rd {a b : List Int} (hl : a.length = b.length) (h : ∀ v : Int, 0 ≤ v → v < (a.length : Int) → rd a v = rd b v) : a = b :=
  List.ext_getElem hl (fun i h1 h2 => by
    have p := h i (by omega) (by omega)
    unfold rd at p
    rw [List.getD_eq_getElem?_getD, List.getD_eq_getElem?_getD, Int.toNat_natCast, List.getElem?_eq_getElem h1, List.getElem?_eq_getElem h2] at p
    exact p)
theorem ext_rdOf {α : Type} (d : α) {a b : List α} (hl : a.length = b.length) (h : ∀ v : Int, 0 ≤ v → v < (a.length : Int) → rdOf d a v = rdOf d b v) : a = b :=
  List.ext_getElem hl (fun i h1 h2 => by
    have p := h i (by omega) (by omega)
    unfold rdOf at p
    rw [List.getD_eq_getElem?_getD, List.getD_eq_getElem?_getD, Int.toNat_natCast, List.getElem?_eq_getElem h1, List.getElem?_eq_getElem h2] at p
    exact p)
section
variable {n : Nat} {L : List S39} {src : Int → Prop}
theorem len_l2 (hE : EdgesOk n L) {b : Int} (hb : 0 ≤ b) (hbm : b + L.length ≤ 4294967296) (x8 : Int) : ∀ (q : Nat) (k c : Int) (s : Sg) (T : Int → Int) (f : Nat), (q : Int) + k = L.length → 0 ≤ k → Bf n L src b k s T →
    snowlineref04_Lengths.l2 (f + 2 * q) s.lo s.ha x8 (decide (0 ≤ c)) k n L = snowlineref04_Lengths.l2 f (pass (L.drop k.toNat) k c s).2.lo (pass (L.drop k.toNat) k c s).2.ha x8 (decide (0 ≤ (pass (L.drop k.toNat) k c s).1)) L.length n L
  | 0, k, c, s, T, f, hq, h0, h => by
    have hk : k = L.length := by omega
    rw [List.drop_eq_nil_of_le (by omega), hk]
    rfl
  | q + 1, k, c, s, T, f, hq, h0, h => by
    have hk : k < (L.length : Int) := by omega
    have hd := hE k h0 hk
    have l1 := h.l1
    have l2 := h.l2
    rw [rd_T39_drop L k h0 hk, show f + 2 * (q + 1) = (f + 2 * q) + 1 + 1 from by omega]
    have hw := h.w _ hd.a hd.b
    have he := hd.e
    have hf := hd.f
    have hwr : wrap64 (rd s.lo (rd_T39 L k).f0 + (rd_T39 L k).f2) = rd s.lo (rd_T39 L k).f0 + (rd_T39 L k).f2 := wrap_id (by omega) (by omega)
    have hk1 : wrap64 (k + 1) = k + 1 := wrap_id (by omega) (by omega)
    unfold pass
    rw [snowlineref04_Lengths.l2]
    rw [if_pos hk, if_pos h0, if_pos hd.a, if_pos (show (rd_T39 L k).f0 < (s.ha.length : Int) from by rw [l2]; exact hd.b)]
    have hc1 : decide (0 ≤ (rd_T39 L k).f1) = true := decide_eq_true hd.c
    have hnext : ∀ y, snowlineref04_Lengths.j3 (f + 2 * q + 1) s.lo s.ha x8 (decide (0 ≤ c)) k y n L (rd_T39 L k).f0 (rd_T39 L k).f1 (rd_T39 L k).f2 = if y = true then snowlineref04_Lengths.l2 (f + 2 * q) (s.put (rd_T39 L k) k).lo (s.put (rd_T39 L k) k).ha x8 (decide (0 ≤ (rd_T39 L k).f1)) (k + 1) n L else snowlineref04_Lengths.l2 (f + 2 * q) s.lo s.ha x8 (decide (0 ≤ c)) (k + 1) n L := by
      intro y
      rw [snowlineref04_Lengths.j3, hc1]
      rw [if_pos hd.a, if_pos (show (rd_T39 L k).f0 < (s.lo.length : Int) from by rw [l1]; exact hd.b), if_pos hd.c, if_pos (show (rd_T39 L k).f1 < (s.lo.length : Int) from by rw [l1]; exact hd.g), if_pos (show (rd_T39 L k).f1 < (s.ha.length : Int) from by rw [l2]; exact hd.g), hk1, hwr]
      rfl
    by_cases hu : rdOf false s.ha (rd_T39 L k).f0 = true
    · rw [if_pos hu, if_pos hd.c, if_pos (show (rd_T39 L k).f1 < (s.ha.length : Int) from by rw [l2]; exact hd.g)]
      by_cases hv : rdOf false s.ha (rd_T39 L k).f1 = true
      · rw [if_pos hv, if_pos (show (rd_T39 L k).f0 < (s.lo.length : Int) from by rw [l1]; exact hd.b), if_pos (show (rd_T39 L k).f1 < (s.lo.length : Int) from by rw [l1]; exact hd.g), hnext, hwr]
        by_cases hy : rd s.lo (rd_T39 L k).f0 + (rd_T39 L k).f2 < rd s.lo (rd_T39 L k).f1
        · have hbt : s.better (rd_T39 L k) = true := by rw [better_iff]; exact ⟨hu, Or.inr hy⟩
          rw [if_pos (decide_eq_true hy), if_pos hbt]
          exact len_l2 hE hb hbm x8 q (k + 1) _ _ _ f (by omega) (by omega) (h.step hE h0 hk hb hbt)
        · have hbt : ¬ s.better (rd_T39 L k) = true := by
            rw [better_iff]; rintro ⟨_, h2 | h2⟩
            · exact h2 hv
            · exact hy h2
          rw [if_neg (by simpa using hy), if_neg hbt]
          exact len_l2 hE hb hbm x8 q (k + 1) c s T f (by omega) (by omega) (h.skip hE h0 hk hb hbt)
      · have hbt : s.better (rd_T39 L k) = true := by rw [better_iff]; exact ⟨hu, Or.inl hv⟩
        rw [if_neg hv, hnext, if_pos rfl, if_pos hbt]
        exact len_l2 hE hb hbm x8 q (k + 1) _ _ _ f (by omega) (by omega) (h.step hE h0 hk hb hbt)
    · have hbt : ¬ s.better (rd_T39 L k) = true := by
        rw [better_iff]; rintro ⟨h2, _⟩
        exact hu h2
      rw [if_neg hu, hnext, if_neg (by simp), if_neg hbt]
      exact len_l2 hE hb hbm x8 q (k + 1) c s T f (by omega) (by omega) (h.skip hE h0 hk hb hbt)
theorem len_l1 (hE : EdgesOk n L) (hn : n ≤ 65536) (hm : (n : Int) * L.length ≤ 1048576) (hl : L.length ≤ 65536) : ∀ (r q : Nat) (s : Sg) (T : Int → Int), q + r = n + 1 → Bf n L src ((q : Int) * L.length) 0 s T →
    Ev (fun k => snowlineref04_Lengths.l1 k s.lo s.ha q n L) ((lenP L r s).1.lo, (lenP L r s).1.ha, (lenP L r s).2)
  | 0, q, s, T, hq, h => by
    refine Ev.step (f := fun _ => some (s.lo, s.ha, false)) (fun k => ?_) (Ev.now _)
    rw [snowlineref04_Lengths.l1, if_neg (by omega)]
  | r + 1, q, s, T, hq, h => by
    have hpos : (0 : Int) ≤ (q : Int) * L.length := Int.mul_nonneg (by omega) (by omega)
    have hb1 : ((q : Int) + 1) * L.length = (q : Int) * L.length + L.length := by rw [Int.add_mul, Int.one_mul]
    have hb2 : (q : Int) * L.length ≤ (n : Int) * L.length := Int.mul_le_mul_of_nonneg_right (by omega) (by omega)
    obtain ⟨T', h', hc⟩ := pass_bf hE hpos L.length 0 (-1) s T (by omega) (by omega) h (Or.inl rfl)
    have e2 := fun f => len_l2 hE hpos (by omega) (q : Int) L.length 0 (-1) s T f (by omega) (by omega) h
    simp only [show (0 : Int).toNat = 0 from rfl, List.drop_zero] at h' hc e2
    refine Ev.shift (2 * L.length + 2) (h := fun f => if (decide (0 ≤ (pass L 0 (-1) s).1)) = true then snowlineref04_Lengths.l1 f (pass L 0 (-1) s).2.lo (pass L 0 (-1) s).2.ha ((q : Int) + 1) n L else some ((pass L 0 (-1) s).2.lo, (pass L 0 (-1) s).2.ha, true)) (fun f => ?_) ?_
    · rw [show f + (2 * L.length + 2) = ((f + 1) + 2 * L.length) + 1 from by omega, snowlineref04_Lengths.l1, if_pos (by omega)]
      have := e2 (f + 1)
      rw [show decide ((0 : Int) ≤ -1) = false from rfl] at this
      rw [this, snowlineref04_Lengths.l2, if_neg (by omega), wrap_id (by omega) (by omega)]
    · unfold lenP
      rcases hc with ⟨c1, c2, c3, c4⟩ | hc
      · rw [if_pos (by omega)]
        refine Ev.neg (by simp; omega) (Ev.now _)
      · rw [if_neg (by have := hc.1; omega)]
        refine Ev.pos (by simp; exact hc.1) ?_
        have h'' := h'.next
        rw [← hb1] at h''
        exact len_l1 hE hn hm hl r (q + 1) _ T' (by omega) (by push_cast; exact h'')
theorem len_l0 (n : Nat) (hn : n ≤ 65536) (L : List S39) (ha : List Bool) (hh : ha.length = n) : ∀ (q i f : Nat), q + i = n →
    snowlineref04_Lengths.l0 (f + q + 1) ha (List.replicate i 0) (ha.take i) i n L = snowlineref04_Lengths.l1 f (List.replicate n 0) ha 0 n L
  | 0, i, f, hq => by
    have e : i = n := by omega
    rw [snowlineref04_Lengths.l0, if_neg (by omega), e, List.take_of_length_le (by omega)]
  | q + 1, i, f, hq => by
    rw [show f + (q + 1) + 1 = (f + q + 1) + 1 from by omega, snowlineref04_Lengths.l0, if_pos (by omega), if_pos (by simp; omega), if_pos (by omega), if_pos (by omega), if_pos (by simp; omega), wrap_id (by omega) (by omega)]
    have := len_l0 n hn L ha hh q (i + 1) f (by omega)
    rw [List.replicate_succ', List.take_succ_eq_append_getElem (by omega)] at this
    rw [show rdOf false ha (i : Int) = ha[i] from by unfold rdOf; rw [List.getD_eq_getElem?_getD, Int.toNat_natCast, List.getElem?_eq_getElem (by omega)]; rfl]
    exact this
/-- The reference's Lengths. -/
theorem len_ev (hE : EdgesOk n L) (hn : n ≤ 65536) (hm : (n : Int) * L.length ≤ 1048576) (hl : L.length ≤ 65536) {from_ : List Int} (hf : ∀ i ∈ from_, 0 ≤ i ∧ i < (n : Int)) :
    Ev (fun k => snowlineref04_Lengths.f k n L (sg0 n from_).ha) ((lenP L (n + 1) (sg0 n from_)).1.lo, (lenP L (n + 1) (sg0 n from_)).1.ha, (lenP L (n + 1) (sg0 n from_)).2) := by
  have hh : (sg0 n from_).ha.length = n := (foldl_has n from_ (List.replicate n false) (by simp) hf).1
  refine Ev.shift (n + 1) (h := fun f => snowlineref04_Lengths.l1 f (sg0 n from_).lo (sg0 n from_).ha 0 n L) (fun f => ?_) ?_
  · unfold snowlineref04_Lengths.f
    have := len_l0 n hn L (sg0 n from_).ha hh n 0 f (by omega)
    rw [List.take_zero, List.replicate_zero, show ((0 : Nat) : Int) = 0 from rfl] at this
    exact this
  · have := len_l1 hE hn hm hl (n + 1) 0 (sg0 n from_) (fun _ => 0) (by omega) (by simpa using sg0_bf hf)
    rw [show ((0 : Nat) : Int) = 0 from rfl] at this
    exact this
end
theorem marks_l0 (n : Nat) (hn : n ≤ 65536) (L : List S39) (b : Bool) (o : Int) : ∀ (q i f : Nat), q + i = n →
    snowlineref04_marks.l0 (f + q + 1) b o ((List.range i).map fun (j : Nat) => b || ((j : Int) == o)) i n L = some ((List.range n).map fun (j : Nat) => b || ((j : Int) == o))
  | 0, i, f, hq => by
    rw [snowlineref04_marks.l0, if_neg (by omega), show i = n from by omega]
  | q + 1, i, f, hq => by
    rw [show f + (q + 1) + 1 = (f + q + 1) + 1 from by omega, snowlineref04_marks.l0, if_pos (by omega)]
    have := marks_l0 n hn L b o q (i + 1) f (by omega)
    rw [List.range_succ, List.map_append] at this
    cases b with
    | true => rw [if_pos rfl, if_pos (by simp; omega), wrap_id (by omega) (by omega)]; exact this
    | false => rw [if_neg (by simp), if_pos (by simp; omega), wrap_id (by omega) (by omega)]; exact this
theorem marks_ev (n : Nat) (hn : n ≤ 65536) (L : List S39) (b : Bool) (o : Int) : Ev (fun k => snowlineref04_marks.f k n L b o) ((List.range n).map fun (j : Nat) => b || ((j : Int) == o)) :=
  Ev.shift (n + 1) (h := fun _ => some _) (fun f => by
    unfold snowlineref04_marks.f
    have := marks_l0 n hn L b o n 0 f (by omega)
    rw [show ((0 : Nat) : Int) = 0 from rfl] at this
    exact this) (Ev.now _)
theorem rdOf_range (n : Nat) (g : Nat → Bool) (v : Int) (h0 : 0 ≤ v) (h1 : v < n) : rdOf false ((List.range n).map g) v = g v.toNat := by
  unfold rdOf
  rw [List.getD_eq_getElem?_getD, List.getElem?_map, List.getElem?_range (by omega)]; rfl
theorem sg0_ha (n : Nat) {from_ : List Int} (hf : ∀ i ∈ from_, 0 ≤ i ∧ i < (n : Int)) (g : Nat → Bool) (hg : ∀ v : Int, 0 ≤ v → v < (n : Int) → (g v.toNat = true ↔ v ∈ from_)) : (List.range n).map g = (sg0 n from_).ha := by
  obtain ⟨a, b⟩ := foldl_has n from_ (List.replicate n false) (by simp) hf
  refine ext_rdOf false (by rw [List.length_map, List.length_range]; exact a.symm) (fun v h0 h1 => ?_)
  have hv : v < (n : Int) := by simpa using h1
  rw [rdOf_range n g v h0 hv, Bool.eq_iff_iff, hg v h0 hv]
  show _ ↔ rdOf false (List.foldl _ _ _) v = true
  rw [b v h0 hv, rdOf_replicate n _ _ v h0 hv]
  simp
theorem marks_all (n : Nat) (hn : n ≤ 65536) (L : List S39) : Ev (fun k => snowlineref04_marks.f k n L true 0) (sg0 n (allL n)).ha := by
  have := marks_ev n hn L true 0
  rw [sg0_ha n (from_ := allL n) (fun i hi => mem_allL.1 hi) _ (fun v h0 h1 => by simp [mem_allL]; exact ⟨h0, h1⟩)] at this
  exact this
theorem marks_one (n : Nat) (hn : n ≤ 65536) (L : List S39) {i : Int} (h0 : 0 ≤ i) (h1 : i < n) : Ev (fun k => snowlineref04_marks.f k n L false i) (sg0 n [i]).ha := by
  have := marks_ev n hn L false i
  rw [sg0_ha n (from_ := [i]) (fun v hv => by simp at hv; subst hv; exact ⟨h0, h1⟩) _ (fun v a b => by simp; omega)] at this
  exact this
section
variable {n : Nat} {L : List S39}
theorem solvable_ev (hn0 : 0 < n) (hn : n ≤ 65536) (hE : EdgesOk n L) (hm : (n : Int) * L.length ≤ 1048576) (hl : L.length ≤ 65536) : ∃ b : Bool, (b = true ↔ Solv L) ∧ Ev (fun k => snowlineref04_Solvable.f k n L) b := by
  refine ⟨(lenP L (n + 1) (sg0 n (allL n))).2, ⟨fun h => ?_, fun hs => ?_⟩, ?_⟩
  · obtain ⟨b, T, hb, hB, hf⟩ := lenP_fix hE (n + 1) 0 (sg0 n (allL n)) (lenP L (n + 1) (sg0 n (allL n))).1 (fun _ => 0) (by omega) (sg0_bf (fun i hi => mem_allL.1 hi)) (by rw [← h])
    refine ⟨rd (lenP L (n + 1) (sg0 n (allL n))).1.lo, fun i h0 h1 => ?_⟩
    have hd := hE i h0 h1
    have hha : hasN (lenP L (n + 1) (sg0 n (allL n))).1 (rd_T39 L i).f0 := by
      have := (hB.t0 _ hd.a hd.b).1
      by_cases e : T (rd_T39 L i).f0 = 0
      · exact (hB.z _ hd.a hd.b e).2.2.2 (mem_allL.2 ⟨hd.a, hd.b⟩)
      · exact (hB.p _ hd.a hd.b (by omega)).2.2.1
    have := (hf.edge h0 h1 hha).2
    omega
  · obtain ⟨s, bad, h1, h2⟩ := grow_all hn0 hE (from_ := allL n) (fun i hi => mem_allL.1 hi)
    obtain ⟨x, hx⟩ := hs
    obtain ⟨e, _⟩ := h2.good hE hx
    subst e
    rw [lenP_growP n (n + 1) _ _ (by omega) h1]
  · unfold snowlineref04_Solvable.f
    refine (marks_all n hn L).bind ?_
    exact (len_ev hE hn hm hl (fun i hi => mem_allL.1 hi)).bind (Ev.now _)
/-- The reference's lengths from a node are what grow finds. -/
theorem len_one (hn0 : 0 < n) (hn : n ≤ 65536) (hE : EdgesOk n L) (hm : (n : Int) * L.length ≤ 1048576) (hl : L.length ≤ 65536) {i : Int} (h0 : 0 ≤ i) (h1 : i < n) {s : Sg} (hg : growP L n n (sg0 n [i]) = some (s, -1)) :
    Ev (fun k => snowlineref04_Lengths.f k n L (sg0 n [i]).ha) (s.lo, s.ha, true) := by
  have := len_ev hE hn hm hl (from_ := [i]) (fun v hv => by simp at hv; subst hv; exact ⟨h0, h1⟩)
  rw [lenP_growP n (n + 1) _ _ (by omega) hg] at this
  exact this
end
theorem rvalid_some (d : S39) (n : Int) : snowlineref04_Valid.f d.f0 d.f1 d.f2 n = some (edgeB n d) := by
  unfold snowlineref04_Valid.f snowlineref04_node.f edgeB
  by_cases h0 : d.f0 ≥ 0
  · rw [if_pos h0, Option.bind_some]
    by_cases h1 : d.f0 < n
    · rw [if_pos (decide_eq_true h1)]
      by_cases h2 : d.f1 ≥ 0
      · rw [if_pos h2, Option.bind_some]
        by_cases h3 : d.f1 < n
        · rw [if_pos (decide_eq_true h3)]
          by_cases h4 : d.f2 ≥ -1073741824
          · rw [if_pos h4]; simp [show 0 ≤ d.f0 from h0, h1, show 0 ≤ d.f1 from h2, h3, show -1073741824 ≤ d.f2 from h4]
          · rw [if_neg h4]; simp [show ¬ -1073741824 ≤ d.f2 from h4]
        · rw [if_neg (by simpa using h3)]; simp [h3]
      · rw [if_neg h2, Option.bind_some, if_neg (by simp)]; simp [show ¬ 0 ≤ d.f1 from h2]
    · rw [if_neg (by simpa using h1)]; simp [h1]
  · rw [if_neg h0, Option.bind_some, if_neg (by simp)]; simp [show ¬ 0 ≤ d.f0 from h0]
theorem rcheck_l0 (n : Int) (L : List S39) (hl : L.length ≤ 4096) : ∀ (q : Nat) (i : Int) (f : Nat), (q : Int) + i = L.length → 0 ≤ i →
    snowlineref04_Check.l0 (f + q + 1) i n L = some (if (L.drop i.toNat).all (edgeB n) = true then 0 else 40)
  | 0, i, f, hq, hi => by
    rw [snowlineref04_Check.l0, if_neg (by omega), List.drop_eq_nil_of_le (by omega)]
    rfl
  | q + 1, i, f, hq, hi => by
    have hlt : i < (L.length : Int) := by omega
    rw [show f + (q + 1) + 1 = (f + q + 1) + 1 from by omega, snowlineref04_Check.l0, if_pos hlt, if_pos hi, rvalid_some, rd_T39_drop L i hi hlt]
    simp only [Option.bind_some]
    by_cases c : edgeB n (rd_T39 L i) = true
    · have e : (rd_T39 L i :: L.drop (i + 1).toNat).all (edgeB n) = (L.drop (i + 1).toNat).all (edgeB n) := by rw [List.all_cons, c, Bool.true_and]
      rw [if_pos c, e, wrap_id (by omega) (by omega)]
      exact rcheck_l0 n L hl q (i + 1) f (by omega) (by omega)
    · have e : (rd_T39 L i :: L.drop (i + 1).toNat).all (edgeB n) = false := by
        rw [Bool.not_eq_true] at c
        rw [List.all_cons, c, Bool.false_and]
      rw [if_neg c, e]
      rfl
theorem rcheck_ev (n : Int) (L : List S39) : Ev (fun k => snowlineref04_Check.f k n L) (if validB n L = true then 0 else 40) := by
  unfold snowlineref04_Check.f
  have hbad : validB n L = false → Ev (fun k => snowlineref04_Check.j0 k true n L) (if validB n L = true then 0 else 40) := fun e => by
    rw [e]
    exact Ev.step (f := fun k => some 40) (fun k => by rw [snowlineref04_Check.j0]; rfl) (Ev.now _)
  by_cases h1 : n < 1
  · refine Ev.pos h1 (hbad ?_)
    unfold validB; simp [show ¬ 1 ≤ n by omega]
  refine Ev.neg h1 ?_
  by_cases h2 : n > 256
  · refine Ev.pos h2 (hbad ?_)
    unfold validB; simp [show ¬ n ≤ 256 by omega]
  refine Ev.neg h2 ?_
  by_cases hl : L.length ≤ 4096
  · have e : validB n L = L.all (edgeB n) := by
      unfold validB; simp [show 1 ≤ n by omega, show n ≤ 256 by omega, hl]
    rw [decide_eq_false (by omega), e]
    refine Ev.step (f := fun k => snowlineref04_Check.l0 k 0 n L) (fun k => by rw [snowlineref04_Check.j0]; rfl) ?_
    refine Ev.shift (L.length + 1) (h := fun _ => some _) (fun f => ?_) (Ev.now _)
    have := rcheck_l0 n L hl L.length 0 f (by omega) (by omega)
    rw [show (0 : Int).toNat = 0 from rfl, List.drop_zero] at this
    exact this
  · rw [decide_eq_true (by omega)]
    refine hbad ?_
    unfold validB; simp [hl]
theorem equal_l0 (a b : List Int) (hl : a.length = b.length) (hs : a.length ≤ 4611686018427387904) : ∀ (q : Nat) (i : Int) (f : Nat), (q : Int) + i = a.length → 0 ≤ i → (∀ v : Int, 0 ≤ v → v < i → rd a v = rd b v) →
    ∃ r, slices_Equal_int_int.l0 (f + q + 1) a b a.length i = some r ∧ (r = true ↔ a = b)
  | 0, i, f, hq, hi, h => by
    refine ⟨true, ?_, fun _ => ext_rd hl (fun v h0 h1 => h v h0 (by omega)), fun _ => rfl⟩
    rw [slices_Equal_int_int.l0, if_neg (by omega)]
  | q + 1, i, f, hq, hi, h => by
    rw [show f + (q + 1) + 1 = (f + q + 1) + 1 from by omega, slices_Equal_int_int.l0, if_pos (by omega), if_pos hi, if_pos (by omega), if_pos (by omega)]
    by_cases e : rd a i = rd b i
    · rw [if_pos e, wrap_id (by omega) (by omega)]
      exact equal_l0 a b hl hs q (i + 1) f (by omega) (by omega) (fun v h0 h1 => by
        by_cases hv : v = i
        · rw [hv]; exact e
        · exact h v h0 (by omega))
    · rw [if_neg e]
      exact ⟨false, rfl, fun h => absurd h (by simp), fun h => absurd (by rw [h]) e⟩
theorem equal_ev (a b : List Int) (hs : a.length ≤ 4611686018427387904) : ∃ r : Bool, Ev (fun k => slices_Equal_int_int.f k a b) r ∧ (r = true ↔ a = b) := by
  unfold slices_Equal_int_int.f
  by_cases hl : a.length = b.length
  · obtain ⟨r, h1, h2⟩ := equal_l0 a b hl hs a.length 0 0 (by omega) (by omega) (fun v h0 h1 => by omega)
    refine ⟨r, Ev.pos (by omega) (Ev.shift (a.length + 1) (h := fun _ => some r) (fun f => ?_) (Ev.now _)), h2⟩
    obtain ⟨r', g1, g2⟩ := equal_l0 a b hl hs a.length 0 f (by omega) (by omega) (fun v h0 h1 => by omega)
    rw [show f + (a.length + 1) = f + a.length + 1 from rfl, g1]
    congr 1
    rw [Bool.eq_iff_iff, g2, h2]
  · exact ⟨false, Ev.neg (by omega) (Ev.now _), fun h => absurd h (by simp), fun h => absurd (by rw [h]) hl⟩
end Go.Proofs.Ytpolojoeabmhdaa.A
namespace Go.Proofs.Ytpolojoeabmhdaa.A
open Go.RowKit Go.Proofs.YtpolojoeabmhdaaW.PrintWords Go.Proofs.YtpolojoeabmhdaaW.PrintLast Go.Proofs.YtpolojoeabmhdaaW.PrintMore
attribute [local go_sem] max2_int min2_int max_two min_two max_three min_three max_four min_four
def snowlinelaw04_small.f (a0_0 : Int) (l0_1 : List (S39)) : Option (Bool) := if a0_0 ≤ 16 then (some (decide ((l0_1.length : Int) ≤ 60))) else (some false)
set_option maxHeartbeats 8000000 in
set_option maxRecDepth 100000 in
theorem snowlinelaw04_small.calls (a0_0 : Int) (A0_1 : Option Addr) (c0_1 : Nat) (l0_1 : List (S39)) (r : Bool) (w : World) (hr0_1 : Kd.C k39 w A0_1 l0_1.length l0_1) (hc0_1 : l0_1.length ≤ c0_1) (h : snowlinelaw04_small.f a0_0 l0_1 = some r) :
    Calls Try.prog 23 #[.agg #[.int .i64 a0_0, .slice A0_1 l0_1.length c0_1]] w fun e w' => e = .returned (.bool r) ∧ Below w.heap.size w w' := by
  have hu24 := Try.underlying24; have HR0_1 := Z_ hr0_1; have HC0_1 := Z_ hc0_1; clear hr0_1 hc0_1; have HB := Z_ (Below.refl w.heap.size w); have H : (if a0_0 ≤ 16 then (some (decide ((l0_1.length : Int) ≤ 60))) else (some false)) = some r := h; clear h; by_cases c2 : a0_0 ≤ 16
  · rw [if_pos c2] at H
    have c2b0 : decide (a0_0 ≤ 16) = true := eT_ c2; clear c2; obtain rfl := oI_ H; go_enter Try.func23, Try.ntmps23; go_wp2_with (first | ((with_reducible refine gate_dst (N := 1) rfl ?_); (try (refine gate_guard (by rfl) ?_; dsimp only)); refine box_event ?hg (N := 1) ?hd (cs := #[.int .i64 a0_0, .slice A0_1 l0_1.length c0_1]) (t := 24) ?hr ?_; (case hd => rfl); (case hg => rfl); (case hr => first | (go_simp; done) | (go_simp; rfl)); intro gb338 hg w3 hbox hb; have n0_ := Z_ (fS_ (by repeat (first | (with_reducible first | exact HB.out | apply fA_ | apply pB_ | apply fD_) | exact HB.out)) hb); have n1_ := Z_ (hbox); have n2_ := Z_ ((by rw [hg]; exact (fZ_ (by repeat (first | (with_reducible first | exact HB.out | apply fA_ | apply pB_ | apply fD_) | exact HB.out))) : w.heap.size ≤ gb338)); have n3_ := Z_ ((by rw [hg]; exact (fZ_ (by repeat (first | (with_reducible first | exact HB.out | apply fA_ | apply pB_ | apply fD_) | exact HB.out))) : w.heap.size ≤ gb338)); clear HB; have HB := n0_; have BK338 := n1_; have GW338 := n2_; have GE338 := n3_; clear n0_ n1_ n2_ n3_; clear hb hbox hg; have hcz4_0 : w3.cell? ⟨gb338, 0, none⟩ = some (.int .i64 a0_0) := (bC_ BK338.out 0).trans rfl; have hcz4_1 : w3.cell? ⟨gb338, 1, none⟩ = some (.slice A0_1 l0_1.length c0_1) := (bC_ BK338.out 1).trans rfl; have hfz4_0 := bF_ BK338.out 0; have hfz4_1 := bF_ BK338.out 1)); go_ret; exact ⟨by first | rfl | (simp [errW_none, errW_some] <;> rfl) | (simp [*, errW_none, errW_some] <;> rfl), by repeat (first | (with_reducible first | exact HB.out | apply fA_ | apply pB_ | apply fD_ | refine fE_ ?_ GE338.out) | exact HB.out)⟩
  rw [if_neg c2] at H; have c2b0 : decide (a0_0 ≤ 16) = false := eF_ c2; clear c2; obtain rfl := oI_ H; go_enter Try.func23, Try.ntmps23; go_wp2_with (first | ((with_reducible refine gate_dst (N := 1) rfl ?_); (try (refine gate_guard (by rfl) ?_; dsimp only)); refine box_event ?hg (N := 1) ?hd (cs := #[.int .i64 a0_0, .slice A0_1 l0_1.length c0_1]) (t := 24) ?hr ?_; (case hd => rfl); (case hg => rfl); (case hr => first | (go_simp; done) | (go_simp; rfl)); intro gb338 hg w5 hbox hb; have n0_ := Z_ (fS_ (by repeat (first | (with_reducible first | exact HB.out | apply fA_ | apply pB_ | apply fD_) | exact HB.out)) hb); have n1_ := Z_ (hbox); have n2_ := Z_ ((by rw [hg]; exact (fZ_ (by repeat (first | (with_reducible first | exact HB.out | apply fA_ | apply pB_ | apply fD_) | exact HB.out))) : w.heap.size ≤ gb338)); have n3_ := Z_ ((by rw [hg]; exact (fZ_ (by repeat (first | (with_reducible first | exact HB.out | apply fA_ | apply pB_ | apply fD_) | exact HB.out))) : w.heap.size ≤ gb338)); clear HB; have HB := n0_; have BK338 := n1_; have GW338 := n2_; have GE338 := n3_; clear n0_ n1_ n2_ n3_; clear hb hbox hg; have hcz6_0 : w5.cell? ⟨gb338, 0, none⟩ = some (.int .i64 a0_0) := (bC_ BK338.out 0).trans rfl; have hcz6_1 : w5.cell? ⟨gb338, 1, none⟩ = some (.slice A0_1 l0_1.length c0_1) := (bC_ BK338.out 1).trans rfl; have hfz6_0 := bF_ BK338.out 0; have hfz6_1 := bF_ BK338.out 1)); go_ret; exact ⟨by first | rfl | (simp [errW_none, errW_some] <;> rfl) | (simp [*, errW_none, errW_some] <;> rfl), by repeat (first | (with_reducible first | exact HB.out | apply fA_ | apply pB_ | apply fD_ | refine fE_ ?_ GE338.out) | exact HB.out)⟩
end Go.Proofs.Ytpolojoeabmhdaa.A
