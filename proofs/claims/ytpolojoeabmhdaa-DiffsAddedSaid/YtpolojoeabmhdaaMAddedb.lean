import Derived.Test.YtpolojoeabmhdaaMAddeda
import Derived.Test.YtpolojoeabmhdaaMZcoreb
import Derived.Test.YtpolojoeabmhdaaMZcoree
import Derived.Test.YtpolojoeabmhdaaMZcoreh
set_option linter.unusedVariables false
set_option linter.unusedSimpArgs false
namespace Go.Proofs.Ytpolojoeabmhdaa.A
open Go.RowKit Go.Proofs.YtpolojoeabmhdaaW.PrintWords Go.Proofs.YtpolojoeabmhdaaW.PrintLast Go.Proofs.YtpolojoeabmhdaaW.PrintMore
attribute [local go_sem] max2_int min2_int max_two min_two max_three min_three max_four min_four
mutual
def snowlinelaw04_DiffsAdded.j0 : Nat → List Int → List Int → Bool → Int → List (S39) → Option (Bool)
  | 0, _, _, _, _, _ => none
  | k + 1, x1, x2, x41, x721000, x721001 => if x41 = true then (some true) else (if 0 ≤ x721000 then (if (x721000 : Int).toNat ≤ 35184372088832 then ((some (List.replicate (x721000 : Int).toNat 0 : List Int)).bind fun y724 => (snowlinelaw04_DiffsAdded.l0 k x1 x2 y724 (y724.length : Int) 0 x721000 x721001)) else (none)) else (none))
def snowlinelaw04_DiffsAdded.l0 : Nat → List Int → List Int → List Int → Int → Int → Int → List (S39) → Option (Bool)
  | 0, _, _, _, _, _, _, _ => none
  | k + 1, x1, x2, x7, x46, x47, x721000, x721001 => if x47 < x46 then (if 0 ≤ x47 then (if x47 < (x1.length : Int) then (if x47 < (x2.length : Int) then (if (mn (rd x1 x47) (rd x2 x47)) < (-4096) then (snowlinelaw04_DiffsAdded.j2 k x1 x2 x7 x47 x46 x47 true x721000 x721001) else (if (mx (rd x1 x47) (rd x2 x47)) > 4096 then (snowlinelaw04_DiffsAdded.j2 k x1 x2 x7 x47 x46 x47 true x721000 x721001) else (if (wrap64 ((rd x1 x47) + (rd x2 x47))) < (-4096) then (snowlinelaw04_DiffsAdded.j2 k x1 x2 x7 x47 x46 x47 true x721000 x721001) else (snowlinelaw04_DiffsAdded.j2 k x1 x2 x7 x47 x46 x47 (decide ((wrap64 ((rd x1 x47) + (rd x2 x47))) > 4096)) x721000 x721001)))) else (none)) else (none)) else (none)) else ((diffs_Most.f k x721000 x721001 x1).bind fun bt738 => ((diffs_Most.f k x721000 x721001 x2).bind fun bt741 => ((diffs_Most.f k x721000 x721001 x7).bind fun bt744 => (if bt738.2.2 = bt741.2.2 then (snowlinelaw04_DiffsAdded.j3 k bt738.1 bt738.2.1 bt741.1 bt741.2.1 bt744.1 bt744.2.1 (bt741.2.2 != bt744.2.2)) else (snowlinelaw04_DiffsAdded.j3 k bt738.1 bt738.2.1 bt741.1 bt741.2.1 bt744.1 bt744.2.1 true)))))
def snowlinelaw04_DiffsAdded.j2 : Nat → List Int → List Int → List Int → Int → Int → Int → Bool → Int → List (S39) → Option (Bool)
  | 0, _, _, _, _, _, _, _, _, _ => none
  | k + 1, x1, x2, x7, x8, x46, x47, x95, x721000, x721001 => if x95 = true then (some true) else (if 0 ≤ x8 then (if x8 < (x1.length : Int) then (if x8 < (x2.length : Int) then (if x8 < (x7.length : Int) then (snowlinelaw04_DiffsAdded.l0 k x1 x2 (x7.set (x8 : Int).toNat (wrap64 ((rd x1 x8) + (rd x2 x8)))) x46 (wrap64 (x47 + 1)) x721000 x721001) else (none)) else (none)) else (none)) else (none))
def snowlinelaw04_DiffsAdded.j3 : Nat → Int → Bool → Int → Bool → Int → Bool → Bool → Option (Bool)
  | 0, _, _, _, _, _, _, _ => none
  | k + 1, x9, x10, x12, x13, x15, x16, x137 => if x137 = true then (some false) else (if x10 = true then (if x13 = true then (if x16 = true then (some (decide (x15 ≤ (wrap64 (x9 + x12))))) else (some false)) else (some true)) else (some true))
end
def snowlinelaw04_DiffsAdded.f (k : Nat) (a0_0 : Int) (l0_1 : List (S39)) (l1 : List Int) (l2 : List Int) : Option (Bool) := (snowlinelaw04_sane.f).bind fun t721 => (if t721 = true then ((diffs_Check.f k a0_0 l0_1).bind fun t722 => (if t722 = 0 then ((snowlinelaw04_small.f a0_0 l0_1).bind fun t723 => (if t723 = true then (if (l1.length : Int) = a0_0 then (snowlinelaw04_DiffsAdded.j0 k l1 l2 ((l2.length : Int) != a0_0) a0_0 l0_1) else (snowlinelaw04_DiffsAdded.j0 k l1 l2 true a0_0 l0_1)) else (snowlinelaw04_DiffsAdded.j0 k l1 l2 true a0_0 l0_1))) else (snowlinelaw04_DiffsAdded.j0 k l1 l2 true a0_0 l0_1))) else (some false))
theorem snowlinelaw04_DiffsAdded.mono_l : ∀ k, (∀ y0 y1 y2 y3 y4, LeO (snowlinelaw04_DiffsAdded.j0 k y0 y1 y2 y3 y4) (snowlinelaw04_DiffsAdded.j0 (k + 1) y0 y1 y2 y3 y4)) ∧ (∀ y0 y1 y2 y3 y4 y5 y6, LeO (snowlinelaw04_DiffsAdded.l0 k y0 y1 y2 y3 y4 y5 y6) (snowlinelaw04_DiffsAdded.l0 (k + 1) y0 y1 y2 y3 y4 y5 y6)) ∧ (∀ y0 y1 y2 y3 y4 y5 y6 y7 y8, LeO (snowlinelaw04_DiffsAdded.j2 k y0 y1 y2 y3 y4 y5 y6 y7 y8) (snowlinelaw04_DiffsAdded.j2 (k + 1) y0 y1 y2 y3 y4 y5 y6 y7 y8)) ∧ (∀ y0 y1 y2 y3 y4 y5 y6, LeO (snowlinelaw04_DiffsAdded.j3 k y0 y1 y2 y3 y4 y5 y6) (snowlinelaw04_DiffsAdded.j3 (k + 1) y0 y1 y2 y3 y4 y5 y6))
  | 0 => ⟨fun _ _ _ _ _ r h => by simp [snowlinelaw04_DiffsAdded.j0] at h, fun _ _ _ _ _ _ _ r h => by simp [snowlinelaw04_DiffsAdded.l0] at h, fun _ _ _ _ _ _ _ _ _ r h => by simp [snowlinelaw04_DiffsAdded.j2] at h, fun _ _ _ _ _ _ _ r h => by simp [snowlinelaw04_DiffsAdded.j3] at h⟩
  | k + 1 => by
    obtain ⟨ih0, ih1, ih2, ih3⟩ := snowlinelaw04_DiffsAdded.mono_l k; refine ⟨?_, ?_, ?_, ?_⟩ <;> intros <;> (first | unfold snowlinelaw04_DiffsAdded.j0 | unfold snowlinelaw04_DiffsAdded.l0 | unfold snowlinelaw04_DiffsAdded.j2 | unfold snowlinelaw04_DiffsAdded.j3) <;> repeat' first | (with_reducible first | exact ih0 _ _ _ _ _ | exact ih1 _ _ _ _ _ _ _ | exact ih2 _ _ _ _ _ _ _ _ _ | exact ih3 _ _ _ _ _ _ _ | exact diffs_Check.mono _ _ _ | exact diffs_Most.mono _ _ _ _ | exact LeO.refl _ | exact LeO.none _ | refine LeO.ite ?_ ?_ | refine LeO.bind ?_ (fun _ => ?_)) | exact ih0 _ _ _ _ _ | exact ih1 _ _ _ _ _ _ _ | exact ih2 _ _ _ _ _ _ _ _ _ | exact ih3 _ _ _ _ _ _ _ | exact diffs_Check.mono _ _ _ | exact diffs_Most.mono _ _ _ _ | exact LeO.none _ | refine LeO.ite ?_ ?_ | refine LeO.bind ?_ (fun _ => ?_)
theorem snowlinelaw04_DiffsAdded.mono : ∀ a0 a1 a2 a3 k, LeO (snowlinelaw04_DiffsAdded.f k a0 a1 a2 a3) (snowlinelaw04_DiffsAdded.f (k + 1) a0 a1 a2 a3) := by
  intro a0 a1 a2 a3 k; obtain ⟨ih0, ih1, ih2, ih3⟩ := snowlinelaw04_DiffsAdded.mono_l k; unfold snowlinelaw04_DiffsAdded.f; repeat' first | (with_reducible first | exact ih0 _ _ _ _ _ | exact ih1 _ _ _ _ _ _ _ | exact ih2 _ _ _ _ _ _ _ _ _ | exact ih3 _ _ _ _ _ _ _ | exact diffs_Check.mono _ _ _ | exact diffs_Most.mono _ _ _ _ | exact LeO.refl _ | exact LeO.none _ | refine LeO.ite ?_ ?_ | refine LeO.bind ?_ (fun _ => ?_)) | exact ih0 _ _ _ _ _ | exact ih1 _ _ _ _ _ _ _ | exact ih2 _ _ _ _ _ _ _ _ _ | exact ih3 _ _ _ _ _ _ _ | exact diffs_Check.mono _ _ _ | exact diffs_Most.mono _ _ _ _ | exact LeO.none _ | refine LeO.ite ?_ ?_ | refine LeO.bind ?_ (fun _ => ?_)
def snowlinelaw04_DiffsAdded.T9 : Bool × List (List Nat × List Nat) := (true, [([], []), ([], []), ([0, 1], [0, 1]), ([2], [2]), ([], []), ([], []), ([4, 5], [4, 5]), ([6], [6]), ([3, 7], [3, 7]), ([8], [8]), ([9], [9]), ([10], [10]), ([10], [10]), ([11, 12, 10], [10, 11, 12]), ([13, 10], [10, 13]), ([10], [10]), ([10], [10]), ([15, 16, 10], [10, 15, 16]), ([17, 10], [10, 17]), ([14, 18, 10], [10, 14, 18]), ([19, 10], [10, 19]), ([10, 20], [10, 20]), ([21, 10], [21]), ([22], [22]), ([22], [22]), ([23, 24, 22], [22, 23, 24]), ([25, 22], [22, 25]), ([22], [22]), ([22], [22]), ([27, 28, 22], [22, 27, 28]), ([29, 22], [22, 29]), ([26, 30, 22], [22, 26, 30]), ([31, 22], [22, 31]), ([22, 32], [22, 32]), ([33, 22], [33]), ([34], [34]), ([34], [34]), ([35, 36, 34], [34, 35, 36]), ([37, 34], [34, 37]), ([34], [34]), ([34], [34]), ([39, 40, 34], [34, 39, 40]), ([41, 34], [34, 41]), ([38, 42, 34], [34, 38, 42]), ([43, 34], [34, 43]), ([34, 44], [34, 44])])
def snowlinelaw04_DiffsAdded.B9 : List Nat := [0, 0, 3, 7, 0, 0, 48, 112, 255, 511, 1023, 2047, 2047, 8191, 16383, 2047, 2047, 100351, 231423, 524287, 1048575, 2097151, 4194303, 8388607, 8388607, 33554431, 67108863, 8388607, 8388607, 411041791, 947912703, 2147483647, 4294967295, 8589934591, 17179869183, 34359738367, 34359738367, 137438953471, 274877906943, 34359738367, 34359738367, 1683627180031, 3882650435583, 8796093022207, 17592186044415, 35184372088831]
theorem snowlinelaw04_DiffsAdded.tab9 : rtab .any (opsOf Try.f8 9) = snowlinelaw04_DiffsAdded.T9 := by kernel_rfl
theorem snowlinelaw04_DiffsAdded.bits9 : waitsOk snowlinelaw04_DiffsAdded.T9.2 snowlinelaw04_DiffsAdded.B9 = true := by kernel_rfl
def snowlinelaw04_DiffsAdded.T11 : Bool × List (List Nat × List Nat) := (true, [([], []), ([], []), ([], []), ([], []), ([2, 3], [2, 3]), ([4], [4]), ([], []), ([], []), ([6, 7], [6, 7]), ([8], [8]), ([5, 9], [5, 9]), ([0, 1, 0, 1, 2, 3, 4, 5, 6, 7, 8, 9, 10], [0, 1]), ([11, 10, 0, 1, 2, 3, 4, 5, 6, 7, 8, 9, 10], [10, 11])])
def snowlinelaw04_DiffsAdded.B11 : List Nat := [0, 0, 0, 0, 12, 28, 0, 0, 192, 448, 1020, 2047, 4095]
theorem snowlinelaw04_DiffsAdded.tab11 : rtab .any (opsOf Try.f8 11) = snowlinelaw04_DiffsAdded.T11 := by kernel_rfl
theorem snowlinelaw04_DiffsAdded.bits11 : waitsOk snowlinelaw04_DiffsAdded.T11.2 snowlinelaw04_DiffsAdded.B11 = true := by kernel_rfl
set_option maxHeartbeats 8000000 in
set_option maxRecDepth 100000 in
theorem snowlinelaw04_DiffsAdded.calls (k : Nat) (a0_0 : Int) (A0_1 : Option Addr) (c0_1 : Nat) (l0_1 : List (S39)) (A1 : Option Addr) (c1 : Nat) (l1 : List Int) (A2 : Option Addr) (c2 : Nat) (l2 : List Int) (r : Bool) (w : World) (hr0_1 : Kd.C k39 w A0_1 l0_1.length l0_1) (hc0_1 : l0_1.length ≤ c0_1) (hr1 : Kd.C (Kd.int .i64) w A1 l1.length l1) (hc1 : l1.length ≤ c1) (hr2 : Kd.C (Kd.int .i64) w A2 l2.length l2) (hc2 : l2.length ≤ c2) (h : snowlinelaw04_DiffsAdded.f k a0_0 l0_1 l1 l2 = some r) :
    Calls Try.prog 8 #[.agg #[.int .i64 a0_0, .slice A0_1 l0_1.length c0_1], .slice A1 l1.length c1, .slice A2 l2.length c2] w fun e w' => e = .returned (.bool r) ∧ Below w.heap.size w w' := by
  have hu24 := Try.underlying24; have HR0_1 := Z_ hr0_1; have HC0_1 := Z_ hc0_1; clear hr0_1 hc0_1; have HR1 := Z_ hr1; have HC1 := Z_ hc1; clear hr1 hc1; have HR2 := Z_ hr2; have HC2 := Z_ hc2; clear hr2 hc2; have HB := Z_ (Below.refl w.heap.size w); have H : ((snowlinelaw04_sane.f).bind fun t721 => (if t721 = true then ((diffs_Check.f k a0_0 l0_1).bind fun t722 => (if t722 = 0 then ((snowlinelaw04_small.f a0_0 l0_1).bind fun t723 => (if t723 = true then (if (l1.length : Int) = a0_0 then (snowlinelaw04_DiffsAdded.j0 k l1 l2 ((l2.length : Int) != a0_0) a0_0 l0_1) else (snowlinelaw04_DiffsAdded.j0 k l1 l2 true a0_0 l0_1)) else (snowlinelaw04_DiffsAdded.j0 k l1 l2 true a0_0 l0_1))) else (snowlinelaw04_DiffsAdded.j0 k l1 l2 true a0_0 l0_1))) else (some false))) = some r := h; clear h; replace H := oS_.mp H; obtain ⟨t721, A40, H⟩ := H; replace H : (if t721 = true then ((diffs_Check.f k a0_0 l0_1).bind fun t722 => (if t722 = 0 then ((snowlinelaw04_small.f a0_0 l0_1).bind fun t723 => (if t723 = true then (if (l1.length : Int) = a0_0 then (snowlinelaw04_DiffsAdded.j0 k l1 l2 ((l2.length : Int) != a0_0) a0_0 l0_1) else (snowlinelaw04_DiffsAdded.j0 k l1 l2 true a0_0 l0_1)) else (snowlinelaw04_DiffsAdded.j0 k l1 l2 true a0_0 l0_1))) else (snowlinelaw04_DiffsAdded.j0 k l1 l2 true a0_0 l0_1))) else (some false)) = some r := H; have A4 := Z_ A40; clear A40; by_cases c5 : t721 = true
  · subst c5
    have H1 : ((diffs_Check.f k a0_0 l0_1).bind fun t722 => (if t722 = 0 then ((snowlinelaw04_small.f a0_0 l0_1).bind fun t723 => (if t723 = true then (if (l1.length : Int) = a0_0 then (snowlinelaw04_DiffsAdded.j0 k l1 l2 ((l2.length : Int) != a0_0) a0_0 l0_1) else (snowlinelaw04_DiffsAdded.j0 k l1 l2 true a0_0 l0_1)) else (snowlinelaw04_DiffsAdded.j0 k l1 l2 true a0_0 l0_1))) else (snowlinelaw04_DiffsAdded.j0 k l1 l2 true a0_0 l0_1))) = some r := by rw [if_pos rfl] at H; exact H
    clear H; have H := H1; clear H1; have HC6 := Z_ H; clear H; go_enter Try.func8, Try.ntmps8; go_upto_region 3 with (first | ((with_reducible refine gate_dst (N := 3) rfl ?_); (try (refine gate_guard (by rfl) ?_; dsimp only)); refine box_event ?hg (N := 3) ?hd (cs := #[.int .i64 a0_0, .slice A0_1 l0_1.length c0_1]) (t := 24) ?hr ?_; (case hd => rfl); (case hg => rfl); (case hr => first | (go_simp; done) | (go_simp; rfl)); intro gb720 hg w7 hbox hb; have n0_ := Z_ (fS_ (by repeat (first | (with_reducible first | exact HB.out | apply fA_ | apply pB_ | apply fD_) | exact HB.out)) hb); have n1_ := Z_ (hbox); have n2_ := Z_ ((by rw [hg]; exact (fZ_ (by repeat (first | (with_reducible first | exact HB.out | apply fA_ | apply pB_ | apply fD_) | exact HB.out))) : w.heap.size ≤ gb720)); have n3_ := Z_ ((by rw [hg]; exact (fZ_ (by repeat (first | (with_reducible first | exact HB.out | apply fA_ | apply pB_ | apply fD_) | exact HB.out))) : w.heap.size ≤ gb720)); clear HB; have HB := n0_; have BK720 := n1_; have GW720 := n2_; have GE720 := n3_; clear n0_ n1_ n2_ n3_; clear hb hbox hg) | ((with_reducible refine gate_callee (f := 21) rfl ?_); refine goesL_ (some 18) rfl rfl Try.func21 (by kernel_rfl) rfl #[] rfl (by (try simp only [mT_, mC_, mN_]); first | done | rfl | (simp only [lD_, lT_]; rfl)) ?_; (with_reducible refine (snowlinelaw04_sane.calls  true _ A4.out).mono ?_); rintro e w8 ⟨rfl, hb⟩; refine ⟨_, rfl, ?_⟩; have n0_ := Z_ (bB_ (g := gb720) (o := .cells #[.int .i64 a0_0, .slice A0_1 l0_1.length c0_1] 24 (0, 0)) (by (with_reducible repeat (first | refine bN_ ?_ _ | refine bD_ ?_ | refine bA_ ?_ _)); exact BK720.out) hb); have n1_ := Z_ (fS_ (by repeat (first | (with_reducible first | exact HB.out | apply fA_ | apply pB_ | apply fD_ | refine fE_ ?_ GE720.out) | exact HB.out)) hb); clear BK720; clear HB; have BK720 := n0_; have HB := n1_; clear n0_ n1_; (try clear hb); (try clear hb2); (try clear hk); (try clear hi))); (try simp only [Act.put, sT_, sZ_, sS_])
    go_cut [41] (fun v41 wc => ∃ (kq : Nat) (x41_5 : Bool), v41 = .bool x41_5 ∧ Aside0 (snowlinelaw04_DiffsAdded.j0 kq l1 l2 x41_5 a0_0 l0_1 = some r) ∧ Aside0 (kq ≤ k) ∧ Aside0 (wc.heap[gb720]? = some (.cells #[.int .i64 a0_0, (.slice A0_1 l0_1.length c0_1)] 24 (0, 0))) ∧ Aside0 (Below w.heap.size w wc))
    case first =>
      have H := HC6.out; clear HC6; replace H := oS_.mp H; obtain ⟨t722, A90, H⟩ := H; replace H : (if t722 = 0 then ((snowlinelaw04_small.f a0_0 l0_1).bind fun t723 => (if t723 = true then (if (l1.length : Int) = a0_0 then (snowlinelaw04_DiffsAdded.j0 k l1 l2 ((l2.length : Int) != a0_0) a0_0 l0_1) else (snowlinelaw04_DiffsAdded.j0 k l1 l2 true a0_0 l0_1)) else (snowlinelaw04_DiffsAdded.j0 k l1 l2 true a0_0 l0_1))) else (snowlinelaw04_DiffsAdded.j0 k l1 l2 true a0_0 l0_1)) = some r := H; have A9 := Z_ A90; clear A90; by_cases c10 : t722 = 0
      · rw [if_pos c10] at H
        have c10b0 : (t722 == 0) = true := beq_iff_eq.mpr c10; have c10b1 : (t722 != 0) = false := bne_eq_false_iff_eq.mpr c10; clear c10; (first | rw [c10b0] | (simp only [i64_w, i32_w]; rw [c10b0]) | skip)
        replace H := oS_.mp H; obtain ⟨t723, A110, H⟩ := H; replace H : (if t723 = true then (if (l1.length : Int) = a0_0 then (snowlinelaw04_DiffsAdded.j0 k l1 l2 ((l2.length : Int) != a0_0) a0_0 l0_1) else (snowlinelaw04_DiffsAdded.j0 k l1 l2 true a0_0 l0_1)) else (snowlinelaw04_DiffsAdded.j0 k l1 l2 true a0_0 l0_1)) = some r := H; have A11 := Z_ A110; clear A110; by_cases c12 : t723 = true
        · subst c12
          have H1 : (if (l1.length : Int) = a0_0 then (snowlinelaw04_DiffsAdded.j0 k l1 l2 ((l2.length : Int) != a0_0) a0_0 l0_1) else (snowlinelaw04_DiffsAdded.j0 k l1 l2 true a0_0 l0_1)) = some r := by rw [if_pos rfl] at H; exact H
          clear H; have H := H1; clear H1; by_cases c13 : (l1.length : Int) = a0_0
          · rw [if_pos c13] at H
            have c13b0 : ((l1.length : Int) == a0_0) = true := beq_iff_eq.mpr c13; have c13b1 : ((l1.length : Int) != a0_0) = false := bne_eq_false_iff_eq.mpr c13; clear c13; have H' := Z_ H; clear H; have hcz14_0 : w8.cell? ⟨gb720, 0, none⟩ = some (.int .i64 a0_0) := (bC_ BK720.out 0).trans rfl; have hcz14_1 : w8.cell? ⟨gb720, 1, none⟩ = some (.slice A0_1 l0_1.length c0_1) := (bC_ BK720.out 1).trans rfl; have hfz14_0 := bF_ BK720.out 0; have hfz14_1 := bF_ BK720.out 1; go_wp2_with (first | ((with_reducible refine gate_callee (f := 29) rfl ?_); refine goesL_ (some 21) rfl rfl Try.func29 (by kernel_rfl) rfl #[.agg #[.int .i64 a0_0, .slice A0_1 l0_1.length c0_1]] rfl (by (try simp only [mT_, mC_, mN_]); first | done | rfl | (simp only [lD_, lT_]; rfl)) ?_; (with_reducible refine (diffs_Check.calls k a0_0 _ _ l0_1 t722 _ ?side1 ?side2 A9.out).mono ?_); (case side1 => repeat (first | exact (cB_ HR0_1.out HB.out) | (with_reducible refine Kd.C_alloc ?_ _) | (with_reducible refine Kd.C_drewN ?_ _) | (with_reducible refine Kd.C_drew ?_))); (case side2 => exact HC0_1.out); rintro e w15 ⟨rfl, hb⟩; refine ⟨_, rfl, ?_⟩; have n0_ := Z_ (bB_ (g := gb720) (o := .cells #[.int .i64 a0_0, .slice A0_1 l0_1.length c0_1] 24 (0, 0)) (by (with_reducible repeat (first | refine bN_ ?_ _ | refine bD_ ?_ | refine bA_ ?_ _)); exact BK720.out) hb); have n1_ := Z_ (fS_ (by repeat (first | (with_reducible first | exact HB.out | apply fA_ | apply pB_ | apply fD_ | refine fE_ ?_ GE720.out) | exact HB.out)) hb); clear BK720; clear HB; have BK720 := n0_; have HB := n1_; clear n0_ n1_; (try clear hb); (try clear hb2); (try clear hk); (try clear hi); have hcz16_0 : w15.cell? ⟨gb720, 0, none⟩ = some (.int .i64 a0_0) := (bC_ BK720.out 0).trans rfl; have hcz16_1 : w15.cell? ⟨gb720, 1, none⟩ = some (.slice A0_1 l0_1.length c0_1) := (bC_ BK720.out 1).trans rfl; have hfz16_0 := bF_ BK720.out 0; have hfz16_1 := bF_ BK720.out 1) | (go_at_call 23; (with_reducible refine (snowlinelaw04_small.calls a0_0 _ _ l0_1 true _ ?side1 ?side2 A11.out).mono ?_); (case side1 => repeat (first | exact (cB_ HR0_1.out HB.out) | (with_reducible refine Kd.C_alloc ?_ _) | (with_reducible refine Kd.C_drewN ?_ _) | (with_reducible refine Kd.C_drew ?_))); (case side2 => exact HC0_1.out); rintro e w17 ⟨rfl, hb⟩; have n0_ := Z_ (bB_ (g := gb720) (o := .cells #[.int .i64 a0_0, .slice A0_1 l0_1.length c0_1] 24 (0, 0)) (by (with_reducible repeat (first | refine bN_ ?_ _ | refine bD_ ?_ | refine bA_ ?_ _)); exact BK720.out) hb); have n1_ := Z_ (fS_ (by repeat (first | (with_reducible first | exact HB.out | apply fA_ | apply pB_ | apply fD_ | refine fE_ ?_ GE720.out) | exact HB.out)) hb); clear BK720; clear HB; have BK720 := n0_; have HB := n1_; clear n0_ n1_; (try clear hb); (try clear hb2); (try clear hk); (try clear hi); have hcz18_0 : w17.cell? ⟨gb720, 0, none⟩ = some (.int .i64 a0_0) := (bC_ BK720.out 0).trans rfl; have hcz18_1 : w17.cell? ⟨gb720, 1, none⟩ = some (.slice A0_1 l0_1.length c0_1) := (bC_ BK720.out 1).trans rfl; have hfz18_0 := bF_ BK720.out 0; have hfz18_1 := bF_ BK720.out 1)); go_meet
            case rel => exact ⟨_, (((l2.length : Int) != a0_0)), (by first | rfl | (simp; done) | (simp [*]; done)), H', ⟨by first | omega | exact nR_ _⟩, ⟨by (with_reducible repeat (first | refine bN_ ?_ _ | refine bD_ ?_ | refine bA_ ?_ _)); exact BK720.out⟩, ⟨by repeat (first | (with_reducible first | exact HB.out | apply fA_ | apply pB_ | apply fD_ | refine fE_ ?_ GE720.out) | exact HB.out)⟩⟩
          rw [if_neg c13] at H; have c13b0 : ((l1.length : Int) == a0_0) = false := beq_eq_false_iff_ne.mpr c13; have c13b1 : ((l1.length : Int) != a0_0) = true := bne_iff_ne.mpr c13; have H' := Z_ H; clear H; have hcz19_0 : w8.cell? ⟨gb720, 0, none⟩ = some (.int .i64 a0_0) := (bC_ BK720.out 0).trans rfl; have hcz19_1 : w8.cell? ⟨gb720, 1, none⟩ = some (.slice A0_1 l0_1.length c0_1) := (bC_ BK720.out 1).trans rfl; have hfz19_0 := bF_ BK720.out 0; have hfz19_1 := bF_ BK720.out 1; go_wp2_with (first | ((with_reducible refine gate_callee (f := 29) rfl ?_); refine goesL_ (some 21) rfl rfl Try.func29 (by kernel_rfl) rfl #[.agg #[.int .i64 a0_0, .slice A0_1 l0_1.length c0_1]] rfl (by (try simp only [mT_, mC_, mN_]); first | done | rfl | (simp only [lD_, lT_]; rfl)) ?_; (with_reducible refine (diffs_Check.calls k a0_0 _ _ l0_1 t722 _ ?side1 ?side2 A9.out).mono ?_); (case side1 => repeat (first | exact (cB_ HR0_1.out HB.out) | (with_reducible refine Kd.C_alloc ?_ _) | (with_reducible refine Kd.C_drewN ?_ _) | (with_reducible refine Kd.C_drew ?_))); (case side2 => exact HC0_1.out); rintro e w20 ⟨rfl, hb⟩; refine ⟨_, rfl, ?_⟩; have n0_ := Z_ (bB_ (g := gb720) (o := .cells #[.int .i64 a0_0, .slice A0_1 l0_1.length c0_1] 24 (0, 0)) (by (with_reducible repeat (first | refine bN_ ?_ _ | refine bD_ ?_ | refine bA_ ?_ _)); exact BK720.out) hb); have n1_ := Z_ (fS_ (by repeat (first | (with_reducible first | exact HB.out | apply fA_ | apply pB_ | apply fD_ | refine fE_ ?_ GE720.out) | exact HB.out)) hb); clear BK720; clear HB; have BK720 := n0_; have HB := n1_; clear n0_ n1_; (try clear hb); (try clear hb2); (try clear hk); (try clear hi); have hcz21_0 : w20.cell? ⟨gb720, 0, none⟩ = some (.int .i64 a0_0) := (bC_ BK720.out 0).trans rfl; have hcz21_1 : w20.cell? ⟨gb720, 1, none⟩ = some (.slice A0_1 l0_1.length c0_1) := (bC_ BK720.out 1).trans rfl; have hfz21_0 := bF_ BK720.out 0; have hfz21_1 := bF_ BK720.out 1) | (go_at_call 23; (with_reducible refine (snowlinelaw04_small.calls a0_0 _ _ l0_1 true _ ?side1 ?side2 A11.out).mono ?_); (case side1 => repeat (first | exact (cB_ HR0_1.out HB.out) | (with_reducible refine Kd.C_alloc ?_ _) | (with_reducible refine Kd.C_drewN ?_ _) | (with_reducible refine Kd.C_drew ?_))); (case side2 => exact HC0_1.out); rintro e w22 ⟨rfl, hb⟩; have n0_ := Z_ (bB_ (g := gb720) (o := .cells #[.int .i64 a0_0, .slice A0_1 l0_1.length c0_1] 24 (0, 0)) (by (with_reducible repeat (first | refine bN_ ?_ _ | refine bD_ ?_ | refine bA_ ?_ _)); exact BK720.out) hb); have n1_ := Z_ (fS_ (by repeat (first | (with_reducible first | exact HB.out | apply fA_ | apply pB_ | apply fD_ | refine fE_ ?_ GE720.out) | exact HB.out)) hb); clear BK720; clear HB; have BK720 := n0_; have HB := n1_; clear n0_ n1_; (try clear hb); (try clear hb2); (try clear hk); (try clear hi); have hcz23_0 : w22.cell? ⟨gb720, 0, none⟩ = some (.int .i64 a0_0) := (bC_ BK720.out 0).trans rfl; have hcz23_1 : w22.cell? ⟨gb720, 1, none⟩ = some (.slice A0_1 l0_1.length c0_1) := (bC_ BK720.out 1).trans rfl; have hfz23_0 := bF_ BK720.out 0; have hfz23_1 := bF_ BK720.out 1)); go_meet
          case rel => exact ⟨_, (true), (by first | rfl | (simp; done) | (simp [*]; done)), H', ⟨by first | omega | exact nR_ _⟩, ⟨by (with_reducible repeat (first | refine bN_ ?_ _ | refine bD_ ?_ | refine bA_ ?_ _)); exact BK720.out⟩, ⟨by repeat (first | (with_reducible first | exact HB.out | apply fA_ | apply pB_ | apply fD_ | refine fE_ ?_ GE720.out) | exact HB.out)⟩⟩
        replace c12 := bE_.mpr c12; subst c12; have H1 : (snowlinelaw04_DiffsAdded.j0 k l1 l2 true a0_0 l0_1) = some r := by rw [if_neg (show ¬ (false = true) by decide)] at H; exact H
        clear H; have H := H1; clear H1; have H' := Z_ H; clear H; have hcz24_0 : w8.cell? ⟨gb720, 0, none⟩ = some (.int .i64 a0_0) := (bC_ BK720.out 0).trans rfl; have hcz24_1 : w8.cell? ⟨gb720, 1, none⟩ = some (.slice A0_1 l0_1.length c0_1) := (bC_ BK720.out 1).trans rfl; have hfz24_0 := bF_ BK720.out 0; have hfz24_1 := bF_ BK720.out 1; go_wp2_with (first | ((with_reducible refine gate_callee (f := 29) rfl ?_); refine goesL_ (some 21) rfl rfl Try.func29 (by kernel_rfl) rfl #[.agg #[.int .i64 a0_0, .slice A0_1 l0_1.length c0_1]] rfl (by (try simp only [mT_, mC_, mN_]); first | done | rfl | (simp only [lD_, lT_]; rfl)) ?_; (with_reducible refine (diffs_Check.calls k a0_0 _ _ l0_1 t722 _ ?side1 ?side2 A9.out).mono ?_); (case side1 => repeat (first | exact (cB_ HR0_1.out HB.out) | (with_reducible refine Kd.C_alloc ?_ _) | (with_reducible refine Kd.C_drewN ?_ _) | (with_reducible refine Kd.C_drew ?_))); (case side2 => exact HC0_1.out); rintro e w25 ⟨rfl, hb⟩; refine ⟨_, rfl, ?_⟩; have n0_ := Z_ (bB_ (g := gb720) (o := .cells #[.int .i64 a0_0, .slice A0_1 l0_1.length c0_1] 24 (0, 0)) (by (with_reducible repeat (first | refine bN_ ?_ _ | refine bD_ ?_ | refine bA_ ?_ _)); exact BK720.out) hb); have n1_ := Z_ (fS_ (by repeat (first | (with_reducible first | exact HB.out | apply fA_ | apply pB_ | apply fD_ | refine fE_ ?_ GE720.out) | exact HB.out)) hb); clear BK720; clear HB; have BK720 := n0_; have HB := n1_; clear n0_ n1_; (try clear hb); (try clear hb2); (try clear hk); (try clear hi); have hcz26_0 : w25.cell? ⟨gb720, 0, none⟩ = some (.int .i64 a0_0) := (bC_ BK720.out 0).trans rfl; have hcz26_1 : w25.cell? ⟨gb720, 1, none⟩ = some (.slice A0_1 l0_1.length c0_1) := (bC_ BK720.out 1).trans rfl; have hfz26_0 := bF_ BK720.out 0; have hfz26_1 := bF_ BK720.out 1) | (go_at_call 23; (with_reducible refine (snowlinelaw04_small.calls a0_0 _ _ l0_1 false _ ?side1 ?side2 A11.out).mono ?_); (case side1 => repeat (first | exact (cB_ HR0_1.out HB.out) | (with_reducible refine Kd.C_alloc ?_ _) | (with_reducible refine Kd.C_drewN ?_ _) | (with_reducible refine Kd.C_drew ?_))); (case side2 => exact HC0_1.out); rintro e w27 ⟨rfl, hb⟩; have n0_ := Z_ (bB_ (g := gb720) (o := .cells #[.int .i64 a0_0, .slice A0_1 l0_1.length c0_1] 24 (0, 0)) (by (with_reducible repeat (first | refine bN_ ?_ _ | refine bD_ ?_ | refine bA_ ?_ _)); exact BK720.out) hb); have n1_ := Z_ (fS_ (by repeat (first | (with_reducible first | exact HB.out | apply fA_ | apply pB_ | apply fD_ | refine fE_ ?_ GE720.out) | exact HB.out)) hb); clear BK720; clear HB; have BK720 := n0_; have HB := n1_; clear n0_ n1_; (try clear hb); (try clear hb2); (try clear hk); (try clear hi))); go_meet
        case rel => exact ⟨_, (true), (by first | rfl | (simp; done) | (simp [*]; done)), H', ⟨by first | omega | exact nR_ _⟩, ⟨by (with_reducible repeat (first | refine bN_ ?_ _ | refine bD_ ?_ | refine bA_ ?_ _)); exact BK720.out⟩, ⟨by repeat (first | (with_reducible first | exact HB.out | apply fA_ | apply pB_ | apply fD_ | refine fE_ ?_ GE720.out) | exact HB.out)⟩⟩
      rw [if_neg c10] at H; have c10b0 : (t722 == 0) = false := beq_eq_false_iff_ne.mpr c10; have c10b1 : (t722 != 0) = true := bne_iff_ne.mpr c10; (first | rw [c10b0] | (simp only [i64_w, i32_w]; rw [c10b0]) | skip)
      have H' := Z_ H; clear H; have hcz28_0 : w8.cell? ⟨gb720, 0, none⟩ = some (.int .i64 a0_0) := (bC_ BK720.out 0).trans rfl; have hcz28_1 : w8.cell? ⟨gb720, 1, none⟩ = some (.slice A0_1 l0_1.length c0_1) := (bC_ BK720.out 1).trans rfl; have hfz28_0 := bF_ BK720.out 0; have hfz28_1 := bF_ BK720.out 1; go_wp2_with (first | ((with_reducible refine gate_callee (f := 29) rfl ?_); refine goesL_ (some 21) rfl rfl Try.func29 (by kernel_rfl) rfl #[.agg #[.int .i64 a0_0, .slice A0_1 l0_1.length c0_1]] rfl (by (try simp only [mT_, mC_, mN_]); first | done | rfl | (simp only [lD_, lT_]; rfl)) ?_; (with_reducible refine (diffs_Check.calls k a0_0 _ _ l0_1 t722 _ ?side1 ?side2 A9.out).mono ?_); (case side1 => repeat (first | exact (cB_ HR0_1.out HB.out) | (with_reducible refine Kd.C_alloc ?_ _) | (with_reducible refine Kd.C_drewN ?_ _) | (with_reducible refine Kd.C_drew ?_))); (case side2 => exact HC0_1.out); rintro e w29 ⟨rfl, hb⟩; refine ⟨_, rfl, ?_⟩; have n0_ := Z_ (bB_ (g := gb720) (o := .cells #[.int .i64 a0_0, .slice A0_1 l0_1.length c0_1] 24 (0, 0)) (by (with_reducible repeat (first | refine bN_ ?_ _ | refine bD_ ?_ | refine bA_ ?_ _)); exact BK720.out) hb); have n1_ := Z_ (fS_ (by repeat (first | (with_reducible first | exact HB.out | apply fA_ | apply pB_ | apply fD_ | refine fE_ ?_ GE720.out) | exact HB.out)) hb); clear BK720; clear HB; have BK720 := n0_; have HB := n1_; clear n0_ n1_; (try clear hb); (try clear hb2); (try clear hk); (try clear hi))); go_meet
      case rel => exact ⟨_, (true), (by first | rfl | (simp; done) | (simp [*]; done)), H', ⟨by first | omega | exact nR_ _⟩, ⟨by (with_reducible repeat (first | refine bN_ ?_ _ | refine bD_ ?_ | refine bA_ ?_ _)); exact BK720.out⟩, ⟨by repeat (first | (with_reducible first | exact HB.out | apply fA_ | apply pB_ | apply fD_ | refine fE_ ?_ GE720.out) | exact HB.out)⟩⟩
    case rest =>
      clear HC6; try clear c1
      try clear c2
      try clear p2
      try clear c5
      try clear c8
      try clear c10
      try clear c10b0
      try clear c10b1
      try clear c12
      try clear c13
      try clear c13b0
      try clear c13b1
      try clear c21
      try clear c29
      try clear hcz14_0
      try clear hcz14_1
      try clear hcz16_0
      try clear hcz16_1
      try clear hcz18_0
      try clear hcz18_1
      try clear hcz19_0
      try clear hcz19_1
      try clear hcz21_0
      try clear hcz21_1
      try clear hcz23_0
      try clear hcz23_1
      try clear hcz24_0
      try clear hcz24_1
      try clear hcz26_0
      try clear hcz26_1
      try clear hcz28_0
      try clear hcz28_1
      try clear hfz14_0
      try clear hfz14_1
      try clear hfz16_0
      try clear hfz16_1
      try clear hfz18_0
      try clear hfz18_1
      try clear hfz19_0
      try clear hfz19_1
      try clear hfz21_0
      try clear hfz21_1
      try clear hfz23_0
      try clear hfz23_1
      try clear hfz24_0
      try clear hfz24_1
      try clear hfz26_0
      try clear hfz26_1
      try clear hfz28_0
      try clear hfz28_1
      obtain ⟨kq, x41_5, rfl, HA, HJ5, BK720, HB⟩ := hcut
      cases kq with
      | zero => exact absurd HA.out (by simp [snowlinelaw04_DiffsAdded.j0])
      | succ kj5 =>
        have H := HA.out; clear HA; simp only [snowlinelaw04_DiffsAdded.j0] at H; by_cases c30 : x41_5 = true
        · subst c30
          have H1 : (some true) = some r := by rw [if_pos rfl] at H; exact H
          clear H; have H := H1; clear H1; obtain rfl := oI_ H; go_wp2; go_ret; exact ⟨by first | rfl | (simp [errW_none, errW_some] <;> rfl) | (simp [*, errW_none, errW_some] <;> rfl), by repeat (first | (with_reducible first | exact HB.out | apply fA_ | apply pB_ | apply fD_ | refine fE_ ?_ GE720.out) | exact HB.out)⟩
        replace c30 := bE_.mpr c30; subst c30; have H1 : (if 0 ≤ a0_0 then (if (a0_0 : Int).toNat ≤ 35184372088832 then ((some (List.replicate (a0_0 : Int).toNat 0 : List Int)).bind fun y724 => (snowlinelaw04_DiffsAdded.l0 kj5 l1 l2 y724 (y724.length : Int) 0 a0_0 l0_1)) else (none)) else (none)) = some r := by rw [if_neg (show ¬ (false = true) by decide)] at H; exact H
        clear H; have H := H1; clear H1; by_cases c31 : 0 ≤ a0_0
        · rw [if_pos c31] at H
          have c31b0 := eq_true c31; have c31b1 : decide (0 ≤ a0_0) = true := eT_ c31; clear c31; by_cases c32 : (a0_0 : Int).toNat ≤ 35184372088832
          · rw [if_pos c32] at H
            have c32b0 := eq_true c32; have c32b1 : decide ((a0_0 : Int).toNat ≤ 35184372088832) = true := eT_ c32; clear c32; obtain ⟨y724, hy724⟩ : ∃ y_ : List Int, y_ = (List.replicate (a0_0 : Int).toNat 0) := ⟨_, rfl⟩; replace H : (snowlinelaw04_DiffsAdded.l0 kj5 l1 l2 y724 (y724.length : Int) 0 a0_0 l0_1) = some r := by first | (rw [hy724]; with_reducible exact H) | (have H2_ := (oB_ _ _).symm.trans H; rw [hy724]; with_reducible exact H2_) | (have H2_ := (oB_ _ _).symm.trans H; with_reducible exact H2_) | with_reducible exact H | (rw [hy724]; exact H) | exact H
            have Ny724 := Z_ hy724; clear hy724; have H' := Z_ H; clear H; have hcz33_0 : wc.cell? ⟨gb720, 0, none⟩ = some (.int .i64 a0_0) := (bC_ BK720.out 0).trans rfl; have hcz33_1 : wc.cell? ⟨gb720, 1, none⟩ = some (.slice A0_1 l0_1.length c0_1) := (bC_ BK720.out 1).trans rfl; have hfz33_0 := bF_ BK720.out 0; have hfz33_1 := bF_ BK720.out 1; go_wp2_with (first | ((with_reducible refine gate_dst (N := 44) rfl ?_); (try (refine gate_guard (by rfl) ?_; dsimp only)); refine Kd.R_make (Kd.int .i64) _ 3 rfl (N := 44) rfl 29 _ _ rfl a0_0 rfl rfl Try.underlying29 (.int .i64 0) 8 info3 rfl (by decide) (by omega) 0 (ok := fun _ => True) (okp := fun _ => True) rfl (fun _ hk => hk) trivial (dT_ (by first | (with_reducible assumption) | assumption)) (Nat.le_trans (Nat.mul_le_mul_right _ (dT_ (by first | (with_reducible assumption) | assumption) : a0_0.toNat ≤ 35184372088832)) (by omega)) (Below.refl _ _) (nR_ _) ?_; intro v725 w34 ho35 hb hg_ hnew_; clear hg_ hnew_; (first | rw [← Ny724.out] at ho35 | (simp only [Int.reduceToNat] at ho35; rw [← Ny724.out] at ho35)); have n0_ := Z_ (rL_ ho35 (fZ_ (by repeat (first | (with_reducible first | exact HB.out | apply fA_ | apply pB_ | apply fD_ | refine fE_ ?_ GE720.out) | exact HB.out)))); have n1_ := Z_ (bB_ (g := gb720) (o := .cells #[.int .i64 a0_0, .slice A0_1 l0_1.length c0_1] 24 (0, 0)) (by (with_reducible repeat (first | refine bN_ ?_ _ | refine bD_ ?_ | refine bA_ ?_ _)); exact BK720.out) hb); have n2_ := Z_ (fS_ (by repeat (first | (with_reducible first | exact HB.out | apply fA_ | apply pB_ | apply fD_ | refine fE_ ?_ GE720.out) | exact HB.out)) hb); clear BK720; clear HB; have HO726 := n0_; have BK720 := n1_; have HB := n2_; clear n0_ n1_ n2_; clear hb ho35; obtain ⟨Ao36, co36, eo36⟩ := rS_ HO726.out; subst eo36)); obtain ⟨z46, hz46⟩ : ∃ z : Int, (y724.length : Int) = z := ⟨_, rfl⟩; rw [hz46] at H'; rw [hz46]; go_loopg [47] kj5 (fun kq v47 w' => ∃ (x7_2 : List Int) (x47_2 : Int), v47 = .int .i64 x47_2 ∧ Aside0 (snowlinelaw04_DiffsAdded.l0 kq l1 l2 x7_2 z46 x47_2 a0_0 l0_1 = some r) ∧ Aside0 (kq ≤ kj5) ∧ Aside0 (Kd.R (Kd.int .i64) 3 w' w.heap.size (fun _ => True) (.slice Ao36 y724.length co36) x7_2) ∧ Aside0 (w'.heap[gb720]? = some (.cells #[.int .i64 a0_0, (.slice A0_1 l0_1.length c0_1)] 24 (0, 0))) ∧ Aside0 (Below w.heap.size w w'))
            case atStart => exact ⟨(y724), (0), (by first | rfl | (simp; done) | (simp [*]; done)), H', ⟨nR_ _⟩, ⟨by (with_reducible repeat (first | apply rA_ | apply rN_ | apply rD_)); exact HO726.out⟩, ⟨by (with_reducible repeat (first | refine bN_ ?_ _ | refine bD_ ?_ | refine bA_ ?_ _)); exact BK720.out⟩, ⟨by repeat (first | (with_reducible first | exact HB.out | apply fA_ | apply pB_ | apply fD_ | refine fE_ ?_ GE720.out) | exact HB.out)⟩⟩
            case round =>
              clear H'; try clear c1
              try clear c2
              try clear p2
              try clear c3
              try clear c5
              try clear c8
              try clear c10
              try clear c10b0
              try clear c10b1
              try clear c12
              try clear c13
              try clear c13b0
              try clear c13b1
              try clear c21
              try clear c29
              try clear c30
              try clear c31
              try clear c31b0
              try clear c31b1
              try clear c32
              try clear c32b0
              try clear c32b1
              try clear hcz14_0
              try clear hcz14_1
              try clear hcz16_0
              try clear hcz16_1
              try clear hcz18_0
              try clear hcz18_1
              try clear hcz19_0
              try clear hcz19_1
              try clear hcz21_0
              try clear hcz21_1
              try clear hcz23_0
              try clear hcz23_1
              try clear hcz24_0
              try clear hcz24_1
              try clear hcz26_0
              try clear hcz26_1
              try clear hcz28_0
              try clear hcz28_1
              try clear hcz33_0
              try clear hcz33_1
              try clear hfz14_0
              try clear hfz14_1
              try clear hfz16_0
              try clear hfz16_1
              try clear hfz18_0
              try clear hfz18_1
              try clear hfz19_0
              try clear hfz19_1
              try clear hfz21_0
              try clear hfz21_1
              try clear hfz23_0
              try clear hfz23_1
              try clear hfz24_0
              try clear hfz24_1
              try clear hfz26_0
              try clear hfz26_1
              try clear hfz28_0
              try clear hfz28_1
              try clear hfz33_0
              try clear hfz33_1
              try clear p2
              obtain ⟨x7_2, x47_2, rfl, HA, HK2, HO_7, BK720, HB⟩ := hrel; have hl7_2 := (rR_ HO_7.out).1; rw [hl7_2] at HO_7; (try simp only [hl7_2])
              (try simp only [hl7_2] at BK720)
              cases gk with
              | zero => exact absurd HA.out (by simp [snowlinelaw04_DiffsAdded.l0])
              | succ k2 =>
                have H := HA.out; clear HA; simp only [snowlinelaw04_DiffsAdded.l0] at H; by_cases c37 : x47_2 < z46
                · rw [if_pos c37] at H
                  have c37b0 : decide (x47_2 < z46) = true := eT_ c37; clear c37; have HC38 := Z_ H; clear H; go_upto_region 9 with (fail); go_cut [95] (fun v95 wc => ∃ (kq : Nat) (x95_37 : Bool), v95 = .bool x95_37 ∧ Aside0 (snowlinelaw04_DiffsAdded.j2 kq l1 l2 x7_2 x47_2 z46 x47_2 x95_37 a0_0 l0_1 = some r) ∧ Aside0 (kq ≤ k2) ∧ Aside0 (Kd.R (Kd.int .i64) 3 wc w.heap.size (fun _ => True) (.slice Ao36 x7_2.length co36) x7_2) ∧ Aside0 (wc.heap[gb720]? = some (.cells #[.int .i64 a0_0, (.slice A0_1 l0_1.length c0_1)] 24 (0, 0))) ∧ Aside0 (Below w.heap.size w wc))
                  case first =>
                    have H := HC38.out; clear HC38; by_cases c39 : 0 ≤ x47_2
                    · rw [if_pos c39] at H
                      have c39b0 : decide (0 ≤ x47_2) = true := eT_ c39; clear c39; (first | rw [c39b0] | (simp only [i64_w, i32_w]; rw [c39b0]) | skip)
                      by_cases c40 : x47_2 < (l1.length : Int)
                      · rw [if_pos c40] at H
                        have c40b0 : decide (x47_2 < (l1.length : Int)) = true := eT_ c40; clear c40; by_cases c41 : x47_2 < (l2.length : Int)
                        · rw [if_pos c41] at H
                          have c41b0 : decide (x47_2 < (l2.length : Int)) = true := eT_ c41; clear c41; obtain ⟨ji42, hji42⟩ : ∃ j_ : Int, (mn (rd l1 x47_2) (rd l2 x47_2)) = j_ := ⟨_, rfl⟩; replace H : (if (ji42) < (-4096) then (snowlinelaw04_DiffsAdded.j2 k2 l1 l2 x7_2 x47_2 z46 x47_2 true a0_0 l0_1) else (if (mx (rd l1 x47_2) (rd l2 x47_2)) > 4096 then (snowlinelaw04_DiffsAdded.j2 k2 l1 l2 x7_2 x47_2 z46 x47_2 true a0_0 l0_1) else (if (wrap64 ((rd l1 x47_2) + (rd l2 x47_2))) < (-4096) then (snowlinelaw04_DiffsAdded.j2 k2 l1 l2 x7_2 x47_2 z46 x47_2 true a0_0 l0_1) else (snowlinelaw04_DiffsAdded.j2 k2 l1 l2 x7_2 x47_2 z46 x47_2 (decide ((wrap64 ((rd l1 x47_2) + (rd l2 x47_2))) > 4096)) a0_0 l0_1)))) = some r := by first | (rw [hji42] at H; exact H) | (simp only [hji42] at H ⊢; exact H)
                          have hji42_ : (if (rd l2 x47_2) < (rd l1 x47_2) then (rd l2 x47_2) else (rd l1 x47_2)) = ji42 := hji42; by_cases c43 : (ji42) < (-4096)
                          · rw [if_pos c43] at H
                            have c43b0 : decide ((ji42) < (-4096)) = true := eT_ c43; clear c43; have H' := Z_ H; clear H; try go_wp2
                            have n0_ := Z_ (rD_ HO_7.out); have n1_ := Z_ (bD_ BK720.out); have n2_ := Z_ (fD_ HB.out); clear HO_7; clear BK720; clear HB; have HO_7 := n0_; have BK720 := n1_; have HB := n2_; clear n0_ n1_ n2_; have p727 : 0 ≤ (x47_2 : Int) := dT_ (by first | (with_reducible assumption) | assumption); have q727 : x47_2 < (l1.length : Int) := dT_ (by first | (with_reducible assumption) | assumption); obtain ⟨ad727, e727, hx727_0⟩ := Kd.at_int HR1.out x47_2 p727 q727; have hw727_0 := hx727_0; cases e727
                            replace hx727_0 := (HB.out.cell (World.block_lt_of_cell? w _ hx727_0)).trans hx727_0; replace p727 := eq_true p727; replace q727 := eq_true q727; have p728 : 0 ≤ (x47_2 : Int) := dT_ (by first | (with_reducible assumption) | assumption); have q728 : x47_2 < (l2.length : Int) := dT_ (by first | (with_reducible assumption) | assumption); obtain ⟨ad728, e728, hx728_0⟩ := Kd.at_int HR2.out x47_2 p728 q728; have hw728_0 := hx728_0; cases e728
                            replace hx728_0 := (HB.out.cell (World.block_lt_of_cell? w _ hx728_0)).trans hx728_0; replace p728 := eq_true p728; replace q728 := eq_true q728; refine start_ (n := 46) (S := fun w' => w'.cell? (ad727.add (x47_2).toNat) = some (.int .i64 (rd l1 x47_2)) ∧ w'.cell? (ad728.add (x47_2).toNat) = some (.int .i64 (rd l2 x47_2))) (ds := []) #[false, false, false, false, false, false, false, false, false, false, false, false, false, false, false, false, false, false, false, false, false, false, false, false, false, false, false, false, false, false, false, false, false, false, false, false, false, false, false, false, false, false, false, false, false, false] (by kernel_rfl) rfl rfl ⟨((HB.out.cell (World.block_lt_of_cell? w _ hw727_0)).trans hw727_0), ((HB.out.cell (World.block_lt_of_cell? w _ hw728_0)).trans hw728_0)⟩ (fun hHeld => ?_); refine with_tabW snowlinelaw04_DiffsAdded.tab9 snowlinelaw04_DiffsAdded.bits9 (fun HT_ HW_ => ?_); generalize wr.drew = w44 at HO_7 BK720 HB hx727_0 hx728_0 hHeld ⊢; refine pure_ (i := 0) (N := some 50) (v := ?_) (a' := ?_) (mB_ 46 1) rfl rfl (any_of HT_.out (by kernel_rfl)) (fun _ _ _ h => h) (Or.inl ⟨by rfl, ?_⟩) ?_ ?_; rotate_left
                            · intro w'
                              go_simp; with_reducible rfl
                            rotate_left
                            · simp only [Act.put, sT_, sZ_, sS_, i64_w, i32_w]
                              rfl
                            refine pure_ (i := 1) (N := some 51) (v := ?_) (a' := ?_) (mB_ 46 3) rfl rfl (any_of HT_.out (by kernel_rfl)) (fun _ _ _ h => h) (Or.inl ⟨by rfl, ?_⟩) ?_ ?_; rotate_left
                            · intro w'
                              go_simp; with_reducible rfl
                            rotate_left
                            · simp only [Act.put, sT_, sZ_, sS_, i64_w, i32_w]
                              rfl
                            refine pure_ (i := 2) (N := some 52) (v := ?_) (a' := ?_) (mB_ 46 7) rfl rfl (any_of HT_.out (by kernel_rfl)) (fun _ _ _ h => h) (Or.inl ⟨by rfl, ?_⟩) ?_ ?_; rotate_left
                            · intro w'
                              go_simp; with_reducible rfl
                            rotate_left
                            · simp only [Act.put, sT_, sZ_, sS_, i64_w, i32_w]
                              rfl
                            refine pure_ (i := 4) (N := some 54) (v := ?_) (a' := ?_) (mB_ 46 23) rfl rfl (any_of HT_.out (by kernel_rfl)) (fun _ _ _ h => h) (Or.inl ⟨by rfl, ?_⟩) ?_ ?_; rotate_left
                            · intro w'
                              go_simp; with_reducible rfl
                            rotate_left
                            · simp only [Act.put, sT_, sZ_, sS_, i64_w, i32_w]
                              rfl
                            refine pure_ (i := 5) (N := some 55) (v := ?_) (a' := ?_) (mB_ 46 55) rfl rfl (any_of HT_.out (by kernel_rfl)) (fun _ _ _ h => h) (Or.inl ⟨by rfl, ?_⟩) ?_ ?_; rotate_left
                            · intro w'
                              go_simp; with_reducible rfl
                            rotate_left
                            · simp only [Act.put, sT_, sZ_, sS_, i64_w, i32_w]
                              rfl
                            refine pure_ (i := 6) (N := some 56) (v := ?_) (a' := ?_) (mB_ 46 119) rfl rfl (any_of HT_.out (by kernel_rfl)) (fun _ _ _ h => h) (Or.inl ⟨by rfl, ?_⟩) ?_ ?_; rotate_left
                            · intro w'
                              go_simp; with_reducible rfl
                            rotate_left
                            · simp only [Act.put, sT_, sZ_, sS_, i64_w, i32_w]
                              rfl
                            refine take_ (i := 3) (N := some 53) (v := ?_) (a' := ?_) (mB_ 46 127) rfl rfl (take_ofW HT_.out HW_.out (by kernel_rfl)) (fun _ _ _ h => h) (Or.inl ⟨by rfl, ?_⟩) hHeld ?_ ?_; rotate_left
                            · rintro w' ⟨s0, s1⟩
                              go_simp; with_reducible rfl
                            rotate_left
                            · simp only [Act.put, sT_, sZ_, sS_, i64_w, i32_w]
                              rfl
                            refine take_ (i := 7) (N := some 57) (v := ?_) (a' := ?_) (mB_ 46 255) rfl rfl (take_ofW HT_.out HW_.out (by kernel_rfl)) (fun _ _ _ h => h) (Or.inl ⟨by rfl, ?_⟩) hHeld ?_ ?_; rotate_left
                            · rintro w' ⟨s0, s1⟩
                              go_simp; with_reducible rfl
                            rotate_left
                            · simp only [Act.put, sT_, sZ_, sS_, i64_w, i32_w]
                              rfl
                            refine pure_ (i := 8) (N := some 58) (v := ?_) (a' := ?_) (mB_ 46 511) rfl rfl (any_of HT_.out (by kernel_rfl)) (fun _ _ _ h => h) (Or.inl ⟨by rfl, ?_⟩) ?_ ?_; rotate_left
                            · intro w'
                              go_simp; with_reducible rfl
                            rotate_left
                            · simp only [Act.put, sT_, sZ_, sS_, i64_w, i32_w]
                              rfl
                            refine pure_ (i := 9) (N := some 59) (v := ?_) (a' := ?_) (mB_ 46 1023) rfl rfl (any_of HT_.out (by kernel_rfl)) (fun _ _ _ h => h) (Or.inl ⟨by rfl, ?_⟩) ?_ ?_; rotate_left
                            · intro w'
                              go_simp; with_reducible rfl
                            rotate_left
                            · simp only [Act.put, sT_, sZ_, sS_, i64_w, i32_w]
                              rfl
                            refine pure_ (i := 10) (N := some 60) (v := ?_) (a' := ?_) (mB_ 46 2047) rfl rfl (any_of HT_.out (by kernel_rfl)) (fun _ _ _ h => h) (Or.inl ⟨by rfl, ?_⟩) ?_ ?_; rotate_left
                            · intro w'
                              go_simp; with_reducible rfl
                            rotate_left
                            · simp only [Act.put, sT_, sZ_, sS_, i64_w, i32_w]
                              rfl
                            refine pure_ (i := 11) (N := some 61) (v := undef) (a' := ?_) (mB_ 46 4095) rfl rfl (any_of HT_.out (by kernel_rfl)) (fun _ _ _ h => h) (Or.inr ⟨by rfl, rfl⟩) ?_ ?_; rotate_left
                            · simp only [Act.put, sT_, sZ_, sS_, i64_w, i32_w]
                              rfl
                            refine pure_ (i := 12) (N := some 62) (v := undef) (a' := ?_) (mB_ 46 8191) rfl rfl (any_of HT_.out (by kernel_rfl)) (fun _ _ _ h => h) (Or.inr ⟨by rfl, rfl⟩) ?_ ?_; rotate_left
                            · simp only [Act.put, sT_, sZ_, sS_, i64_w, i32_w]
                              rfl
                            refine pure_ (i := 13) (N := some 63) (v := undef) (a' := ?_) (mB_ 46 16383) rfl rfl (any_of HT_.out (by kernel_rfl)) (fun _ _ _ h => h) (Or.inr ⟨by rfl, rfl⟩) ?_ ?_; rotate_left
                            · simp only [Act.put, sT_, sZ_, sS_, i64_w, i32_w]
                              rfl
                            refine pure_ (i := 14) (N := some 64) (v := undef) (a' := ?_) (mB_ 46 32767) rfl rfl (any_of HT_.out (by kernel_rfl)) (fun _ _ _ h => h) (Or.inr ⟨by rfl, rfl⟩) ?_ ?_; rotate_left
                            · simp only [Act.put, sT_, sZ_, sS_, i64_w, i32_w]
                              rfl
                            refine pure_ (i := 15) (N := some 65) (v := undef) (a' := ?_) (mB_ 46 65535) rfl rfl (any_of HT_.out (by kernel_rfl)) (fun _ _ _ h => h) (Or.inr ⟨by rfl, rfl⟩) ?_ ?_; rotate_left
                            · simp only [Act.put, sT_, sZ_, sS_, i64_w, i32_w]
                              rfl
                            refine pure_ (i := 16) (N := some 66) (v := undef) (a' := ?_) (mB_ 46 131071) rfl rfl (any_of HT_.out (by kernel_rfl)) (fun _ _ _ h => h) (Or.inr ⟨by rfl, rfl⟩) ?_ ?_; rotate_left
                            · simp only [Act.put, sT_, sZ_, sS_, i64_w, i32_w]
                              rfl
                            refine pure_ (i := 17) (N := some 67) (v := undef) (a' := ?_) (mB_ 46 262143) rfl rfl (any_of HT_.out (by kernel_rfl)) (fun _ _ _ h => h) (Or.inr ⟨by rfl, rfl⟩) ?_ ?_; rotate_left
                            · simp only [Act.put, sT_, sZ_, sS_, i64_w, i32_w]
                              rfl
                            refine pure_ (i := 18) (N := some 68) (v := undef) (a' := ?_) (mB_ 46 524287) rfl rfl (any_of HT_.out (by kernel_rfl)) (fun _ _ _ h => h) (Or.inr ⟨by rfl, rfl⟩) ?_ ?_; rotate_left
                            · simp only [Act.put, sT_, sZ_, sS_, i64_w, i32_w]
                              rfl
                            refine pure_ (i := 19) (N := some 69) (v := undef) (a' := ?_) (mB_ 46 1048575) rfl rfl (any_of HT_.out (by kernel_rfl)) (fun _ _ _ h => h) (Or.inr ⟨by rfl, rfl⟩) ?_ ?_; rotate_left
                            · simp only [Act.put, sT_, sZ_, sS_, i64_w, i32_w]
                              rfl
                            refine pure_ (i := 20) (N := some 70) (v := undef) (a' := ?_) (mB_ 46 2097151) rfl rfl (any_of HT_.out (by kernel_rfl)) (fun _ _ _ h => h) (Or.inr ⟨by rfl, rfl⟩) ?_ ?_; rotate_left
                            · simp only [Act.put, sT_, sZ_, sS_, i64_w, i32_w]
                              rfl
                            refine pure_ (i := 21) (N := some 71) (v := ?_) (a' := ?_) (mB_ 46 4194303) rfl rfl (any_of HT_.out (by kernel_rfl)) (fun _ _ _ h => h) (Or.inl ⟨by rfl, ?_⟩) ?_ ?_; rotate_left
                            · intro w'
                              go_simp; with_reducible rfl
                            rotate_left
                            · simp only [Act.put, sT_, sZ_, sS_, i64_w, i32_w]
                              rfl
                            refine pure_ (i := 22) (N := some 72) (v := ?_) (a' := ?_) (mB_ 46 8388607) rfl rfl (any_of HT_.out (by kernel_rfl)) (fun _ _ _ h => h) (Or.inl ⟨by rfl, ?_⟩) ?_ ?_; rotate_left
                            · intro w'
                              go_simp; with_reducible rfl
                            rotate_left
                            · simp only [Act.put, sT_, sZ_, sS_, i64_w, i32_w]
                              rfl
                            refine pure_ (i := 23) (N := some 73) (v := undef) (a' := ?_) (mB_ 46 16777215) rfl rfl (any_of HT_.out (by kernel_rfl)) (fun _ _ _ h => h) (Or.inr ⟨by rfl, rfl⟩) ?_ ?_; rotate_left
                            · simp only [Act.put, sT_, sZ_, sS_, i64_w, i32_w]
                              rfl
                            refine pure_ (i := 24) (N := some 74) (v := undef) (a' := ?_) (mB_ 46 33554431) rfl rfl (any_of HT_.out (by kernel_rfl)) (fun _ _ _ h => h) (Or.inr ⟨by rfl, rfl⟩) ?_ ?_; rotate_left
                            · simp only [Act.put, sT_, sZ_, sS_, i64_w, i32_w]
                              rfl
                            refine pure_ (i := 25) (N := some 75) (v := undef) (a' := ?_) (mB_ 46 67108863) rfl rfl (any_of HT_.out (by kernel_rfl)) (fun _ _ _ h => h) (Or.inr ⟨by rfl, rfl⟩) ?_ ?_; rotate_left
                            · simp only [Act.put, sT_, sZ_, sS_, i64_w, i32_w]
                              rfl
                            refine pure_ (i := 26) (N := some 76) (v := undef) (a' := ?_) (mB_ 46 134217727) rfl rfl (any_of HT_.out (by kernel_rfl)) (fun _ _ _ h => h) (Or.inr ⟨by rfl, rfl⟩) ?_ ?_; rotate_left
                            · simp only [Act.put, sT_, sZ_, sS_, i64_w, i32_w]
                              rfl
                            refine pure_ (i := 27) (N := some 77) (v := undef) (a' := ?_) (mB_ 46 268435455) rfl rfl (any_of HT_.out (by kernel_rfl)) (fun _ _ _ h => h) (Or.inr ⟨by rfl, rfl⟩) ?_ ?_; rotate_left
                            · simp only [Act.put, sT_, sZ_, sS_, i64_w, i32_w]
                              rfl
                            refine pure_ (i := 28) (N := some 78) (v := undef) (a' := ?_) (mB_ 46 536870911) rfl rfl (any_of HT_.out (by kernel_rfl)) (fun _ _ _ h => h) (Or.inr ⟨by rfl, rfl⟩) ?_ ?_; rotate_left
                            · simp only [Act.put, sT_, sZ_, sS_, i64_w, i32_w]
                              rfl
                            refine pure_ (i := 29) (N := some 79) (v := undef) (a' := ?_) (mB_ 46 1073741823) rfl rfl (any_of HT_.out (by kernel_rfl)) (fun _ _ _ h => h) (Or.inr ⟨by rfl, rfl⟩) ?_ ?_; rotate_left
                            · simp only [Act.put, sT_, sZ_, sS_, i64_w, i32_w]
                              rfl
                            refine pure_ (i := 30) (N := some 80) (v := undef) (a' := ?_) (mB_ 46 2147483647) rfl rfl (any_of HT_.out (by kernel_rfl)) (fun _ _ _ h => h) (Or.inr ⟨by rfl, rfl⟩) ?_ ?_; rotate_left
                            · simp only [Act.put, sT_, sZ_, sS_, i64_w, i32_w]
                              rfl
                            refine pure_ (i := 31) (N := some 81) (v := undef) (a' := ?_) (mB_ 46 4294967295) rfl rfl (any_of HT_.out (by kernel_rfl)) (fun _ _ _ h => h) (Or.inr ⟨by rfl, rfl⟩) ?_ ?_; rotate_left
                            · simp only [Act.put, sT_, sZ_, sS_, i64_w, i32_w]
                              rfl
                            refine pure_ (i := 32) (N := some 82) (v := undef) (a' := ?_) (mB_ 46 8589934591) rfl rfl (any_of HT_.out (by kernel_rfl)) (fun _ _ _ h => h) (Or.inr ⟨by rfl, rfl⟩) ?_ ?_; rotate_left
                            · simp only [Act.put, sT_, sZ_, sS_, i64_w, i32_w]
                              rfl
                            refine pure_ (i := 33) (N := some 83) (v := ?_) (a' := ?_) (mB_ 46 17179869183) rfl rfl (any_of HT_.out (by kernel_rfl)) (fun _ _ _ h => h) (Or.inl ⟨by rfl, ?_⟩) ?_ ?_; rotate_left
                            · intro w'
                              go_simp; with_reducible rfl
                            rotate_left
                            · simp only [Act.put, sT_, sZ_, sS_, i64_w, i32_w]
                              rfl
                            refine pure_ (i := 34) (N := some 84) (v := ?_) (a' := ?_) (mB_ 46 34359738367) rfl rfl (any_of HT_.out (by kernel_rfl)) (fun _ _ _ h => h) (Or.inl ⟨by rfl, ?_⟩) ?_ ?_; rotate_left
                            · intro w'
                              go_simp; with_reducible rfl
                            rotate_left
                            · simp only [Act.put, sT_, sZ_, sS_, i64_w, i32_w]
                              rfl
                            refine pure_ (i := 35) (N := some 85) (v := undef) (a' := ?_) (mB_ 46 68719476735) rfl rfl (any_of HT_.out (by kernel_rfl)) (fun _ _ _ h => h) (Or.inr ⟨by rfl, rfl⟩) ?_ ?_; rotate_left
                            · simp only [Act.put, sT_, sZ_, sS_, i64_w, i32_w]
                              rfl
                            refine pure_ (i := 36) (N := some 86) (v := undef) (a' := ?_) (mB_ 46 137438953471) rfl rfl (any_of HT_.out (by kernel_rfl)) (fun _ _ _ h => h) (Or.inr ⟨by rfl, rfl⟩) ?_ ?_; rotate_left
                            · simp only [Act.put, sT_, sZ_, sS_, i64_w, i32_w]
                              rfl
                            refine pure_ (i := 37) (N := some 87) (v := undef) (a' := ?_) (mB_ 46 274877906943) rfl rfl (any_of HT_.out (by kernel_rfl)) (fun _ _ _ h => h) (Or.inr ⟨by rfl, rfl⟩) ?_ ?_; rotate_left
                            · simp only [Act.put, sT_, sZ_, sS_, i64_w, i32_w]
                              rfl
                            refine pure_ (i := 38) (N := some 88) (v := undef) (a' := ?_) (mB_ 46 549755813887) rfl rfl (any_of HT_.out (by kernel_rfl)) (fun _ _ _ h => h) (Or.inr ⟨by rfl, rfl⟩) ?_ ?_; rotate_left
                            · simp only [Act.put, sT_, sZ_, sS_, i64_w, i32_w]
                              rfl
                            refine pure_ (i := 39) (N := some 89) (v := undef) (a' := ?_) (mB_ 46 1099511627775) rfl rfl (any_of HT_.out (by kernel_rfl)) (fun _ _ _ h => h) (Or.inr ⟨by rfl, rfl⟩) ?_ ?_; rotate_left
                            · simp only [Act.put, sT_, sZ_, sS_, i64_w, i32_w]
                              rfl
                            refine pure_ (i := 40) (N := some 90) (v := undef) (a' := ?_) (mB_ 46 2199023255551) rfl rfl (any_of HT_.out (by kernel_rfl)) (fun _ _ _ h => h) (Or.inr ⟨by rfl, rfl⟩) ?_ ?_; rotate_left
                            · simp only [Act.put, sT_, sZ_, sS_, i64_w, i32_w]
                              rfl
                            refine pure_ (i := 41) (N := some 91) (v := undef) (a' := ?_) (mB_ 46 4398046511103) rfl rfl (any_of HT_.out (by kernel_rfl)) (fun _ _ _ h => h) (Or.inr ⟨by rfl, rfl⟩) ?_ ?_; rotate_left
                            · simp only [Act.put, sT_, sZ_, sS_, i64_w, i32_w]
                              rfl
                            refine pure_ (i := 42) (N := some 92) (v := undef) (a' := ?_) (mB_ 46 8796093022207) rfl rfl (any_of HT_.out (by kernel_rfl)) (fun _ _ _ h => h) (Or.inr ⟨by rfl, rfl⟩) ?_ ?_; rotate_left
                            · simp only [Act.put, sT_, sZ_, sS_, i64_w, i32_w]
                              rfl
                            refine pure_ (i := 43) (N := some 93) (v := undef) (a' := ?_) (mB_ 46 17592186044415) rfl rfl (any_of HT_.out (by kernel_rfl)) (fun _ _ _ h => h) (Or.inr ⟨by rfl, rfl⟩) ?_ ?_; rotate_left
                            · simp only [Act.put, sT_, sZ_, sS_, i64_w, i32_w]
                              rfl
                            refine pure_ (i := 44) (N := some 94) (v := undef) (a' := ?_) (mB_ 46 35184372088831) rfl rfl (any_of HT_.out (by kernel_rfl)) (fun _ _ _ h => h) (Or.inr ⟨by rfl, rfl⟩) ?_ ?_; rotate_left
                            · simp only [Act.put, sT_, sZ_, sS_, i64_w, i32_w]
                              rfl
                            refine pure_ (i := 45) (N := some 95) (v := ?_) (a' := ?_) (mB_ 46 70368744177663) rfl rfl (any_of HT_.out (by kernel_rfl)) (fun _ _ _ h => h) (Or.inl ⟨by rfl, ?_⟩) ?_ ?_; rotate_left
                            · intro w'
                              go_simp; with_reducible rfl
                            rotate_left
                            · simp only [Act.put, sT_, sZ_, sS_, i64_w, i32_w]
                              rfl
                            refine done_ (done_of HT_.out (by kernel_rfl)) ?_; try go_wp2
                            go_meet
                            case rel => exact ⟨_, (true), (by first | rfl | (simp; done) | (simp [*]; done)), H', ⟨by have := HJ5.out; have := HK2.out; first | omega | exact nR_ _⟩, ⟨by (try simp only [hl7_2]); (with_reducible repeat (first | apply rA_ | apply rN_ | apply rD_)); exact HO_7.out⟩, ⟨by (try simp only [hl7_2]); (with_reducible repeat (first | refine bN_ ?_ _ | refine bD_ ?_ | refine bA_ ?_ _)); exact BK720.out⟩, ⟨by repeat (first | (with_reducible first | exact HB.out | apply fA_ | apply pB_ | apply fD_ | refine fE_ ?_ GE720.out) | exact HB.out)⟩⟩
                          rw [if_neg c43] at H; have c43b0 : decide ((ji42) < (-4096)) = false := eF_ c43; clear c43; obtain ⟨ji45, hji45⟩ : ∃ j_ : Int, (mx (rd l1 x47_2) (rd l2 x47_2)) = j_ := ⟨_, rfl⟩; replace H : (if (ji45) > 4096 then (snowlinelaw04_DiffsAdded.j2 k2 l1 l2 x7_2 x47_2 z46 x47_2 true a0_0 l0_1) else (if (wrap64 ((rd l1 x47_2) + (rd l2 x47_2))) < (-4096) then (snowlinelaw04_DiffsAdded.j2 k2 l1 l2 x7_2 x47_2 z46 x47_2 true a0_0 l0_1) else (snowlinelaw04_DiffsAdded.j2 k2 l1 l2 x7_2 x47_2 z46 x47_2 (decide ((wrap64 ((rd l1 x47_2) + (rd l2 x47_2))) > 4096)) a0_0 l0_1))) = some r := by first | (rw [hji45] at H; exact H) | (simp only [hji45] at H ⊢; exact H)
                          have hji45_ : (if (rd l1 x47_2) < (rd l2 x47_2) then (rd l2 x47_2) else (rd l1 x47_2)) = ji45 := hji45; by_cases c46 : (ji45) > 4096
                          · rw [if_pos c46] at H
                            have c46b0 : decide (4096 < (ji45)) = true := eT_ c46; clear c46; have H' := Z_ H; clear H; try go_wp2
                            have n0_ := Z_ (rD_ HO_7.out); have n1_ := Z_ (bD_ BK720.out); have n2_ := Z_ (fD_ HB.out); clear HO_7; clear BK720; clear HB; have HO_7 := n0_; have BK720 := n1_; have HB := n2_; clear n0_ n1_ n2_; have p727 : 0 ≤ (x47_2 : Int) := dT_ (by first | (with_reducible assumption) | assumption); have q727 : x47_2 < (l1.length : Int) := dT_ (by first | (with_reducible assumption) | assumption); obtain ⟨ad727, e727, hx727_0⟩ := Kd.at_int HR1.out x47_2 p727 q727; have hw727_0 := hx727_0; cases e727
                            replace hx727_0 := (HB.out.cell (World.block_lt_of_cell? w _ hx727_0)).trans hx727_0; replace p727 := eq_true p727; replace q727 := eq_true q727; have p728 : 0 ≤ (x47_2 : Int) := dT_ (by first | (with_reducible assumption) | assumption); have q728 : x47_2 < (l2.length : Int) := dT_ (by first | (with_reducible assumption) | assumption); obtain ⟨ad728, e728, hx728_0⟩ := Kd.at_int HR2.out x47_2 p728 q728; have hw728_0 := hx728_0; cases e728
                            replace hx728_0 := (HB.out.cell (World.block_lt_of_cell? w _ hx728_0)).trans hx728_0; replace p728 := eq_true p728; replace q728 := eq_true q728; have p729 : 0 ≤ (x47_2 : Int) := dT_ (by first | (with_reducible assumption) | assumption); have q729 : x47_2 < (l1.length : Int) := dT_ (by first | (with_reducible assumption) | assumption); obtain ⟨ad729, e729, hx729_0⟩ := Kd.at_int HR1.out x47_2 p729 q729; have hw729_0 := hx729_0; obtain rfl : ad727 = ad729 := (by injection e729); replace hx729_0 := (HB.out.cell (World.block_lt_of_cell? w _ hx729_0)).trans hx729_0; replace p729 := eq_true p729; replace q729 := eq_true q729; have p730 : 0 ≤ (x47_2 : Int) := dT_ (by first | (with_reducible assumption) | assumption); have q730 : x47_2 < (l2.length : Int) := dT_ (by first | (with_reducible assumption) | assumption); obtain ⟨ad730, e730, hx730_0⟩ := Kd.at_int HR2.out x47_2 p730 q730; have hw730_0 := hx730_0; obtain rfl : ad728 = ad730 := (by injection e730); replace hx730_0 := (HB.out.cell (World.block_lt_of_cell? w _ hx730_0)).trans hx730_0; replace p730 := eq_true p730; replace q730 := eq_true q730; refine start_ (n := 46) (S := fun w' => w'.cell? (ad727.add (x47_2).toNat) = some (.int .i64 (rd l1 x47_2)) ∧ w'.cell? (ad728.add (x47_2).toNat) = some (.int .i64 (rd l2 x47_2)) ∧ w'.cell? (ad727.add (x47_2).toNat) = some (.int .i64 (rd l1 x47_2)) ∧ w'.cell? (ad728.add (x47_2).toNat) = some (.int .i64 (rd l2 x47_2))) (ds := []) #[false, false, false, false, false, false, false, false, false, false, false, false, false, false, false, false, false, false, false, false, false, false, false, false, false, false, false, false, false, false, false, false, false, false, false, false, false, false, false, false, false, false, false, false, false, false] (by kernel_rfl) rfl rfl ⟨((HB.out.cell (World.block_lt_of_cell? w _ hw727_0)).trans hw727_0), ((HB.out.cell (World.block_lt_of_cell? w _ hw728_0)).trans hw728_0), ((HB.out.cell (World.block_lt_of_cell? w _ hw729_0)).trans hw729_0), ((HB.out.cell (World.block_lt_of_cell? w _ hw730_0)).trans hw730_0)⟩ (fun hHeld => ?_); refine with_tabW snowlinelaw04_DiffsAdded.tab9 snowlinelaw04_DiffsAdded.bits9 (fun HT_ HW_ => ?_); generalize wr.drew = w47 at HO_7 BK720 HB hx727_0 hx728_0 hx729_0 hx730_0 hHeld ⊢; refine pure_ (i := 0) (N := some 50) (v := ?_) (a' := ?_) (mB_ 46 1) rfl rfl (any_of HT_.out (by kernel_rfl)) (fun _ _ _ h => h) (Or.inl ⟨by rfl, ?_⟩) ?_ ?_; rotate_left
                            · intro w'
                              go_simp; with_reducible rfl
                            rotate_left
                            · simp only [Act.put, sT_, sZ_, sS_, i64_w, i32_w]
                              rfl
                            refine pure_ (i := 1) (N := some 51) (v := ?_) (a' := ?_) (mB_ 46 3) rfl rfl (any_of HT_.out (by kernel_rfl)) (fun _ _ _ h => h) (Or.inl ⟨by rfl, ?_⟩) ?_ ?_; rotate_left
                            · intro w'
                              go_simp; with_reducible rfl
                            rotate_left
                            · simp only [Act.put, sT_, sZ_, sS_, i64_w, i32_w]
                              rfl
                            refine pure_ (i := 2) (N := some 52) (v := ?_) (a' := ?_) (mB_ 46 7) rfl rfl (any_of HT_.out (by kernel_rfl)) (fun _ _ _ h => h) (Or.inl ⟨by rfl, ?_⟩) ?_ ?_; rotate_left
                            · intro w'
                              go_simp; with_reducible rfl
                            rotate_left
                            · simp only [Act.put, sT_, sZ_, sS_, i64_w, i32_w]
                              rfl
                            refine pure_ (i := 4) (N := some 54) (v := ?_) (a' := ?_) (mB_ 46 23) rfl rfl (any_of HT_.out (by kernel_rfl)) (fun _ _ _ h => h) (Or.inl ⟨by rfl, ?_⟩) ?_ ?_; rotate_left
                            · intro w'
                              go_simp; with_reducible rfl
                            rotate_left
                            · simp only [Act.put, sT_, sZ_, sS_, i64_w, i32_w]
                              rfl
                            refine pure_ (i := 5) (N := some 55) (v := ?_) (a' := ?_) (mB_ 46 55) rfl rfl (any_of HT_.out (by kernel_rfl)) (fun _ _ _ h => h) (Or.inl ⟨by rfl, ?_⟩) ?_ ?_; rotate_left
                            · intro w'
                              go_simp; with_reducible rfl
                            rotate_left
                            · simp only [Act.put, sT_, sZ_, sS_, i64_w, i32_w]
                              rfl
                            refine pure_ (i := 6) (N := some 56) (v := ?_) (a' := ?_) (mB_ 46 119) rfl rfl (any_of HT_.out (by kernel_rfl)) (fun _ _ _ h => h) (Or.inl ⟨by rfl, ?_⟩) ?_ ?_; rotate_left
                            · intro w'
                              go_simp; with_reducible rfl
                            rotate_left
                            · simp only [Act.put, sT_, sZ_, sS_, i64_w, i32_w]
                              rfl
                            refine take_ (i := 3) (N := some 53) (v := ?_) (a' := ?_) (mB_ 46 127) rfl rfl (take_ofW HT_.out HW_.out (by kernel_rfl)) (fun _ _ _ h => h) (Or.inl ⟨by rfl, ?_⟩) hHeld ?_ ?_; rotate_left
                            · rintro w' ⟨s0, s1, s2, s3⟩
                              go_simp; with_reducible rfl
                            rotate_left
                            · simp only [Act.put, sT_, sZ_, sS_, i64_w, i32_w]
                              rfl
                            refine take_ (i := 7) (N := some 57) (v := ?_) (a' := ?_) (mB_ 46 255) rfl rfl (take_ofW HT_.out HW_.out (by kernel_rfl)) (fun _ _ _ h => h) (Or.inl ⟨by rfl, ?_⟩) hHeld ?_ ?_; rotate_left
                            · rintro w' ⟨s0, s1, s2, s3⟩
                              go_simp; with_reducible rfl
                            rotate_left
                            · simp only [Act.put, sT_, sZ_, sS_, i64_w, i32_w]
                              rfl
                            refine pure_ (i := 8) (N := some 58) (v := ?_) (a' := ?_) (mB_ 46 511) rfl rfl (any_of HT_.out (by kernel_rfl)) (fun _ _ _ h => h) (Or.inl ⟨by rfl, ?_⟩) ?_ ?_; rotate_left
                            · intro w'
                              go_simp; with_reducible rfl
                            rotate_left
                            · simp only [Act.put, sT_, sZ_, sS_, i64_w, i32_w]
                              rfl
                            refine pure_ (i := 9) (N := some 59) (v := ?_) (a' := ?_) (mB_ 46 1023) rfl rfl (any_of HT_.out (by kernel_rfl)) (fun _ _ _ h => h) (Or.inl ⟨by rfl, ?_⟩) ?_ ?_; rotate_left
                            · intro w'
                              go_simp; with_reducible rfl
                            rotate_left
                            · simp only [Act.put, sT_, sZ_, sS_, i64_w, i32_w]
                              rfl
                            refine pure_ (i := 10) (N := some 60) (v := ?_) (a' := ?_) (mB_ 46 2047) rfl rfl (any_of HT_.out (by kernel_rfl)) (fun _ _ _ h => h) (Or.inl ⟨by rfl, ?_⟩) ?_ ?_; rotate_left
                            · intro w'
                              go_simp; with_reducible rfl
                            rotate_left
                            · simp only [Act.put, sT_, sZ_, sS_, i64_w, i32_w]
                              rfl
                            refine pure_ (i := 11) (N := some 61) (v := ?_) (a' := ?_) (mB_ 46 4095) rfl rfl (any_of HT_.out (by kernel_rfl)) (fun _ _ _ h => h) (Or.inl ⟨by rfl, ?_⟩) ?_ ?_; rotate_left
                            · intro w'
                              go_simp; with_reducible rfl
                            rotate_left
                            · simp only [Act.put, sT_, sZ_, sS_, i64_w, i32_w]
                              rfl
                            refine pure_ (i := 12) (N := some 62) (v := ?_) (a' := ?_) (mB_ 46 8191) rfl rfl (any_of HT_.out (by kernel_rfl)) (fun _ _ _ h => h) (Or.inl ⟨by rfl, ?_⟩) ?_ ?_; rotate_left
                            · intro w'
                              go_simp; with_reducible rfl
                            rotate_left
                            · simp only [Act.put, sT_, sZ_, sS_, i64_w, i32_w]
                              rfl
                            refine pure_ (i := 13) (N := some 63) (v := ?_) (a' := ?_) (mB_ 46 16383) rfl rfl (any_of HT_.out (by kernel_rfl)) (fun _ _ _ h => h) (Or.inl ⟨by rfl, ?_⟩) ?_ ?_; rotate_left
                            · intro w'
                              go_simp; with_reducible rfl
                            rotate_left
                            · simp only [Act.put, sT_, sZ_, sS_, i64_w, i32_w]
                              rfl
                            refine pure_ (i := 15) (N := some 65) (v := ?_) (a' := ?_) (mB_ 46 49151) rfl rfl (any_of HT_.out (by kernel_rfl)) (fun _ _ _ h => h) (Or.inl ⟨by rfl, ?_⟩) ?_ ?_; rotate_left
                            · intro w'
                              go_simp; with_reducible rfl
                            rotate_left
                            · simp only [Act.put, sT_, sZ_, sS_, i64_w, i32_w]
                              rfl
                            refine pure_ (i := 16) (N := some 66) (v := ?_) (a' := ?_) (mB_ 46 114687) rfl rfl (any_of HT_.out (by kernel_rfl)) (fun _ _ _ h => h) (Or.inl ⟨by rfl, ?_⟩) ?_ ?_; rotate_left
                            · intro w'
                              go_simp; with_reducible rfl
                            rotate_left
                            · simp only [Act.put, sT_, sZ_, sS_, i64_w, i32_w]
                              rfl
                            refine pure_ (i := 17) (N := some 67) (v := ?_) (a' := ?_) (mB_ 46 245759) rfl rfl (any_of HT_.out (by kernel_rfl)) (fun _ _ _ h => h) (Or.inl ⟨by rfl, ?_⟩) ?_ ?_; rotate_left
                            · intro w'
                              go_simp; with_reducible rfl
                            rotate_left
                            · simp only [Act.put, sT_, sZ_, sS_, i64_w, i32_w]
                              rfl
                            refine take_ (i := 14) (N := some 64) (v := ?_) (a' := ?_) (mB_ 46 262143) rfl rfl (take_ofW HT_.out HW_.out (by kernel_rfl)) (fun _ _ _ h => h) (Or.inl ⟨by rfl, ?_⟩) hHeld ?_ ?_; rotate_left
                            · rintro w' ⟨s0, s1, s2, s3⟩
                              go_simp; with_reducible rfl
                            rotate_left
                            · simp only [Act.put, sT_, sZ_, sS_, i64_w, i32_w]
                              rfl
                            refine take_ (i := 18) (N := some 68) (v := ?_) (a' := ?_) (mB_ 46 524287) rfl rfl (take_ofW HT_.out HW_.out (by kernel_rfl)) (fun _ _ _ h => h) (Or.inl ⟨by rfl, ?_⟩) hHeld ?_ ?_; rotate_left
                            · rintro w' ⟨s0, s1, s2, s3⟩
                              go_simp; with_reducible rfl
                            rotate_left
                            · simp only [Act.put, sT_, sZ_, sS_, i64_w, i32_w]
                              rfl
                            refine pure_ (i := 19) (N := some 69) (v := ?_) (a' := ?_) (mB_ 46 1048575) rfl rfl (any_of HT_.out (by kernel_rfl)) (fun _ _ _ h => h) (Or.inl ⟨by rfl, ?_⟩) ?_ ?_; rotate_left
                            · intro w'
                              go_simp; with_reducible rfl
                            rotate_left
                            · simp only [Act.put, sT_, sZ_, sS_, i64_w, i32_w]
                              rfl
                            refine pure_ (i := 20) (N := some 70) (v := ?_) (a' := ?_) (mB_ 46 2097151) rfl rfl (any_of HT_.out (by kernel_rfl)) (fun _ _ _ h => h) (Or.inl ⟨by rfl, ?_⟩) ?_ ?_; rotate_left
                            · intro w'
                              go_simp; with_reducible rfl
                            rotate_left
                            · simp only [Act.put, sT_, sZ_, sS_, i64_w, i32_w]
                              rfl
                            refine pure_ (i := 21) (N := some 71) (v := ?_) (a' := ?_) (mB_ 46 4194303) rfl rfl (any_of HT_.out (by kernel_rfl)) (fun _ _ _ h => h) (Or.inl ⟨by rfl, ?_⟩) ?_ ?_; rotate_left
                            · intro w'
                              go_simp; with_reducible rfl
                            rotate_left
                            · simp only [Act.put, sT_, sZ_, sS_, i64_w, i32_w]
                              rfl
                            refine pure_ (i := 22) (N := some 72) (v := ?_) (a' := ?_) (mB_ 46 8388607) rfl rfl (any_of HT_.out (by kernel_rfl)) (fun _ _ _ h => h) (Or.inl ⟨by rfl, ?_⟩) ?_ ?_; rotate_left
                            · intro w'
                              go_simp; with_reducible rfl
                            rotate_left
                            · simp only [Act.put, sT_, sZ_, sS_, i64_w, i32_w]
                              rfl
                            refine pure_ (i := 23) (N := some 73) (v := undef) (a' := ?_) (mB_ 46 16777215) rfl rfl (any_of HT_.out (by kernel_rfl)) (fun _ _ _ h => h) (Or.inr ⟨by rfl, rfl⟩) ?_ ?_; rotate_left
                            · simp only [Act.put, sT_, sZ_, sS_, i64_w, i32_w]
                              rfl
                            refine pure_ (i := 24) (N := some 74) (v := undef) (a' := ?_) (mB_ 46 33554431) rfl rfl (any_of HT_.out (by kernel_rfl)) (fun _ _ _ h => h) (Or.inr ⟨by rfl, rfl⟩) ?_ ?_; rotate_left
                            · simp only [Act.put, sT_, sZ_, sS_, i64_w, i32_w]
                              rfl
                            refine pure_ (i := 25) (N := some 75) (v := undef) (a' := ?_) (mB_ 46 67108863) rfl rfl (any_of HT_.out (by kernel_rfl)) (fun _ _ _ h => h) (Or.inr ⟨by rfl, rfl⟩) ?_ ?_; rotate_left
                            · simp only [Act.put, sT_, sZ_, sS_, i64_w, i32_w]
                              rfl
                            refine pure_ (i := 26) (N := some 76) (v := undef) (a' := ?_) (mB_ 46 134217727) rfl rfl (any_of HT_.out (by kernel_rfl)) (fun _ _ _ h => h) (Or.inr ⟨by rfl, rfl⟩) ?_ ?_; rotate_left
                            · simp only [Act.put, sT_, sZ_, sS_, i64_w, i32_w]
                              rfl
                            refine pure_ (i := 27) (N := some 77) (v := undef) (a' := ?_) (mB_ 46 268435455) rfl rfl (any_of HT_.out (by kernel_rfl)) (fun _ _ _ h => h) (Or.inr ⟨by rfl, rfl⟩) ?_ ?_; rotate_left
                            · simp only [Act.put, sT_, sZ_, sS_, i64_w, i32_w]
                              rfl
                            refine pure_ (i := 28) (N := some 78) (v := undef) (a' := ?_) (mB_ 46 536870911) rfl rfl (any_of HT_.out (by kernel_rfl)) (fun _ _ _ h => h) (Or.inr ⟨by rfl, rfl⟩) ?_ ?_; rotate_left
                            · simp only [Act.put, sT_, sZ_, sS_, i64_w, i32_w]
                              rfl
                            refine pure_ (i := 29) (N := some 79) (v := undef) (a' := ?_) (mB_ 46 1073741823) rfl rfl (any_of HT_.out (by kernel_rfl)) (fun _ _ _ h => h) (Or.inr ⟨by rfl, rfl⟩) ?_ ?_; rotate_left
                            · simp only [Act.put, sT_, sZ_, sS_, i64_w, i32_w]
                              rfl
                            refine pure_ (i := 30) (N := some 80) (v := undef) (a' := ?_) (mB_ 46 2147483647) rfl rfl (any_of HT_.out (by kernel_rfl)) (fun _ _ _ h => h) (Or.inr ⟨by rfl, rfl⟩) ?_ ?_; rotate_left
                            · simp only [Act.put, sT_, sZ_, sS_, i64_w, i32_w]
                              rfl
                            refine pure_ (i := 31) (N := some 81) (v := undef) (a' := ?_) (mB_ 46 4294967295) rfl rfl (any_of HT_.out (by kernel_rfl)) (fun _ _ _ h => h) (Or.inr ⟨by rfl, rfl⟩) ?_ ?_; rotate_left
                            · simp only [Act.put, sT_, sZ_, sS_, i64_w, i32_w]
                              rfl
                            refine pure_ (i := 32) (N := some 82) (v := undef) (a' := ?_) (mB_ 46 8589934591) rfl rfl (any_of HT_.out (by kernel_rfl)) (fun _ _ _ h => h) (Or.inr ⟨by rfl, rfl⟩) ?_ ?_; rotate_left
                            · simp only [Act.put, sT_, sZ_, sS_, i64_w, i32_w]
                              rfl
                            refine pure_ (i := 33) (N := some 83) (v := ?_) (a' := ?_) (mB_ 46 17179869183) rfl rfl (any_of HT_.out (by kernel_rfl)) (fun _ _ _ h => h) (Or.inl ⟨by rfl, ?_⟩) ?_ ?_; rotate_left
                            · intro w'
                              go_simp; with_reducible rfl
                            rotate_left
                            · simp only [Act.put, sT_, sZ_, sS_, i64_w, i32_w]
                              rfl
                            refine pure_ (i := 34) (N := some 84) (v := ?_) (a' := ?_) (mB_ 46 34359738367) rfl rfl (any_of HT_.out (by kernel_rfl)) (fun _ _ _ h => h) (Or.inl ⟨by rfl, ?_⟩) ?_ ?_; rotate_left
                            · intro w'
                              go_simp; with_reducible rfl
                            rotate_left
                            · simp only [Act.put, sT_, sZ_, sS_, i64_w, i32_w]
                              rfl
                            refine pure_ (i := 35) (N := some 85) (v := undef) (a' := ?_) (mB_ 46 68719476735) rfl rfl (any_of HT_.out (by kernel_rfl)) (fun _ _ _ h => h) (Or.inr ⟨by rfl, rfl⟩) ?_ ?_; rotate_left
                            · simp only [Act.put, sT_, sZ_, sS_, i64_w, i32_w]
                              rfl
                            refine pure_ (i := 36) (N := some 86) (v := undef) (a' := ?_) (mB_ 46 137438953471) rfl rfl (any_of HT_.out (by kernel_rfl)) (fun _ _ _ h => h) (Or.inr ⟨by rfl, rfl⟩) ?_ ?_; rotate_left
                            · simp only [Act.put, sT_, sZ_, sS_, i64_w, i32_w]
                              rfl
                            refine pure_ (i := 37) (N := some 87) (v := undef) (a' := ?_) (mB_ 46 274877906943) rfl rfl (any_of HT_.out (by kernel_rfl)) (fun _ _ _ h => h) (Or.inr ⟨by rfl, rfl⟩) ?_ ?_; rotate_left
                            · simp only [Act.put, sT_, sZ_, sS_, i64_w, i32_w]
                              rfl
                            refine pure_ (i := 38) (N := some 88) (v := undef) (a' := ?_) (mB_ 46 549755813887) rfl rfl (any_of HT_.out (by kernel_rfl)) (fun _ _ _ h => h) (Or.inr ⟨by rfl, rfl⟩) ?_ ?_; rotate_left
                            · simp only [Act.put, sT_, sZ_, sS_, i64_w, i32_w]
                              rfl
                            refine pure_ (i := 39) (N := some 89) (v := undef) (a' := ?_) (mB_ 46 1099511627775) rfl rfl (any_of HT_.out (by kernel_rfl)) (fun _ _ _ h => h) (Or.inr ⟨by rfl, rfl⟩) ?_ ?_; rotate_left
                            · simp only [Act.put, sT_, sZ_, sS_, i64_w, i32_w]
                              rfl
                            refine pure_ (i := 40) (N := some 90) (v := undef) (a' := ?_) (mB_ 46 2199023255551) rfl rfl (any_of HT_.out (by kernel_rfl)) (fun _ _ _ h => h) (Or.inr ⟨by rfl, rfl⟩) ?_ ?_; rotate_left
                            · simp only [Act.put, sT_, sZ_, sS_, i64_w, i32_w]
                              rfl
                            refine pure_ (i := 41) (N := some 91) (v := undef) (a' := ?_) (mB_ 46 4398046511103) rfl rfl (any_of HT_.out (by kernel_rfl)) (fun _ _ _ h => h) (Or.inr ⟨by rfl, rfl⟩) ?_ ?_; rotate_left
                            · simp only [Act.put, sT_, sZ_, sS_, i64_w, i32_w]
                              rfl
                            refine pure_ (i := 42) (N := some 92) (v := undef) (a' := ?_) (mB_ 46 8796093022207) rfl rfl (any_of HT_.out (by kernel_rfl)) (fun _ _ _ h => h) (Or.inr ⟨by rfl, rfl⟩) ?_ ?_; rotate_left
                            · simp only [Act.put, sT_, sZ_, sS_, i64_w, i32_w]
                              rfl
                            refine pure_ (i := 43) (N := some 93) (v := undef) (a' := ?_) (mB_ 46 17592186044415) rfl rfl (any_of HT_.out (by kernel_rfl)) (fun _ _ _ h => h) (Or.inr ⟨by rfl, rfl⟩) ?_ ?_; rotate_left
                            · simp only [Act.put, sT_, sZ_, sS_, i64_w, i32_w]
                              rfl
                            refine pure_ (i := 44) (N := some 94) (v := undef) (a' := ?_) (mB_ 46 35184372088831) rfl rfl (any_of HT_.out (by kernel_rfl)) (fun _ _ _ h => h) (Or.inr ⟨by rfl, rfl⟩) ?_ ?_; rotate_left
                            · simp only [Act.put, sT_, sZ_, sS_, i64_w, i32_w]
                              rfl
                            refine pure_ (i := 45) (N := some 95) (v := ?_) (a' := ?_) (mB_ 46 70368744177663) rfl rfl (any_of HT_.out (by kernel_rfl)) (fun _ _ _ h => h) (Or.inl ⟨by rfl, ?_⟩) ?_ ?_; rotate_left
                            · intro w'
                              go_simp; with_reducible rfl
                            rotate_left
                            · simp only [Act.put, sT_, sZ_, sS_, i64_w, i32_w]
                              rfl
                            refine done_ (done_of HT_.out (by kernel_rfl)) ?_; try go_wp2
                            go_meet
                            case rel => exact ⟨_, (true), (by first | rfl | (simp; done) | (simp [*]; done)), H', ⟨by have := HJ5.out; have := HK2.out; first | omega | exact nR_ _⟩, ⟨by (try simp only [hl7_2]); (with_reducible repeat (first | apply rA_ | apply rN_ | apply rD_)); exact HO_7.out⟩, ⟨by (try simp only [hl7_2]); (with_reducible repeat (first | refine bN_ ?_ _ | refine bD_ ?_ | refine bA_ ?_ _)); exact BK720.out⟩, ⟨by repeat (first | (with_reducible first | exact HB.out | apply fA_ | apply pB_ | apply fD_ | refine fE_ ?_ GE720.out) | exact HB.out)⟩⟩
                          rw [if_neg c46] at H; have c46b0 : decide (4096 < (ji45)) = false := eF_ c46; clear c46; by_cases c48 : (wrap64 ((rd l1 x47_2) + (rd l2 x47_2))) < (-4096)
                          · rw [if_pos c48] at H
                            have c48b0 : decide ((wrap64 ((rd l1 x47_2) + (rd l2 x47_2))) < (-4096)) = true := eT_ c48; clear c48; have H' := Z_ H; clear H; try go_wp2
                            have n0_ := Z_ (rD_ HO_7.out); have n1_ := Z_ (bD_ BK720.out); have n2_ := Z_ (fD_ HB.out); clear HO_7; clear BK720; clear HB; have HO_7 := n0_; have BK720 := n1_; have HB := n2_; clear n0_ n1_ n2_; have p727 : 0 ≤ (x47_2 : Int) := dT_ (by first | (with_reducible assumption) | assumption); have q727 : x47_2 < (l1.length : Int) := dT_ (by first | (with_reducible assumption) | assumption); obtain ⟨ad727, e727, hx727_0⟩ := Kd.at_int HR1.out x47_2 p727 q727; have hw727_0 := hx727_0; cases e727
                            replace hx727_0 := (HB.out.cell (World.block_lt_of_cell? w _ hx727_0)).trans hx727_0; replace p727 := eq_true p727; replace q727 := eq_true q727; have p728 : 0 ≤ (x47_2 : Int) := dT_ (by first | (with_reducible assumption) | assumption); have q728 : x47_2 < (l2.length : Int) := dT_ (by first | (with_reducible assumption) | assumption); obtain ⟨ad728, e728, hx728_0⟩ := Kd.at_int HR2.out x47_2 p728 q728; have hw728_0 := hx728_0; cases e728
                            replace hx728_0 := (HB.out.cell (World.block_lt_of_cell? w _ hx728_0)).trans hx728_0; replace p728 := eq_true p728; replace q728 := eq_true q728; have p729 : 0 ≤ (x47_2 : Int) := dT_ (by first | (with_reducible assumption) | assumption); have q729 : x47_2 < (l1.length : Int) := dT_ (by first | (with_reducible assumption) | assumption); obtain ⟨ad729, e729, hx729_0⟩ := Kd.at_int HR1.out x47_2 p729 q729; have hw729_0 := hx729_0; obtain rfl : ad727 = ad729 := (by injection e729); replace hx729_0 := (HB.out.cell (World.block_lt_of_cell? w _ hx729_0)).trans hx729_0; replace p729 := eq_true p729; replace q729 := eq_true q729; have p730 : 0 ≤ (x47_2 : Int) := dT_ (by first | (with_reducible assumption) | assumption); have q730 : x47_2 < (l2.length : Int) := dT_ (by first | (with_reducible assumption) | assumption); obtain ⟨ad730, e730, hx730_0⟩ := Kd.at_int HR2.out x47_2 p730 q730; have hw730_0 := hx730_0; obtain rfl : ad728 = ad730 := (by injection e730); replace hx730_0 := (HB.out.cell (World.block_lt_of_cell? w _ hx730_0)).trans hx730_0; replace p730 := eq_true p730; replace q730 := eq_true q730; have p731 : 0 ≤ (x47_2 : Int) := dT_ (by first | (with_reducible assumption) | assumption); have q731 : x47_2 < (l1.length : Int) := dT_ (by first | (with_reducible assumption) | assumption); obtain ⟨ad731, e731, hx731_0⟩ := Kd.at_int HR1.out x47_2 p731 q731; have hw731_0 := hx731_0; obtain rfl : ad727 = ad731 := (by injection e731); replace hx731_0 := (HB.out.cell (World.block_lt_of_cell? w _ hx731_0)).trans hx731_0; replace p731 := eq_true p731; replace q731 := eq_true q731; have p732 : 0 ≤ (x47_2 : Int) := dT_ (by first | (with_reducible assumption) | assumption); have q732 : x47_2 < (l2.length : Int) := dT_ (by first | (with_reducible assumption) | assumption); obtain ⟨ad732, e732, hx732_0⟩ := Kd.at_int HR2.out x47_2 p732 q732; have hw732_0 := hx732_0; obtain rfl : ad728 = ad732 := (by injection e732); replace hx732_0 := (HB.out.cell (World.block_lt_of_cell? w _ hx732_0)).trans hx732_0; replace p732 := eq_true p732; replace q732 := eq_true q732; refine start_ (n := 46) (S := fun w' => w'.cell? (ad727.add (x47_2).toNat) = some (.int .i64 (rd l1 x47_2)) ∧ w'.cell? (ad728.add (x47_2).toNat) = some (.int .i64 (rd l2 x47_2)) ∧ w'.cell? (ad727.add (x47_2).toNat) = some (.int .i64 (rd l1 x47_2)) ∧ w'.cell? (ad728.add (x47_2).toNat) = some (.int .i64 (rd l2 x47_2)) ∧ w'.cell? (ad727.add (x47_2).toNat) = some (.int .i64 (rd l1 x47_2)) ∧ w'.cell? (ad728.add (x47_2).toNat) = some (.int .i64 (rd l2 x47_2))) (ds := []) #[false, false, false, false, false, false, false, false, false, false, false, false, false, false, false, false, false, false, false, false, false, false, false, false, false, false, false, false, false, false, false, false, false, false, false, false, false, false, false, false, false, false, false, false, false, false] (by kernel_rfl) rfl rfl ⟨((HB.out.cell (World.block_lt_of_cell? w _ hw727_0)).trans hw727_0), ((HB.out.cell (World.block_lt_of_cell? w _ hw728_0)).trans hw728_0), ((HB.out.cell (World.block_lt_of_cell? w _ hw729_0)).trans hw729_0), ((HB.out.cell (World.block_lt_of_cell? w _ hw730_0)).trans hw730_0), ((HB.out.cell (World.block_lt_of_cell? w _ hw731_0)).trans hw731_0), ((HB.out.cell (World.block_lt_of_cell? w _ hw732_0)).trans hw732_0)⟩ (fun hHeld => ?_); refine with_tabW snowlinelaw04_DiffsAdded.tab9 snowlinelaw04_DiffsAdded.bits9 (fun HT_ HW_ => ?_); generalize wr.drew = w49 at HO_7 BK720 HB hx727_0 hx728_0 hx729_0 hx730_0 hx731_0 hx732_0 hHeld ⊢; refine pure_ (i := 0) (N := some 50) (v := ?_) (a' := ?_) (mB_ 46 1) rfl rfl (any_of HT_.out (by kernel_rfl)) (fun _ _ _ h => h) (Or.inl ⟨by rfl, ?_⟩) ?_ ?_; rotate_left
                            · intro w'
                              go_simp; with_reducible rfl
                            rotate_left
                            · simp only [Act.put, sT_, sZ_, sS_, i64_w, i32_w]
                              rfl
                            refine pure_ (i := 1) (N := some 51) (v := ?_) (a' := ?_) (mB_ 46 3) rfl rfl (any_of HT_.out (by kernel_rfl)) (fun _ _ _ h => h) (Or.inl ⟨by rfl, ?_⟩) ?_ ?_; rotate_left
                            · intro w'
                              go_simp; with_reducible rfl
                            rotate_left
                            · simp only [Act.put, sT_, sZ_, sS_, i64_w, i32_w]
                              rfl
                            refine pure_ (i := 2) (N := some 52) (v := ?_) (a' := ?_) (mB_ 46 7) rfl rfl (any_of HT_.out (by kernel_rfl)) (fun _ _ _ h => h) (Or.inl ⟨by rfl, ?_⟩) ?_ ?_; rotate_left
                            · intro w'
                              go_simp; with_reducible rfl
                            rotate_left
                            · simp only [Act.put, sT_, sZ_, sS_, i64_w, i32_w]
                              rfl
                            refine pure_ (i := 4) (N := some 54) (v := ?_) (a' := ?_) (mB_ 46 23) rfl rfl (any_of HT_.out (by kernel_rfl)) (fun _ _ _ h => h) (Or.inl ⟨by rfl, ?_⟩) ?_ ?_; rotate_left
                            · intro w'
                              go_simp; with_reducible rfl
                            rotate_left
                            · simp only [Act.put, sT_, sZ_, sS_, i64_w, i32_w]
                              rfl
                            refine pure_ (i := 5) (N := some 55) (v := ?_) (a' := ?_) (mB_ 46 55) rfl rfl (any_of HT_.out (by kernel_rfl)) (fun _ _ _ h => h) (Or.inl ⟨by rfl, ?_⟩) ?_ ?_; rotate_left
                            · intro w'
                              go_simp; with_reducible rfl
                            rotate_left
                            · simp only [Act.put, sT_, sZ_, sS_, i64_w, i32_w]
                              rfl
                            refine pure_ (i := 6) (N := some 56) (v := ?_) (a' := ?_) (mB_ 46 119) rfl rfl (any_of HT_.out (by kernel_rfl)) (fun _ _ _ h => h) (Or.inl ⟨by rfl, ?_⟩) ?_ ?_; rotate_left
                            · intro w'
                              go_simp; with_reducible rfl
                            rotate_left
                            · simp only [Act.put, sT_, sZ_, sS_, i64_w, i32_w]
                              rfl
                            refine take_ (i := 3) (N := some 53) (v := ?_) (a' := ?_) (mB_ 46 127) rfl rfl (take_ofW HT_.out HW_.out (by kernel_rfl)) (fun _ _ _ h => h) (Or.inl ⟨by rfl, ?_⟩) hHeld ?_ ?_; rotate_left
                            · rintro w' ⟨s0, s1, s2, s3, s4, s5⟩
                              go_simp; with_reducible rfl
                            rotate_left
                            · simp only [Act.put, sT_, sZ_, sS_, i64_w, i32_w]
                              rfl
                            refine take_ (i := 7) (N := some 57) (v := ?_) (a' := ?_) (mB_ 46 255) rfl rfl (take_ofW HT_.out HW_.out (by kernel_rfl)) (fun _ _ _ h => h) (Or.inl ⟨by rfl, ?_⟩) hHeld ?_ ?_; rotate_left
                            · rintro w' ⟨s0, s1, s2, s3, s4, s5⟩
                              go_simp; with_reducible rfl
                            rotate_left
                            · simp only [Act.put, sT_, sZ_, sS_, i64_w, i32_w]
                              rfl
                            refine pure_ (i := 8) (N := some 58) (v := ?_) (a' := ?_) (mB_ 46 511) rfl rfl (any_of HT_.out (by kernel_rfl)) (fun _ _ _ h => h) (Or.inl ⟨by rfl, ?_⟩) ?_ ?_; rotate_left
                            · intro w'
                              go_simp; with_reducible rfl
                            rotate_left
                            · simp only [Act.put, sT_, sZ_, sS_, i64_w, i32_w]
                              rfl
                            refine pure_ (i := 9) (N := some 59) (v := ?_) (a' := ?_) (mB_ 46 1023) rfl rfl (any_of HT_.out (by kernel_rfl)) (fun _ _ _ h => h) (Or.inl ⟨by rfl, ?_⟩) ?_ ?_; rotate_left
                            · intro w'
                              go_simp; with_reducible rfl
                            rotate_left
                            · simp only [Act.put, sT_, sZ_, sS_, i64_w, i32_w]
                              rfl
                            refine pure_ (i := 10) (N := some 60) (v := ?_) (a' := ?_) (mB_ 46 2047) rfl rfl (any_of HT_.out (by kernel_rfl)) (fun _ _ _ h => h) (Or.inl ⟨by rfl, ?_⟩) ?_ ?_; rotate_left
                            · intro w'
                              go_simp; with_reducible rfl
                            rotate_left
                            · simp only [Act.put, sT_, sZ_, sS_, i64_w, i32_w]
                              rfl
                            refine pure_ (i := 11) (N := some 61) (v := ?_) (a' := ?_) (mB_ 46 4095) rfl rfl (any_of HT_.out (by kernel_rfl)) (fun _ _ _ h => h) (Or.inl ⟨by rfl, ?_⟩) ?_ ?_; rotate_left
                            · intro w'
                              go_simp; with_reducible rfl
                            rotate_left
                            · simp only [Act.put, sT_, sZ_, sS_, i64_w, i32_w]
                              rfl
                            refine pure_ (i := 12) (N := some 62) (v := ?_) (a' := ?_) (mB_ 46 8191) rfl rfl (any_of HT_.out (by kernel_rfl)) (fun _ _ _ h => h) (Or.inl ⟨by rfl, ?_⟩) ?_ ?_; rotate_left
                            · intro w'
                              go_simp; with_reducible rfl
                            rotate_left
                            · simp only [Act.put, sT_, sZ_, sS_, i64_w, i32_w]
                              rfl
                            refine pure_ (i := 13) (N := some 63) (v := ?_) (a' := ?_) (mB_ 46 16383) rfl rfl (any_of HT_.out (by kernel_rfl)) (fun _ _ _ h => h) (Or.inl ⟨by rfl, ?_⟩) ?_ ?_; rotate_left
                            · intro w'
                              go_simp; with_reducible rfl
                            rotate_left
                            · simp only [Act.put, sT_, sZ_, sS_, i64_w, i32_w]
                              rfl
                            refine pure_ (i := 15) (N := some 65) (v := ?_) (a' := ?_) (mB_ 46 49151) rfl rfl (any_of HT_.out (by kernel_rfl)) (fun _ _ _ h => h) (Or.inl ⟨by rfl, ?_⟩) ?_ ?_; rotate_left
                            · intro w'
                              go_simp; with_reducible rfl
                            rotate_left
                            · simp only [Act.put, sT_, sZ_, sS_, i64_w, i32_w]
                              rfl
                            refine pure_ (i := 16) (N := some 66) (v := ?_) (a' := ?_) (mB_ 46 114687) rfl rfl (any_of HT_.out (by kernel_rfl)) (fun _ _ _ h => h) (Or.inl ⟨by rfl, ?_⟩) ?_ ?_; rotate_left
                            · intro w'
                              go_simp; with_reducible rfl
                            rotate_left
                            · simp only [Act.put, sT_, sZ_, sS_, i64_w, i32_w]
                              rfl
                            refine pure_ (i := 17) (N := some 67) (v := ?_) (a' := ?_) (mB_ 46 245759) rfl rfl (any_of HT_.out (by kernel_rfl)) (fun _ _ _ h => h) (Or.inl ⟨by rfl, ?_⟩) ?_ ?_; rotate_left
                            · intro w'
                              go_simp; with_reducible rfl
                            rotate_left
                            · simp only [Act.put, sT_, sZ_, sS_, i64_w, i32_w]
                              rfl
                            refine take_ (i := 14) (N := some 64) (v := ?_) (a' := ?_) (mB_ 46 262143) rfl rfl (take_ofW HT_.out HW_.out (by kernel_rfl)) (fun _ _ _ h => h) (Or.inl ⟨by rfl, ?_⟩) hHeld ?_ ?_; rotate_left
                            · rintro w' ⟨s0, s1, s2, s3, s4, s5⟩
                              go_simp; with_reducible rfl
                            rotate_left
                            · simp only [Act.put, sT_, sZ_, sS_, i64_w, i32_w]
                              rfl
                            refine take_ (i := 18) (N := some 68) (v := ?_) (a' := ?_) (mB_ 46 524287) rfl rfl (take_ofW HT_.out HW_.out (by kernel_rfl)) (fun _ _ _ h => h) (Or.inl ⟨by rfl, ?_⟩) hHeld ?_ ?_; rotate_left
                            · rintro w' ⟨s0, s1, s2, s3, s4, s5⟩
                              go_simp; with_reducible rfl
                            rotate_left
                            · simp only [Act.put, sT_, sZ_, sS_, i64_w, i32_w]
                              rfl
                            refine pure_ (i := 19) (N := some 69) (v := ?_) (a' := ?_) (mB_ 46 1048575) rfl rfl (any_of HT_.out (by kernel_rfl)) (fun _ _ _ h => h) (Or.inl ⟨by rfl, ?_⟩) ?_ ?_; rotate_left
                            · intro w'
                              go_simp; with_reducible rfl
                            rotate_left
                            · simp only [Act.put, sT_, sZ_, sS_, i64_w, i32_w]
                              rfl
                            refine pure_ (i := 20) (N := some 70) (v := ?_) (a' := ?_) (mB_ 46 2097151) rfl rfl (any_of HT_.out (by kernel_rfl)) (fun _ _ _ h => h) (Or.inl ⟨by rfl, ?_⟩) ?_ ?_; rotate_left
                            · intro w'
                              go_simp; with_reducible rfl
                            rotate_left
                            · simp only [Act.put, sT_, sZ_, sS_, i64_w, i32_w]
                              rfl
                            refine pure_ (i := 21) (N := some 71) (v := ?_) (a' := ?_) (mB_ 46 4194303) rfl rfl (any_of HT_.out (by kernel_rfl)) (fun _ _ _ h => h) (Or.inl ⟨by rfl, ?_⟩) ?_ ?_; rotate_left
                            · intro w'
                              go_simp; with_reducible rfl
                            rotate_left
                            · simp only [Act.put, sT_, sZ_, sS_, i64_w, i32_w]
                              rfl
                            refine pure_ (i := 22) (N := some 72) (v := ?_) (a' := ?_) (mB_ 46 8388607) rfl rfl (any_of HT_.out (by kernel_rfl)) (fun _ _ _ h => h) (Or.inl ⟨by rfl, ?_⟩) ?_ ?_; rotate_left
                            · intro w'
                              go_simp; with_reducible rfl
                            rotate_left
                            · simp only [Act.put, sT_, sZ_, sS_, i64_w, i32_w]
                              rfl
                            refine pure_ (i := 23) (N := some 73) (v := ?_) (a' := ?_) (mB_ 46 16777215) rfl rfl (any_of HT_.out (by kernel_rfl)) (fun _ _ _ h => h) (Or.inl ⟨by rfl, ?_⟩) ?_ ?_; rotate_left
                            · intro w'
                              go_simp; with_reducible rfl
                            rotate_left
                            · simp only [Act.put, sT_, sZ_, sS_, i64_w, i32_w]
                              rfl
                            refine pure_ (i := 24) (N := some 74) (v := ?_) (a' := ?_) (mB_ 46 33554431) rfl rfl (any_of HT_.out (by kernel_rfl)) (fun _ _ _ h => h) (Or.inl ⟨by rfl, ?_⟩) ?_ ?_; rotate_left
                            · intro w'
                              go_simp; with_reducible rfl
                            rotate_left
                            · simp only [Act.put, sT_, sZ_, sS_, i64_w, i32_w]
                              rfl
                            refine pure_ (i := 25) (N := some 75) (v := ?_) (a' := ?_) (mB_ 46 67108863) rfl rfl (any_of HT_.out (by kernel_rfl)) (fun _ _ _ h => h) (Or.inl ⟨by rfl, ?_⟩) ?_ ?_; rotate_left
                            · intro w'
                              go_simp; with_reducible rfl
                            rotate_left
                            · simp only [Act.put, sT_, sZ_, sS_, i64_w, i32_w]
                              rfl
                            refine pure_ (i := 27) (N := some 77) (v := ?_) (a' := ?_) (mB_ 46 201326591) rfl rfl (any_of HT_.out (by kernel_rfl)) (fun _ _ _ h => h) (Or.inl ⟨by rfl, ?_⟩) ?_ ?_; rotate_left
                            · intro w'
                              go_simp; with_reducible rfl
                            rotate_left
                            · simp only [Act.put, sT_, sZ_, sS_, i64_w, i32_w]
                              rfl
                            refine pure_ (i := 28) (N := some 78) (v := ?_) (a' := ?_) (mB_ 46 469762047) rfl rfl (any_of HT_.out (by kernel_rfl)) (fun _ _ _ h => h) (Or.inl ⟨by rfl, ?_⟩) ?_ ?_; rotate_left
                            · intro w'
                              go_simp; with_reducible rfl
                            rotate_left
                            · simp only [Act.put, sT_, sZ_, sS_, i64_w, i32_w]
                              rfl
                            refine pure_ (i := 29) (N := some 79) (v := ?_) (a' := ?_) (mB_ 46 1006632959) rfl rfl (any_of HT_.out (by kernel_rfl)) (fun _ _ _ h => h) (Or.inl ⟨by rfl, ?_⟩) ?_ ?_; rotate_left
                            · intro w'
                              go_simp; with_reducible rfl
                            rotate_left
                            · simp only [Act.put, sT_, sZ_, sS_, i64_w, i32_w]
                              rfl
                            refine take_ (i := 26) (N := some 76) (v := ?_) (a' := ?_) (mB_ 46 1073741823) rfl rfl (take_ofW HT_.out HW_.out (by kernel_rfl)) (fun _ _ _ h => h) (Or.inl ⟨by rfl, ?_⟩) hHeld ?_ ?_; rotate_left
                            · rintro w' ⟨s0, s1, s2, s3, s4, s5⟩
                              go_simp; with_reducible rfl
                            rotate_left
                            · simp only [Act.put, sT_, sZ_, sS_, i64_w, i32_w]
                              rfl
                            refine take_ (i := 30) (N := some 80) (v := ?_) (a' := ?_) (mB_ 46 2147483647) rfl rfl (take_ofW HT_.out HW_.out (by kernel_rfl)) (fun _ _ _ h => h) (Or.inl ⟨by rfl, ?_⟩) hHeld ?_ ?_; rotate_left
                            · rintro w' ⟨s0, s1, s2, s3, s4, s5⟩
                              go_simp; with_reducible rfl
                            rotate_left
                            · simp only [Act.put, sT_, sZ_, sS_, i64_w, i32_w]
                              rfl
                            refine pure_ (i := 31) (N := some 81) (v := ?_) (a' := ?_) (mB_ 46 4294967295) rfl rfl (any_of HT_.out (by kernel_rfl)) (fun _ _ _ h => h) (Or.inl ⟨by rfl, ?_⟩) ?_ ?_; rotate_left
                            · intro w'
                              go_simp; with_reducible rfl
                            rotate_left
                            · simp only [Act.put, sT_, sZ_, sS_, i64_w, i32_w]
                              rfl
                            refine pure_ (i := 32) (N := some 82) (v := ?_) (a' := ?_) (mB_ 46 8589934591) rfl rfl (any_of HT_.out (by kernel_rfl)) (fun _ _ _ h => h) (Or.inl ⟨by rfl, ?_⟩) ?_ ?_; rotate_left
                            · intro w'
                              go_simp; with_reducible rfl
                            rotate_left
                            · simp only [Act.put, sT_, sZ_, sS_, i64_w, i32_w]
                              rfl
                            refine pure_ (i := 33) (N := some 83) (v := ?_) (a' := ?_) (mB_ 46 17179869183) rfl rfl (any_of HT_.out (by kernel_rfl)) (fun _ _ _ h => h) (Or.inl ⟨by rfl, ?_⟩) ?_ ?_; rotate_left
                            · intro w'
                              go_simp; with_reducible rfl
                            rotate_left
                            · simp only [Act.put, sT_, sZ_, sS_, i64_w, i32_w]
                              rfl
                            refine pure_ (i := 34) (N := some 84) (v := ?_) (a' := ?_) (mB_ 46 34359738367) rfl rfl (any_of HT_.out (by kernel_rfl)) (fun _ _ _ h => h) (Or.inl ⟨by rfl, ?_⟩) ?_ ?_; rotate_left
                            · intro w'
                              go_simp; with_reducible rfl
                            rotate_left
                            · simp only [Act.put, sT_, sZ_, sS_, i64_w, i32_w]
                              rfl
                            refine pure_ (i := 35) (N := some 85) (v := undef) (a' := ?_) (mB_ 46 68719476735) rfl rfl (any_of HT_.out (by kernel_rfl)) (fun _ _ _ h => h) (Or.inr ⟨by rfl, rfl⟩) ?_ ?_; rotate_left
                            · simp only [Act.put, sT_, sZ_, sS_, i64_w, i32_w]
                              rfl
                            refine pure_ (i := 36) (N := some 86) (v := undef) (a' := ?_) (mB_ 46 137438953471) rfl rfl (any_of HT_.out (by kernel_rfl)) (fun _ _ _ h => h) (Or.inr ⟨by rfl, rfl⟩) ?_ ?_; rotate_left
                            · simp only [Act.put, sT_, sZ_, sS_, i64_w, i32_w]
                              rfl
                            refine pure_ (i := 37) (N := some 87) (v := undef) (a' := ?_) (mB_ 46 274877906943) rfl rfl (any_of HT_.out (by kernel_rfl)) (fun _ _ _ h => h) (Or.inr ⟨by rfl, rfl⟩) ?_ ?_; rotate_left
                            · simp only [Act.put, sT_, sZ_, sS_, i64_w, i32_w]
                              rfl
                            refine pure_ (i := 38) (N := some 88) (v := undef) (a' := ?_) (mB_ 46 549755813887) rfl rfl (any_of HT_.out (by kernel_rfl)) (fun _ _ _ h => h) (Or.inr ⟨by rfl, rfl⟩) ?_ ?_; rotate_left
                            · simp only [Act.put, sT_, sZ_, sS_, i64_w, i32_w]
                              rfl
                            refine pure_ (i := 39) (N := some 89) (v := undef) (a' := ?_) (mB_ 46 1099511627775) rfl rfl (any_of HT_.out (by kernel_rfl)) (fun _ _ _ h => h) (Or.inr ⟨by rfl, rfl⟩) ?_ ?_; rotate_left
                            · simp only [Act.put, sT_, sZ_, sS_, i64_w, i32_w]
                              rfl
                            refine pure_ (i := 40) (N := some 90) (v := undef) (a' := ?_) (mB_ 46 2199023255551) rfl rfl (any_of HT_.out (by kernel_rfl)) (fun _ _ _ h => h) (Or.inr ⟨by rfl, rfl⟩) ?_ ?_; rotate_left
                            · simp only [Act.put, sT_, sZ_, sS_, i64_w, i32_w]
                              rfl
                            refine pure_ (i := 41) (N := some 91) (v := undef) (a' := ?_) (mB_ 46 4398046511103) rfl rfl (any_of HT_.out (by kernel_rfl)) (fun _ _ _ h => h) (Or.inr ⟨by rfl, rfl⟩) ?_ ?_; rotate_left
                            · simp only [Act.put, sT_, sZ_, sS_, i64_w, i32_w]
                              rfl
                            refine pure_ (i := 42) (N := some 92) (v := undef) (a' := ?_) (mB_ 46 8796093022207) rfl rfl (any_of HT_.out (by kernel_rfl)) (fun _ _ _ h => h) (Or.inr ⟨by rfl, rfl⟩) ?_ ?_; rotate_left
                            · simp only [Act.put, sT_, sZ_, sS_, i64_w, i32_w]
                              rfl
                            refine pure_ (i := 43) (N := some 93) (v := undef) (a' := ?_) (mB_ 46 17592186044415) rfl rfl (any_of HT_.out (by kernel_rfl)) (fun _ _ _ h => h) (Or.inr ⟨by rfl, rfl⟩) ?_ ?_; rotate_left
                            · simp only [Act.put, sT_, sZ_, sS_, i64_w, i32_w]
                              rfl
                            refine pure_ (i := 44) (N := some 94) (v := undef) (a' := ?_) (mB_ 46 35184372088831) rfl rfl (any_of HT_.out (by kernel_rfl)) (fun _ _ _ h => h) (Or.inr ⟨by rfl, rfl⟩) ?_ ?_; rotate_left
                            · simp only [Act.put, sT_, sZ_, sS_, i64_w, i32_w]
                              rfl
                            refine pure_ (i := 45) (N := some 95) (v := ?_) (a' := ?_) (mB_ 46 70368744177663) rfl rfl (any_of HT_.out (by kernel_rfl)) (fun _ _ _ h => h) (Or.inl ⟨by rfl, ?_⟩) ?_ ?_; rotate_left
                            · intro w'
                              go_simp; with_reducible rfl
                            rotate_left
                            · simp only [Act.put, sT_, sZ_, sS_, i64_w, i32_w]
                              rfl
                            refine done_ (done_of HT_.out (by kernel_rfl)) ?_; try go_wp2
                            go_meet
                            case rel => exact ⟨_, (true), (by first | rfl | (simp; done) | (simp [*]; done)), H', ⟨by have := HJ5.out; have := HK2.out; first | omega | exact nR_ _⟩, ⟨by (try simp only [hl7_2]); (with_reducible repeat (first | apply rA_ | apply rN_ | apply rD_)); exact HO_7.out⟩, ⟨by (try simp only [hl7_2]); (with_reducible repeat (first | refine bN_ ?_ _ | refine bD_ ?_ | refine bA_ ?_ _)); exact BK720.out⟩, ⟨by repeat (first | (with_reducible first | exact HB.out | apply fA_ | apply pB_ | apply fD_ | refine fE_ ?_ GE720.out) | exact HB.out)⟩⟩
                          rw [if_neg c48] at H; have c48b0 : decide ((wrap64 ((rd l1 x47_2) + (rd l2 x47_2))) < (-4096)) = false := eF_ c48; clear c48; have H' := Z_ H; clear H; try go_wp2
                          have n0_ := Z_ (rD_ HO_7.out); have n1_ := Z_ (bD_ BK720.out); have n2_ := Z_ (fD_ HB.out); clear HO_7; clear BK720; clear HB; have HO_7 := n0_; have BK720 := n1_; have HB := n2_; clear n0_ n1_ n2_; have p727 : 0 ≤ (x47_2 : Int) := dT_ (by first | (with_reducible assumption) | assumption); have q727 : x47_2 < (l1.length : Int) := dT_ (by first | (with_reducible assumption) | assumption); obtain ⟨ad727, e727, hx727_0⟩ := Kd.at_int HR1.out x47_2 p727 q727; have hw727_0 := hx727_0; cases e727
                          replace hx727_0 := (HB.out.cell (World.block_lt_of_cell? w _ hx727_0)).trans hx727_0; replace p727 := eq_true p727; replace q727 := eq_true q727; have p728 : 0 ≤ (x47_2 : Int) := dT_ (by first | (with_reducible assumption) | assumption); have q728 : x47_2 < (l2.length : Int) := dT_ (by first | (with_reducible assumption) | assumption); obtain ⟨ad728, e728, hx728_0⟩ := Kd.at_int HR2.out x47_2 p728 q728; have hw728_0 := hx728_0; cases e728
                          replace hx728_0 := (HB.out.cell (World.block_lt_of_cell? w _ hx728_0)).trans hx728_0; replace p728 := eq_true p728; replace q728 := eq_true q728; have p729 : 0 ≤ (x47_2 : Int) := dT_ (by first | (with_reducible assumption) | assumption); have q729 : x47_2 < (l1.length : Int) := dT_ (by first | (with_reducible assumption) | assumption); obtain ⟨ad729, e729, hx729_0⟩ := Kd.at_int HR1.out x47_2 p729 q729; have hw729_0 := hx729_0; obtain rfl : ad727 = ad729 := (by injection e729); replace hx729_0 := (HB.out.cell (World.block_lt_of_cell? w _ hx729_0)).trans hx729_0; replace p729 := eq_true p729; replace q729 := eq_true q729; have p730 : 0 ≤ (x47_2 : Int) := dT_ (by first | (with_reducible assumption) | assumption); have q730 : x47_2 < (l2.length : Int) := dT_ (by first | (with_reducible assumption) | assumption); obtain ⟨ad730, e730, hx730_0⟩ := Kd.at_int HR2.out x47_2 p730 q730; have hw730_0 := hx730_0; obtain rfl : ad728 = ad730 := (by injection e730); replace hx730_0 := (HB.out.cell (World.block_lt_of_cell? w _ hx730_0)).trans hx730_0; replace p730 := eq_true p730; replace q730 := eq_true q730; have p731 : 0 ≤ (x47_2 : Int) := dT_ (by first | (with_reducible assumption) | assumption); have q731 : x47_2 < (l1.length : Int) := dT_ (by first | (with_reducible assumption) | assumption); obtain ⟨ad731, e731, hx731_0⟩ := Kd.at_int HR1.out x47_2 p731 q731; have hw731_0 := hx731_0; obtain rfl : ad727 = ad731 := (by injection e731); replace hx731_0 := (HB.out.cell (World.block_lt_of_cell? w _ hx731_0)).trans hx731_0; replace p731 := eq_true p731; replace q731 := eq_true q731; have p732 : 0 ≤ (x47_2 : Int) := dT_ (by first | (with_reducible assumption) | assumption); have q732 : x47_2 < (l2.length : Int) := dT_ (by first | (with_reducible assumption) | assumption); obtain ⟨ad732, e732, hx732_0⟩ := Kd.at_int HR2.out x47_2 p732 q732; have hw732_0 := hx732_0; obtain rfl : ad728 = ad732 := (by injection e732); replace hx732_0 := (HB.out.cell (World.block_lt_of_cell? w _ hx732_0)).trans hx732_0; replace p732 := eq_true p732; replace q732 := eq_true q732; have p733 : 0 ≤ (x47_2 : Int) := dT_ (by first | (with_reducible assumption) | assumption); have q733 : x47_2 < (l1.length : Int) := dT_ (by first | (with_reducible assumption) | assumption); obtain ⟨ad733, e733, hx733_0⟩ := Kd.at_int HR1.out x47_2 p733 q733; have hw733_0 := hx733_0; obtain rfl : ad727 = ad733 := (by injection e733); replace hx733_0 := (HB.out.cell (World.block_lt_of_cell? w _ hx733_0)).trans hx733_0; replace p733 := eq_true p733; replace q733 := eq_true q733; have p734 : 0 ≤ (x47_2 : Int) := dT_ (by first | (with_reducible assumption) | assumption); have q734 : x47_2 < (l2.length : Int) := dT_ (by first | (with_reducible assumption) | assumption); obtain ⟨ad734, e734, hx734_0⟩ := Kd.at_int HR2.out x47_2 p734 q734; have hw734_0 := hx734_0; obtain rfl : ad728 = ad734 := (by injection e734); replace hx734_0 := (HB.out.cell (World.block_lt_of_cell? w _ hx734_0)).trans hx734_0; replace p734 := eq_true p734; replace q734 := eq_true q734; refine start_ (n := 46) (S := fun w' => w'.cell? (ad727.add (x47_2).toNat) = some (.int .i64 (rd l1 x47_2)) ∧ w'.cell? (ad728.add (x47_2).toNat) = some (.int .i64 (rd l2 x47_2)) ∧ w'.cell? (ad727.add (x47_2).toNat) = some (.int .i64 (rd l1 x47_2)) ∧ w'.cell? (ad728.add (x47_2).toNat) = some (.int .i64 (rd l2 x47_2)) ∧ w'.cell? (ad727.add (x47_2).toNat) = some (.int .i64 (rd l1 x47_2)) ∧ w'.cell? (ad728.add (x47_2).toNat) = some (.int .i64 (rd l2 x47_2)) ∧ w'.cell? (ad727.add (x47_2).toNat) = some (.int .i64 (rd l1 x47_2)) ∧ w'.cell? (ad728.add (x47_2).toNat) = some (.int .i64 (rd l2 x47_2))) (ds := []) #[false, false, false, false, false, false, false, false, false, false, false, false, false, false, false, false, false, false, false, false, false, false, false, false, false, false, false, false, false, false, false, false, false, false, false, false, false, false, false, false, false, false, false, false, false, false] (by kernel_rfl) rfl rfl ⟨((HB.out.cell (World.block_lt_of_cell? w _ hw727_0)).trans hw727_0), ((HB.out.cell (World.block_lt_of_cell? w _ hw728_0)).trans hw728_0), ((HB.out.cell (World.block_lt_of_cell? w _ hw729_0)).trans hw729_0), ((HB.out.cell (World.block_lt_of_cell? w _ hw730_0)).trans hw730_0), ((HB.out.cell (World.block_lt_of_cell? w _ hw731_0)).trans hw731_0), ((HB.out.cell (World.block_lt_of_cell? w _ hw732_0)).trans hw732_0), ((HB.out.cell (World.block_lt_of_cell? w _ hw733_0)).trans hw733_0), ((HB.out.cell (World.block_lt_of_cell? w _ hw734_0)).trans hw734_0)⟩ (fun hHeld => ?_); refine with_tabW snowlinelaw04_DiffsAdded.tab9 snowlinelaw04_DiffsAdded.bits9 (fun HT_ HW_ => ?_); generalize wr.drew = w50 at HO_7 BK720 HB hx727_0 hx728_0 hx729_0 hx730_0 hx731_0 hx732_0 hx733_0 hx734_0 hHeld ⊢; refine pure_ (i := 0) (N := some 50) (v := ?_) (a' := ?_) (mB_ 46 1) rfl rfl (any_of HT_.out (by kernel_rfl)) (fun _ _ _ h => h) (Or.inl ⟨by rfl, ?_⟩) ?_ ?_; rotate_left
                          · intro w'
                            go_simp; with_reducible rfl
                          rotate_left
                          · simp only [Act.put, sT_, sZ_, sS_, i64_w, i32_w]
                            rfl
                          refine pure_ (i := 1) (N := some 51) (v := ?_) (a' := ?_) (mB_ 46 3) rfl rfl (any_of HT_.out (by kernel_rfl)) (fun _ _ _ h => h) (Or.inl ⟨by rfl, ?_⟩) ?_ ?_; rotate_left
                          · intro w'
                            go_simp; with_reducible rfl
                          rotate_left
                          · simp only [Act.put, sT_, sZ_, sS_, i64_w, i32_w]
                            rfl
                          refine pure_ (i := 2) (N := some 52) (v := ?_) (a' := ?_) (mB_ 46 7) rfl rfl (any_of HT_.out (by kernel_rfl)) (fun _ _ _ h => h) (Or.inl ⟨by rfl, ?_⟩) ?_ ?_; rotate_left
                          · intro w'
                            go_simp; with_reducible rfl
                          rotate_left
                          · simp only [Act.put, sT_, sZ_, sS_, i64_w, i32_w]
                            rfl
                          refine pure_ (i := 4) (N := some 54) (v := ?_) (a' := ?_) (mB_ 46 23) rfl rfl (any_of HT_.out (by kernel_rfl)) (fun _ _ _ h => h) (Or.inl ⟨by rfl, ?_⟩) ?_ ?_; rotate_left
                          · intro w'
                            go_simp; with_reducible rfl
                          rotate_left
                          · simp only [Act.put, sT_, sZ_, sS_, i64_w, i32_w]
                            rfl
                          refine pure_ (i := 5) (N := some 55) (v := ?_) (a' := ?_) (mB_ 46 55) rfl rfl (any_of HT_.out (by kernel_rfl)) (fun _ _ _ h => h) (Or.inl ⟨by rfl, ?_⟩) ?_ ?_; rotate_left
                          · intro w'
                            go_simp; with_reducible rfl
                          rotate_left
                          · simp only [Act.put, sT_, sZ_, sS_, i64_w, i32_w]
                            rfl
                          refine pure_ (i := 6) (N := some 56) (v := ?_) (a' := ?_) (mB_ 46 119) rfl rfl (any_of HT_.out (by kernel_rfl)) (fun _ _ _ h => h) (Or.inl ⟨by rfl, ?_⟩) ?_ ?_; rotate_left
                          · intro w'
                            go_simp; with_reducible rfl
                          rotate_left
                          · simp only [Act.put, sT_, sZ_, sS_, i64_w, i32_w]
                            rfl
                          refine take_ (i := 3) (N := some 53) (v := ?_) (a' := ?_) (mB_ 46 127) rfl rfl (take_ofW HT_.out HW_.out (by kernel_rfl)) (fun _ _ _ h => h) (Or.inl ⟨by rfl, ?_⟩) hHeld ?_ ?_; rotate_left
                          · rintro w' ⟨s0, s1, s2, s3, s4, s5, s6, s7⟩
                            go_simp; with_reducible rfl
                          rotate_left
                          · simp only [Act.put, sT_, sZ_, sS_, i64_w, i32_w]
                            rfl
                          refine take_ (i := 7) (N := some 57) (v := ?_) (a' := ?_) (mB_ 46 255) rfl rfl (take_ofW HT_.out HW_.out (by kernel_rfl)) (fun _ _ _ h => h) (Or.inl ⟨by rfl, ?_⟩) hHeld ?_ ?_; rotate_left
                          · rintro w' ⟨s0, s1, s2, s3, s4, s5, s6, s7⟩
                            go_simp; with_reducible rfl
                          rotate_left
                          · simp only [Act.put, sT_, sZ_, sS_, i64_w, i32_w]
                            rfl
                          refine pure_ (i := 8) (N := some 58) (v := ?_) (a' := ?_) (mB_ 46 511) rfl rfl (any_of HT_.out (by kernel_rfl)) (fun _ _ _ h => h) (Or.inl ⟨by rfl, ?_⟩) ?_ ?_; rotate_left
                          · intro w'
                            go_simp; with_reducible rfl
                          rotate_left
                          · simp only [Act.put, sT_, sZ_, sS_, i64_w, i32_w]
                            rfl
                          refine pure_ (i := 9) (N := some 59) (v := ?_) (a' := ?_) (mB_ 46 1023) rfl rfl (any_of HT_.out (by kernel_rfl)) (fun _ _ _ h => h) (Or.inl ⟨by rfl, ?_⟩) ?_ ?_; rotate_left
                          · intro w'
                            go_simp; with_reducible rfl
                          rotate_left
                          · simp only [Act.put, sT_, sZ_, sS_, i64_w, i32_w]
                            rfl
                          refine pure_ (i := 10) (N := some 60) (v := ?_) (a' := ?_) (mB_ 46 2047) rfl rfl (any_of HT_.out (by kernel_rfl)) (fun _ _ _ h => h) (Or.inl ⟨by rfl, ?_⟩) ?_ ?_; rotate_left
                          · intro w'
                            go_simp; with_reducible rfl
                          rotate_left
                          · simp only [Act.put, sT_, sZ_, sS_, i64_w, i32_w]
                            rfl
                          refine pure_ (i := 11) (N := some 61) (v := ?_) (a' := ?_) (mB_ 46 4095) rfl rfl (any_of HT_.out (by kernel_rfl)) (fun _ _ _ h => h) (Or.inl ⟨by rfl, ?_⟩) ?_ ?_; rotate_left
                          · intro w'
                            go_simp; with_reducible rfl
                          rotate_left
                          · simp only [Act.put, sT_, sZ_, sS_, i64_w, i32_w]
                            rfl
                          refine pure_ (i := 12) (N := some 62) (v := ?_) (a' := ?_) (mB_ 46 8191) rfl rfl (any_of HT_.out (by kernel_rfl)) (fun _ _ _ h => h) (Or.inl ⟨by rfl, ?_⟩) ?_ ?_; rotate_left
                          · intro w'
                            go_simp; with_reducible rfl
                          rotate_left
                          · simp only [Act.put, sT_, sZ_, sS_, i64_w, i32_w]
                            rfl
                          refine pure_ (i := 13) (N := some 63) (v := ?_) (a' := ?_) (mB_ 46 16383) rfl rfl (any_of HT_.out (by kernel_rfl)) (fun _ _ _ h => h) (Or.inl ⟨by rfl, ?_⟩) ?_ ?_; rotate_left
                          · intro w'
                            go_simp; with_reducible rfl
                          rotate_left
                          · simp only [Act.put, sT_, sZ_, sS_, i64_w, i32_w]
                            rfl
                          refine pure_ (i := 15) (N := some 65) (v := ?_) (a' := ?_) (mB_ 46 49151) rfl rfl (any_of HT_.out (by kernel_rfl)) (fun _ _ _ h => h) (Or.inl ⟨by rfl, ?_⟩) ?_ ?_; rotate_left
                          · intro w'
                            go_simp; with_reducible rfl
                          rotate_left
                          · simp only [Act.put, sT_, sZ_, sS_, i64_w, i32_w]
                            rfl
                          refine pure_ (i := 16) (N := some 66) (v := ?_) (a' := ?_) (mB_ 46 114687) rfl rfl (any_of HT_.out (by kernel_rfl)) (fun _ _ _ h => h) (Or.inl ⟨by rfl, ?_⟩) ?_ ?_; rotate_left
                          · intro w'
                            go_simp; with_reducible rfl
                          rotate_left
                          · simp only [Act.put, sT_, sZ_, sS_, i64_w, i32_w]
                            rfl
                          refine pure_ (i := 17) (N := some 67) (v := ?_) (a' := ?_) (mB_ 46 245759) rfl rfl (any_of HT_.out (by kernel_rfl)) (fun _ _ _ h => h) (Or.inl ⟨by rfl, ?_⟩) ?_ ?_; rotate_left
                          · intro w'
                            go_simp; with_reducible rfl
                          rotate_left
                          · simp only [Act.put, sT_, sZ_, sS_, i64_w, i32_w]
                            rfl
                          refine take_ (i := 14) (N := some 64) (v := ?_) (a' := ?_) (mB_ 46 262143) rfl rfl (take_ofW HT_.out HW_.out (by kernel_rfl)) (fun _ _ _ h => h) (Or.inl ⟨by rfl, ?_⟩) hHeld ?_ ?_; rotate_left
                          · rintro w' ⟨s0, s1, s2, s3, s4, s5, s6, s7⟩
                            go_simp; with_reducible rfl
                          rotate_left
                          · simp only [Act.put, sT_, sZ_, sS_, i64_w, i32_w]
                            rfl
                          refine take_ (i := 18) (N := some 68) (v := ?_) (a' := ?_) (mB_ 46 524287) rfl rfl (take_ofW HT_.out HW_.out (by kernel_rfl)) (fun _ _ _ h => h) (Or.inl ⟨by rfl, ?_⟩) hHeld ?_ ?_; rotate_left
                          · rintro w' ⟨s0, s1, s2, s3, s4, s5, s6, s7⟩
                            go_simp; with_reducible rfl
                          rotate_left
                          · simp only [Act.put, sT_, sZ_, sS_, i64_w, i32_w]
                            rfl
                          refine pure_ (i := 19) (N := some 69) (v := ?_) (a' := ?_) (mB_ 46 1048575) rfl rfl (any_of HT_.out (by kernel_rfl)) (fun _ _ _ h => h) (Or.inl ⟨by rfl, ?_⟩) ?_ ?_; rotate_left
                          · intro w'
                            go_simp; with_reducible rfl
                          rotate_left
                          · simp only [Act.put, sT_, sZ_, sS_, i64_w, i32_w]
                            rfl
                          refine pure_ (i := 20) (N := some 70) (v := ?_) (a' := ?_) (mB_ 46 2097151) rfl rfl (any_of HT_.out (by kernel_rfl)) (fun _ _ _ h => h) (Or.inl ⟨by rfl, ?_⟩) ?_ ?_; rotate_left
                          · intro w'
                            go_simp; with_reducible rfl
                          rotate_left
                          · simp only [Act.put, sT_, sZ_, sS_, i64_w, i32_w]
                            rfl
                          refine pure_ (i := 21) (N := some 71) (v := ?_) (a' := ?_) (mB_ 46 4194303) rfl rfl (any_of HT_.out (by kernel_rfl)) (fun _ _ _ h => h) (Or.inl ⟨by rfl, ?_⟩) ?_ ?_; rotate_left
                          · intro w'
                            go_simp; with_reducible rfl
                          rotate_left
                          · simp only [Act.put, sT_, sZ_, sS_, i64_w, i32_w]
                            rfl
                          refine pure_ (i := 22) (N := some 72) (v := ?_) (a' := ?_) (mB_ 46 8388607) rfl rfl (any_of HT_.out (by kernel_rfl)) (fun _ _ _ h => h) (Or.inl ⟨by rfl, ?_⟩) ?_ ?_; rotate_left
                          · intro w'
                            go_simp; with_reducible rfl
                          rotate_left
                          · simp only [Act.put, sT_, sZ_, sS_, i64_w, i32_w]
                            rfl
                          refine pure_ (i := 23) (N := some 73) (v := ?_) (a' := ?_) (mB_ 46 16777215) rfl rfl (any_of HT_.out (by kernel_rfl)) (fun _ _ _ h => h) (Or.inl ⟨by rfl, ?_⟩) ?_ ?_; rotate_left
                          · intro w'
                            go_simp; with_reducible rfl
                          rotate_left
                          · simp only [Act.put, sT_, sZ_, sS_, i64_w, i32_w]
                            rfl
                          refine pure_ (i := 24) (N := some 74) (v := ?_) (a' := ?_) (mB_ 46 33554431) rfl rfl (any_of HT_.out (by kernel_rfl)) (fun _ _ _ h => h) (Or.inl ⟨by rfl, ?_⟩) ?_ ?_; rotate_left
                          · intro w'
                            go_simp; with_reducible rfl
                          rotate_left
                          · simp only [Act.put, sT_, sZ_, sS_, i64_w, i32_w]
                            rfl
                          refine pure_ (i := 25) (N := some 75) (v := ?_) (a' := ?_) (mB_ 46 67108863) rfl rfl (any_of HT_.out (by kernel_rfl)) (fun _ _ _ h => h) (Or.inl ⟨by rfl, ?_⟩) ?_ ?_; rotate_left
                          · intro w'
                            go_simp; with_reducible rfl
                          rotate_left
                          · simp only [Act.put, sT_, sZ_, sS_, i64_w, i32_w]
                            rfl
                          refine pure_ (i := 27) (N := some 77) (v := ?_) (a' := ?_) (mB_ 46 201326591) rfl rfl (any_of HT_.out (by kernel_rfl)) (fun _ _ _ h => h) (Or.inl ⟨by rfl, ?_⟩) ?_ ?_; rotate_left
                          · intro w'
                            go_simp; with_reducible rfl
                          rotate_left
                          · simp only [Act.put, sT_, sZ_, sS_, i64_w, i32_w]
                            rfl
                          refine pure_ (i := 28) (N := some 78) (v := ?_) (a' := ?_) (mB_ 46 469762047) rfl rfl (any_of HT_.out (by kernel_rfl)) (fun _ _ _ h => h) (Or.inl ⟨by rfl, ?_⟩) ?_ ?_; rotate_left
                          · intro w'
                            go_simp; with_reducible rfl
                          rotate_left
                          · simp only [Act.put, sT_, sZ_, sS_, i64_w, i32_w]
                            rfl
                          refine pure_ (i := 29) (N := some 79) (v := ?_) (a' := ?_) (mB_ 46 1006632959) rfl rfl (any_of HT_.out (by kernel_rfl)) (fun _ _ _ h => h) (Or.inl ⟨by rfl, ?_⟩) ?_ ?_; rotate_left
                          · intro w'
                            go_simp; with_reducible rfl
                          rotate_left
                          · simp only [Act.put, sT_, sZ_, sS_, i64_w, i32_w]
                            rfl
                          refine take_ (i := 26) (N := some 76) (v := ?_) (a' := ?_) (mB_ 46 1073741823) rfl rfl (take_ofW HT_.out HW_.out (by kernel_rfl)) (fun _ _ _ h => h) (Or.inl ⟨by rfl, ?_⟩) hHeld ?_ ?_; rotate_left
                          · rintro w' ⟨s0, s1, s2, s3, s4, s5, s6, s7⟩
                            go_simp; with_reducible rfl
                          rotate_left
                          · simp only [Act.put, sT_, sZ_, sS_, i64_w, i32_w]
                            rfl
                          refine take_ (i := 30) (N := some 80) (v := ?_) (a' := ?_) (mB_ 46 2147483647) rfl rfl (take_ofW HT_.out HW_.out (by kernel_rfl)) (fun _ _ _ h => h) (Or.inl ⟨by rfl, ?_⟩) hHeld ?_ ?_; rotate_left
                          · rintro w' ⟨s0, s1, s2, s3, s4, s5, s6, s7⟩
                            go_simp; with_reducible rfl
                          rotate_left
                          · simp only [Act.put, sT_, sZ_, sS_, i64_w, i32_w]
                            rfl
                          refine pure_ (i := 31) (N := some 81) (v := ?_) (a' := ?_) (mB_ 46 4294967295) rfl rfl (any_of HT_.out (by kernel_rfl)) (fun _ _ _ h => h) (Or.inl ⟨by rfl, ?_⟩) ?_ ?_; rotate_left
                          · intro w'
                            go_simp; with_reducible rfl
                          rotate_left
                          · simp only [Act.put, sT_, sZ_, sS_, i64_w, i32_w]
                            rfl
                          refine pure_ (i := 32) (N := some 82) (v := ?_) (a' := ?_) (mB_ 46 8589934591) rfl rfl (any_of HT_.out (by kernel_rfl)) (fun _ _ _ h => h) (Or.inl ⟨by rfl, ?_⟩) ?_ ?_; rotate_left
                          · intro w'
                            go_simp; with_reducible rfl
                          rotate_left
                          · simp only [Act.put, sT_, sZ_, sS_, i64_w, i32_w]
                            rfl
                          refine pure_ (i := 33) (N := some 83) (v := ?_) (a' := ?_) (mB_ 46 17179869183) rfl rfl (any_of HT_.out (by kernel_rfl)) (fun _ _ _ h => h) (Or.inl ⟨by rfl, ?_⟩) ?_ ?_; rotate_left
                          · intro w'
                            go_simp; with_reducible rfl
                          rotate_left
                          · simp only [Act.put, sT_, sZ_, sS_, i64_w, i32_w]
                            rfl
                          refine pure_ (i := 34) (N := some 84) (v := ?_) (a' := ?_) (mB_ 46 34359738367) rfl rfl (any_of HT_.out (by kernel_rfl)) (fun _ _ _ h => h) (Or.inl ⟨by rfl, ?_⟩) ?_ ?_; rotate_left
                          · intro w'
                            go_simp; with_reducible rfl
                          rotate_left
                          · simp only [Act.put, sT_, sZ_, sS_, i64_w, i32_w]
                            rfl
                          refine pure_ (i := 35) (N := some 85) (v := ?_) (a' := ?_) (mB_ 46 68719476735) rfl rfl (any_of HT_.out (by kernel_rfl)) (fun _ _ _ h => h) (Or.inl ⟨by rfl, ?_⟩) ?_ ?_; rotate_left
                          · intro w'
                            go_simp; with_reducible rfl
                          rotate_left
                          · simp only [Act.put, sT_, sZ_, sS_, i64_w, i32_w]
                            rfl
                          refine pure_ (i := 36) (N := some 86) (v := ?_) (a' := ?_) (mB_ 46 137438953471) rfl rfl (any_of HT_.out (by kernel_rfl)) (fun _ _ _ h => h) (Or.inl ⟨by rfl, ?_⟩) ?_ ?_; rotate_left
                          · intro w'
                            go_simp; with_reducible rfl
                          rotate_left
                          · simp only [Act.put, sT_, sZ_, sS_, i64_w, i32_w]
                            rfl
                          refine pure_ (i := 37) (N := some 87) (v := ?_) (a' := ?_) (mB_ 46 274877906943) rfl rfl (any_of HT_.out (by kernel_rfl)) (fun _ _ _ h => h) (Or.inl ⟨by rfl, ?_⟩) ?_ ?_; rotate_left
                          · intro w'
                            go_simp; with_reducible rfl
                          rotate_left
                          · simp only [Act.put, sT_, sZ_, sS_, i64_w, i32_w]
                            rfl
                          refine pure_ (i := 39) (N := some 89) (v := ?_) (a' := ?_) (mB_ 46 824633720831) rfl rfl (any_of HT_.out (by kernel_rfl)) (fun _ _ _ h => h) (Or.inl ⟨by rfl, ?_⟩) ?_ ?_; rotate_left
                          · intro w'
                            go_simp; with_reducible rfl
                          rotate_left
                          · simp only [Act.put, sT_, sZ_, sS_, i64_w, i32_w]
                            rfl
                          refine pure_ (i := 40) (N := some 90) (v := ?_) (a' := ?_) (mB_ 46 1924145348607) rfl rfl (any_of HT_.out (by kernel_rfl)) (fun _ _ _ h => h) (Or.inl ⟨by rfl, ?_⟩) ?_ ?_; rotate_left
                          · intro w'
                            go_simp; with_reducible rfl
                          rotate_left
                          · simp only [Act.put, sT_, sZ_, sS_, i64_w, i32_w]
                            rfl
                          refine pure_ (i := 41) (N := some 91) (v := ?_) (a' := ?_) (mB_ 46 4123168604159) rfl rfl (any_of HT_.out (by kernel_rfl)) (fun _ _ _ h => h) (Or.inl ⟨by rfl, ?_⟩) ?_ ?_; rotate_left
                          · intro w'
                            go_simp; with_reducible rfl
                          rotate_left
                          · simp only [Act.put, sT_, sZ_, sS_, i64_w, i32_w]
                            rfl
                          refine take_ (i := 38) (N := some 88) (v := ?_) (a' := ?_) (mB_ 46 4398046511103) rfl rfl (take_ofW HT_.out HW_.out (by kernel_rfl)) (fun _ _ _ h => h) (Or.inl ⟨by rfl, ?_⟩) hHeld ?_ ?_; rotate_left
                          · rintro w' ⟨s0, s1, s2, s3, s4, s5, s6, s7⟩
                            go_simp; with_reducible rfl
                          rotate_left
                          · simp only [Act.put, sT_, sZ_, sS_, i64_w, i32_w]
                            rfl
                          refine take_ (i := 42) (N := some 92) (v := ?_) (a' := ?_) (mB_ 46 8796093022207) rfl rfl (take_ofW HT_.out HW_.out (by kernel_rfl)) (fun _ _ _ h => h) (Or.inl ⟨by rfl, ?_⟩) hHeld ?_ ?_; rotate_left
                          · rintro w' ⟨s0, s1, s2, s3, s4, s5, s6, s7⟩
                            go_simp; with_reducible rfl
                          rotate_left
                          · simp only [Act.put, sT_, sZ_, sS_, i64_w, i32_w]
                            rfl
                          refine pure_ (i := 43) (N := some 93) (v := ?_) (a' := ?_) (mB_ 46 17592186044415) rfl rfl (any_of HT_.out (by kernel_rfl)) (fun _ _ _ h => h) (Or.inl ⟨by rfl, ?_⟩) ?_ ?_; rotate_left
                          · intro w'
                            go_simp; with_reducible rfl
                          rotate_left
                          · simp only [Act.put, sT_, sZ_, sS_, i64_w, i32_w]
                            rfl
                          refine pure_ (i := 44) (N := some 94) (v := ?_) (a' := ?_) (mB_ 46 35184372088831) rfl rfl (any_of HT_.out (by kernel_rfl)) (fun _ _ _ h => h) (Or.inl ⟨by rfl, ?_⟩) ?_ ?_; rotate_left
                          · intro w'
                            go_simp; with_reducible rfl
                          rotate_left
                          · simp only [Act.put, sT_, sZ_, sS_, i64_w, i32_w]
                            rfl
                          refine pure_ (i := 45) (N := some 95) (v := ?_) (a' := ?_) (mB_ 46 70368744177663) rfl rfl (any_of HT_.out (by kernel_rfl)) (fun _ _ _ h => h) (Or.inl ⟨by rfl, ?_⟩) ?_ ?_; rotate_left
                          · intro w'
                            go_simp; with_reducible rfl
                          rotate_left
                          · simp only [Act.put, sT_, sZ_, sS_, i64_w, i32_w]
                            rfl
                          refine done_ (done_of HT_.out (by kernel_rfl)) ?_; try go_wp2
                          go_meet
                          case rel => exact ⟨_, (decide ((wrap64 ((rd l1 x47_2) + (rd l2 x47_2))) > 4096)), (by first | rfl | (simp; done) | (simp [*]; done)), H', ⟨by have := HJ5.out; have := HK2.out; first | omega | exact nR_ _⟩, ⟨by (try simp only [hl7_2]); (with_reducible repeat (first | apply rA_ | apply rN_ | apply rD_)); exact HO_7.out⟩, ⟨by (try simp only [hl7_2]); (with_reducible repeat (first | refine bN_ ?_ _ | refine bD_ ?_ | refine bA_ ?_ _)); exact BK720.out⟩, ⟨by repeat (first | (with_reducible first | exact HB.out | apply fA_ | apply pB_ | apply fD_ | refine fE_ ?_ GE720.out) | exact HB.out)⟩⟩
                        rw [if_neg c41] at H; exact absurd H (by simp)
                      rw [if_neg c40] at H; exact absurd H (by simp)
                    rw [if_neg c39] at H; exact absurd H (by simp)
                  case rest =>
                    clear HC38; try clear p2
                    try clear c3
                    try clear c4
                    try clear p6
                    try clear p7
                    try clear q7
                    try clear hx7
                    try clear c39
                    try clear c40
                    try clear c41
                    try clear c48
                    try clear c48b0
                    try clear hx727_0
                    try clear hx728_0
                    try clear hx729_0
                    try clear hx730_0
                    try clear hx731_0
                    try clear hx732_0
                    try clear hx733_0
                    try clear hx734_0
                    try clear p727
                    try clear p728
                    try clear p729
                    try clear p730
                    try clear p731
                    try clear p732
                    try clear p733
                    try clear p734
                    try clear q727
                    try clear q728
                    try clear q729
                    try clear q730
                    try clear q731
                    try clear q732
                    try clear q733
                    try clear q734
                    obtain ⟨kq, x95_37, rfl, HA, HJ37, HO_7, BK720, HB⟩ := hcut
                    cases kq with
                    | zero => exact absurd HA.out (by simp [snowlinelaw04_DiffsAdded.j2])
                    | succ kj37 =>
                      have H := HA.out; clear HA; simp only [snowlinelaw04_DiffsAdded.j2] at H; by_cases c51 : x95_37 = true
                      · subst c51
                        have H1 : (some true) = some r := by rw [if_pos rfl] at H; exact H
                        clear H; have H := H1; clear H1; obtain rfl := oI_ H; go_wp2; go_ret; exact ⟨by first | rfl | (simp [errW_none, errW_some] <;> rfl) | (simp [*, errW_none, errW_some] <;> rfl), by repeat (first | (with_reducible first | exact HB.out | apply fA_ | apply pB_ | apply fD_ | refine fE_ ?_ GE720.out) | exact HB.out)⟩
                      replace c51 := bE_.mpr c51; subst c51; have H1 : (if 0 ≤ x47_2 then (if x47_2 < (l1.length : Int) then (if x47_2 < (l2.length : Int) then (if x47_2 < (x7_2.length : Int) then (snowlinelaw04_DiffsAdded.l0 kj37 l1 l2 (x7_2.set (x47_2 : Int).toNat (wrap64 ((rd l1 x47_2) + (rd l2 x47_2)))) z46 (wrap64 (x47_2 + 1)) a0_0 l0_1) else (none)) else (none)) else (none)) else (none)) = some r := by rw [if_neg (show ¬ (false = true) by decide)] at H; exact H
                      clear H; have H := H1; clear H1; by_cases c52 : 0 ≤ x47_2
                      · rw [if_pos c52] at H
                        have c52b0 : decide (0 ≤ x47_2) = true := eT_ c52; clear c52; by_cases c53 : x47_2 < (l1.length : Int)
                        · rw [if_pos c53] at H
                          have c53b0 : decide (x47_2 < (l1.length : Int)) = true := eT_ c53; clear c53; by_cases c54 : x47_2 < (l2.length : Int)
                          · rw [if_pos c54] at H
                            have c54b0 : decide (x47_2 < (l2.length : Int)) = true := eT_ c54; clear c54; by_cases c55 : x47_2 < (x7_2.length : Int)
                            · rw [if_pos c55] at H
                              have c55b0 : decide (x47_2 < (x7_2.length : Int)) = true := eT_ c55; clear c55; obtain ⟨y737, hy737⟩ : ∃ y_ : List Int, y_ = (x7_2.set (x47_2 : Int).toNat (wrap64 ((rd l1 x47_2) + (rd l2 x47_2)))) := ⟨_, rfl⟩; replace H : (snowlinelaw04_DiffsAdded.l0 kj37 l1 l2 y737 z46 (wrap64 (x47_2 + 1)) a0_0 l0_1) = some r := by first | (rw [hy737]; with_reducible exact H) | (have H2_ := (oB_ _ _).symm.trans H; rw [hy737]; with_reducible exact H2_) | (have H2_ := (oB_ _ _).symm.trans H; with_reducible exact H2_) | with_reducible exact H | (rw [hy737]; exact H) | exact H
                              have Ny737 := Z_ hy737; clear hy737; have H' := Z_ H; clear H; try go_wp2
                              have n0_ := Z_ (rD_ HO_7.out); have n1_ := Z_ (bD_ BK720.out); have n2_ := Z_ (fD_ HB.out); clear HO_7; clear BK720; clear HB; have HO_7 := n0_; have BK720 := n1_; have HB := n2_; clear n0_ n1_ n2_; have p735 : 0 ≤ (x47_2 : Int) := dT_ (by first | (with_reducible assumption) | assumption); have q735 : x47_2 < (l1.length : Int) := dT_ (by first | (with_reducible assumption) | assumption); obtain ⟨ad735, e735, hx735_0⟩ := Kd.at_int HR1.out x47_2 p735 q735; have hw735_0 := hx735_0; cases e735
                              replace hx735_0 := (HB.out.cell (World.block_lt_of_cell? w _ hx735_0)).trans hx735_0; replace p735 := eq_true p735; replace q735 := eq_true q735; have p736 : 0 ≤ (x47_2 : Int) := dT_ (by first | (with_reducible assumption) | assumption); have q736 : x47_2 < (l2.length : Int) := dT_ (by first | (with_reducible assumption) | assumption); obtain ⟨ad736, e736, hx736_0⟩ := Kd.at_int HR2.out x47_2 p736 q736; have hw736_0 := hx736_0; cases e736
                              replace hx736_0 := (HB.out.cell (World.block_lt_of_cell? w _ hx736_0)).trans hx736_0; replace p736 := eq_true p736; replace q736 := eq_true q736; have p56 : 0 ≤ (x47_2 : Int) := dT_ (by first | (with_reducible assumption) | assumption); have q56 : (x47_2 : Int) < ((x7_2.length : Int) : Int) := dT_ (by first | (with_reducible assumption) | assumption); obtain ⟨go56, co56, eo56, gb56, gl56, cl56, HG56⟩ := Kd.R_form HO_7.out (by omega); (first | cases eo56 | (injection eo56 with ea_ en_ ec_; (first | subst ea_ | (injection ea_ with ea_; subst ea_)); subst ec_; clear en_))
                              have GB56 := Z_ gb56; have GG56 := Z_ HG56; clear gb56 gl56 HG56; obtain ⟨hx56_0, hf56_0⟩ := Kd.R_celln 0 HO_7.out (x47_2 : Int) p56 q56; replace p56 := eq_true p56; replace q56 := eq_true q56; have HP58 := Kd.R_putn HO_7.out (x47_2 : Int) (wrap64 ((rd l1 x47_2) + (rd l2 x47_2))); rw [← Ny737.out] at HP58; have HQ58 := Z_ HP58; clear HP58; refine start_ (n := 13) (S := fun w' => w'.cell? (ad735.add (x47_2).toNat) = some (.int .i64 (rd l1 x47_2)) ∧ w'.cell? (ad736.add (x47_2).toNat) = some (.int .i64 (rd l2 x47_2))) (ds := [12]) #[false, false, false, false, false, false, false, false, false, false, false, false, false] (by kernel_rfl) rfl rfl ⟨((HB.out.cell (World.block_lt_of_cell? w _ hw735_0)).trans hw735_0), ((HB.out.cell (World.block_lt_of_cell? w _ hw736_0)).trans hw736_0)⟩ (fun hHeld => ?_); refine with_tabW snowlinelaw04_DiffsAdded.tab11 snowlinelaw04_DiffsAdded.bits11 (fun HT_ HW_ => ?_); generalize wc.drew = w57 at HO_7 BK720 HB GG56 HQ58 hf56_0 hx56_0 hx735_0 hx736_0 hHeld ⊢; refine pure_ (i := 0) (N := some 96) (v := ?_) (a' := ?_) (mB_ 13 1) rfl rfl (any_of HT_.out (by kernel_rfl)) (fun _ _ _ h => h) (Or.inl ⟨by rfl, ?_⟩) ?_ ?_; rotate_left
                              · intro w'
                                go_simp; with_reducible rfl
                              rotate_left
                              · simp only [Act.put, sT_, sZ_, sS_, i64_w, i32_w]
                                rfl
                              refine pure_ (i := 1) (N := some 97) (v := ?_) (a' := ?_) (mB_ 13 3) rfl rfl (any_of HT_.out (by kernel_rfl)) (fun _ _ _ h => h) (Or.inl ⟨by rfl, ?_⟩) ?_ ?_; rotate_left
                              · intro w'
                                go_simp; with_reducible rfl
                              rotate_left
                              · simp only [Act.put, sT_, sZ_, sS_, i64_w, i32_w]
                                rfl
                              refine pure_ (i := 2) (N := some 98) (v := ?_) (a' := ?_) (mB_ 13 7) rfl rfl (any_of HT_.out (by kernel_rfl)) (fun _ _ _ h => h) (Or.inl ⟨by rfl, ?_⟩) ?_ ?_; rotate_left
                              · intro w'
                                go_simp; with_reducible rfl
                              rotate_left
                              · simp only [Act.put, sT_, sZ_, sS_, i64_w, i32_w]
                                rfl
                              refine pure_ (i := 3) (N := some 99) (v := ?_) (a' := ?_) (mB_ 13 15) rfl rfl (any_of HT_.out (by kernel_rfl)) (fun _ _ _ h => h) (Or.inl ⟨by rfl, ?_⟩) ?_ ?_; rotate_left
                              · intro w'
                                go_simp; with_reducible rfl
                              rotate_left
                              · simp only [Act.put, sT_, sZ_, sS_, i64_w, i32_w]
                                rfl
                              refine pure_ (i := 4) (N := some 100) (v := ?_) (a' := ?_) (mB_ 13 31) rfl rfl (any_of HT_.out (by kernel_rfl)) (fun _ _ _ h => h) (Or.inl ⟨by rfl, ?_⟩) ?_ ?_; rotate_left
                              · intro w'
                                go_simp; with_reducible rfl
                              rotate_left
                              · simp only [Act.put, sT_, sZ_, sS_, i64_w, i32_w]
                                rfl
                              refine pure_ (i := 6) (N := some 102) (v := ?_) (a' := ?_) (mB_ 13 95) rfl rfl (any_of HT_.out (by kernel_rfl)) (fun _ _ _ h => h) (Or.inl ⟨by rfl, ?_⟩) ?_ ?_; rotate_left
                              · intro w'
                                go_simp; with_reducible rfl
                              rotate_left
                              · simp only [Act.put, sT_, sZ_, sS_, i64_w, i32_w]
                                rfl
                              refine pure_ (i := 7) (N := some 103) (v := ?_) (a' := ?_) (mB_ 13 223) rfl rfl (any_of HT_.out (by kernel_rfl)) (fun _ _ _ h => h) (Or.inl ⟨by rfl, ?_⟩) ?_ ?_; rotate_left
                              · intro w'
                                go_simp; with_reducible rfl
                              rotate_left
                              · simp only [Act.put, sT_, sZ_, sS_, i64_w, i32_w]
                                rfl
                              refine pure_ (i := 8) (N := some 104) (v := ?_) (a' := ?_) (mB_ 13 479) rfl rfl (any_of HT_.out (by kernel_rfl)) (fun _ _ _ h => h) (Or.inl ⟨by rfl, ?_⟩) ?_ ?_; rotate_left
                              · intro w'
                                go_simp; with_reducible rfl
                              rotate_left
                              · simp only [Act.put, sT_, sZ_, sS_, i64_w, i32_w]
                                rfl
                              refine take_ (i := 5) (N := some 101) (v := ?_) (a' := ?_) (mB_ 13 511) rfl rfl (take_ofW HT_.out HW_.out (by kernel_rfl)) (fun _ _ _ h => h) (Or.inl ⟨by rfl, ?_⟩) hHeld ?_ ?_; rotate_left
                              · rintro w' ⟨s0, s1⟩
                                go_simp; with_reducible rfl
                              rotate_left
                              · simp only [Act.put, sT_, sZ_, sS_, i64_w, i32_w]
                                rfl
                              refine take_ (i := 9) (N := some 105) (v := ?_) (a' := ?_) (mB_ 13 1023) rfl rfl (take_ofW HT_.out HW_.out (by kernel_rfl)) (fun _ _ _ h => h) (Or.inl ⟨by rfl, ?_⟩) hHeld ?_ ?_; rotate_left
                              · rintro w' ⟨s0, s1⟩
                                go_simp; with_reducible rfl
                              rotate_left
                              · simp only [Act.put, sT_, sZ_, sS_, i64_w, i32_w]
                                rfl
                              refine pure_ (i := 10) (N := some 106) (v := ?_) (a' := ?_) (mB_ 13 2047) rfl rfl (any_of HT_.out (by kernel_rfl)) (fun _ _ _ h => h) (Or.inl ⟨by rfl, ?_⟩) ?_ ?_; rotate_left
                              · intro w'
                                go_simp; with_reducible rfl
                              rotate_left
                              · simp only [Act.put, sT_, sZ_, sS_, i64_w, i32_w]
                                rfl
                              refine pure_ (i := 11) (N := some 107) (v := ?_) (a' := ?_) (mB_ 13 4095) rfl rfl (any_of HT_.out (by kernel_rfl)) (fun _ _ _ h => h) (Or.inl ⟨by rfl, ?_⟩) ?_ ?_; rotate_left
                              · intro w'
                                go_simp; with_reducible rfl
                              rotate_left
                              · simp only [Act.put, sT_, sZ_, sS_, i64_w, i32_w]
                                rfl
                              refine last_ (i := 12) (N := none) (mB_ 13 8191) rfl rfl (one_of HT_.out (by kernel_rfl)) (by decide) (fun K hK => ?_); refine skip_ (w1 := ?_) (by rfl) rfl ?_ ?_; rotate_left
                              · go_simp
                                rfl
                              refine hK.out _ _ ?_; clear hK K; refine done_ (done_of HT_.out (by kernel_rfl)) ?_; try go_wp2
                              (try simp only [← hl7_2])
                              go_roundg kj37
                              case measure => have := HJ5.out; have := HK2.out; have := HJ37.out; omega
                              case rel => exact ⟨(y737), (wrap64 (x47_2 + 1)), (by first | rfl | (simp; done) | (simp [*]; done)), H', ⟨by have := HJ5.out; have := HK2.out; have := HJ37.out; omega⟩, ⟨by (try simp only [hl7_2]); (with_reducible repeat (first | apply rA_ | apply rN_ | apply rD_)); exact HQ58.out⟩, ⟨by (try simp only [hl7_2]); (with_reducible repeat (first | refine bN_ ?_ _ | refine bD_ ?_ | refine bA_ ?_ _)); refine blk_far ?_ (by have h_ := Kd.R_ne HO_7.out BK720.out (by decide); intro e_; exact h_ (by rw [e_]; rfl)) _; (with_reducible repeat (first | refine bN_ ?_ _ | refine bD_ ?_ | refine bA_ ?_ _)); exact BK720.out⟩, ⟨by repeat (first | (with_reducible first | exact HB.out | apply fA_ | apply pB_ | apply fD_ | refine fE_ ?_ GB56.out | refine fE_ ?_ GE720.out) | exact HB.out)⟩⟩
                            rw [if_neg c55] at H; exact absurd H (by simp)
                          rw [if_neg c54] at H; exact absurd H (by simp)
                        rw [if_neg c53] at H; exact absurd H (by simp)
                      rw [if_neg c52] at H; exact absurd H (by simp)
                rw [if_neg c37] at H; have c37b0 : decide (x47_2 < z46) = false := eF_ c37; clear c37; replace H := oS_.mp H; obtain ⟨⟨t738, t739, t740⟩, A590, H⟩ := H; replace H : ((diffs_Most.f k2 a0_0 l0_1 l2).bind fun bt741 => ((diffs_Most.f k2 a0_0 l0_1 x7_2).bind fun bt744 => (if t740 = bt741.2.2 then (snowlinelaw04_DiffsAdded.j3 k2 t738 t739 bt741.1 bt741.2.1 bt744.1 bt744.2.1 (bt741.2.2 != bt744.2.2)) else (snowlinelaw04_DiffsAdded.j3 k2 t738 t739 bt741.1 bt741.2.1 bt744.1 bt744.2.1 true)))) = some r := H; have A59 := Z_ A590; clear A590; replace H := oS_.mp H; obtain ⟨⟨t741, t742, t743⟩, A600, H⟩ := H; replace H : ((diffs_Most.f k2 a0_0 l0_1 x7_2).bind fun bt744 => (if t740 = t743 then (snowlinelaw04_DiffsAdded.j3 k2 t738 t739 t741 t742 bt744.1 bt744.2.1 (t743 != bt744.2.2)) else (snowlinelaw04_DiffsAdded.j3 k2 t738 t739 t741 t742 bt744.1 bt744.2.1 true))) = some r := H; have A60 := Z_ A600; clear A600; replace H := oS_.mp H; obtain ⟨⟨t744, t745, t746⟩, A610, H⟩ := H; replace H : (if t740 = t743 then (snowlinelaw04_DiffsAdded.j3 k2 t738 t739 t741 t742 t744 t745 (t743 != t746)) else (snowlinelaw04_DiffsAdded.j3 k2 t738 t739 t741 t742 t744 t745 true)) = some r := H; have A61 := Z_ A610; clear A610; have HC62 := Z_ H; clear H; have hcz63_0 : wr.cell? ⟨gb720, 0, none⟩ = some (.int .i64 a0_0) := (bC_ BK720.out 0).trans rfl; have hcz63_1 : wr.cell? ⟨gb720, 1, none⟩ = some (.slice A0_1 l0_1.length c0_1) := (bC_ BK720.out 1).trans rfl; have hfz63_0 := bF_ BK720.out 0; have hfz63_1 := bF_ BK720.out 1; go_upto_region 16 with (first | ((with_reducible refine gate_callee (f := 31) rfl ?_); refine goesL_ (some 112) rfl rfl Try.func31 (by kernel_rfl) rfl #[.agg #[.int .i64 a0_0, .slice A0_1 l0_1.length c0_1], .slice A1 l1.length c1] rfl (by (try simp only [mT_, mC_, mN_]); first | done | rfl | (simp only [lD_, lT_]; rfl)) ?_; (with_reducible refine (diffs_Most.calls k2 a0_0 _ _ l0_1 _ _ l1 t738 t739 t740 _ ?side1 ?side2 ?side3 ?side4 A59.out).mono ?_); (case side1 => repeat (first | exact (cB_ HR0_1.out HB.out) | (with_reducible refine Kd.C_alloc ?_ _) | (with_reducible refine Kd.C_drewN ?_ _) | (with_reducible refine Kd.C_drew ?_))); (case side2 => exact HC0_1.out); (case side3 => repeat (first | exact (cB_ HR1.out HB.out) | (with_reducible refine Kd.C_alloc ?_ _) | (with_reducible refine Kd.C_drewN ?_ _) | (with_reducible refine Kd.C_drew ?_))); (case side4 => exact HC1.out); rintro e w64 ⟨rfl, hb⟩; refine ⟨_, rfl, ?_⟩; have n0_ := Z_ (rB_ (by (with_reducible repeat (first | apply rA_ | apply rN_ | apply rD_)); exact HO_7.out) hb); have n1_ := Z_ (bB_ (g := gb720) (o := .cells #[.int .i64 a0_0, .slice A0_1 l0_1.length c0_1] 24 (0, 0)) (by (with_reducible repeat (first | refine bN_ ?_ _ | refine bD_ ?_ | refine bA_ ?_ _)); exact BK720.out) hb); have n2_ := Z_ (fS_ (by repeat (first | (with_reducible first | exact HB.out | apply fA_ | apply pB_ | apply fD_ | refine fE_ ?_ GE720.out) | exact HB.out)) hb); clear HO_7; clear BK720; clear HB; have HO_7 := n0_; have BK720 := n1_; have HB := n2_; clear n0_ n1_ n2_; (try clear hb); (try clear hb2); (try clear hk); (try clear hi); have hcz65_0 : w64.cell? ⟨gb720, 0, none⟩ = some (.int .i64 a0_0) := (bC_ BK720.out 0).trans rfl; have hcz65_1 : w64.cell? ⟨gb720, 1, none⟩ = some (.slice A0_1 l0_1.length c0_1) := (bC_ BK720.out 1).trans rfl; have hfz65_0 := bF_ BK720.out 0; have hfz65_1 := bF_ BK720.out 1) | ((with_reducible refine gate_callee (f := 31) rfl ?_); refine goesL_ (some 119) rfl rfl Try.func31 (by kernel_rfl) rfl #[.agg #[.int .i64 a0_0, .slice A0_1 l0_1.length c0_1], .slice A2 l2.length c2] rfl (by (try simp only [mT_, mC_, mN_]); first | done | rfl | (simp only [lD_, lT_]; rfl)) ?_; (with_reducible refine (diffs_Most.calls k2 a0_0 _ _ l0_1 _ _ l2 t741 t742 t743 _ ?side1 ?side2 ?side3 ?side4 A60.out).mono ?_); (case side1 => repeat (first | exact (cB_ HR0_1.out HB.out) | (with_reducible refine Kd.C_alloc ?_ _) | (with_reducible refine Kd.C_drewN ?_ _) | (with_reducible refine Kd.C_drew ?_))); (case side2 => exact HC0_1.out); (case side3 => repeat (first | exact (cB_ HR2.out HB.out) | (with_reducible refine Kd.C_alloc ?_ _) | (with_reducible refine Kd.C_drewN ?_ _) | (with_reducible refine Kd.C_drew ?_))); (case side4 => exact HC2.out); rintro e w66 ⟨rfl, hb⟩; refine ⟨_, rfl, ?_⟩; have n0_ := Z_ (rB_ (by (with_reducible repeat (first | apply rA_ | apply rN_ | apply rD_)); exact HO_7.out) hb); have n1_ := Z_ (bB_ (g := gb720) (o := .cells #[.int .i64 a0_0, .slice A0_1 l0_1.length c0_1] 24 (0, 0)) (by (with_reducible repeat (first | refine bN_ ?_ _ | refine bD_ ?_ | refine bA_ ?_ _)); exact BK720.out) hb); have n2_ := Z_ (fS_ (by repeat (first | (with_reducible first | exact HB.out | apply fA_ | apply pB_ | apply fD_ | refine fE_ ?_ GE720.out) | exact HB.out)) hb); clear HO_7; clear BK720; clear HB; have HO_7 := n0_; have BK720 := n1_; have HB := n2_; clear n0_ n1_ n2_; (try clear hb); (try clear hb2); (try clear hk); (try clear hi); have hcz67_0 : w66.cell? ⟨gb720, 0, none⟩ = some (.int .i64 a0_0) := (bC_ BK720.out 0).trans rfl; have hcz67_1 : w66.cell? ⟨gb720, 1, none⟩ = some (.slice A0_1 l0_1.length c0_1) := (bC_ BK720.out 1).trans rfl; have hfz67_0 := bF_ BK720.out 0; have hfz67_1 := bF_ BK720.out 1) | ((with_reducible refine gate_callee (f := 31) rfl ?_); refine goesL_ (some 126) rfl rfl Try.func31 (by kernel_rfl) rfl #[.agg #[.int .i64 a0_0, .slice A0_1 l0_1.length c0_1], .slice Ao36 x7_2.length co36] rfl (by (try simp only [mT_, mC_, mN_]); first | done | rfl | (simp only [lD_, lT_]; rfl)) ?_; (with_reducible refine (diffs_Most.calls k2 a0_0 _ _ l0_1 _ _ x7_2 t744 t745 t746 _ ?side1 ?side2 ?side3 ?side4 A61.out).mono ?_); (case side1 => repeat (first | exact (cB_ HR0_1.out HB.out) | (with_reducible refine Kd.C_alloc ?_ _) | (with_reducible refine Kd.C_drewN ?_ _) | (with_reducible refine Kd.C_drew ?_))); (case side2 => exact HC0_1.out); (case side3 => repeat (first | exact (rR_ HO_7.out).2.2 | (with_reducible refine Kd.C_alloc ?_ _) | (with_reducible refine Kd.C_drewN ?_ _) | (with_reducible refine Kd.C_drew ?_))); (case side4 => exact (rR_ HO_7.out).2.1); rintro e w68 ⟨rfl, hb⟩; refine ⟨_, rfl, ?_⟩; have n0_ := Z_ (rB_ (by (with_reducible repeat (first | apply rA_ | apply rN_ | apply rD_)); exact HO_7.out) hb); have n1_ := Z_ (bB_ (g := gb720) (o := .cells #[.int .i64 a0_0, .slice A0_1 l0_1.length c0_1] 24 (0, 0)) (by (with_reducible repeat (first | refine bN_ ?_ _ | refine bD_ ?_ | refine bA_ ?_ _)); exact BK720.out) hb); have n2_ := Z_ (fS_ (by repeat (first | (with_reducible first | exact HB.out | apply fA_ | apply pB_ | apply fD_ | refine fE_ ?_ GE720.out) | exact HB.out)) hb); clear HO_7; clear BK720; clear HB; have HO_7 := n0_; have BK720 := n1_; have HB := n2_; clear n0_ n1_ n2_; (try clear hb); (try clear hb2); (try clear hk); (try clear hi))); (try simp only [Act.put, sT_, sZ_, sS_])
                go_cut [137] (fun v137 wc => ∃ (kq : Nat) (x137_61 : Bool), v137 = .bool x137_61 ∧ Aside0 (snowlinelaw04_DiffsAdded.j3 kq t738 t739 t741 t742 t744 t745 x137_61 = some r) ∧ Aside0 (kq ≤ k2) ∧ Aside0 (wc.heap[gb720]? = some (.cells #[.int .i64 a0_0, (.slice A0_1 l0_1.length c0_1)] 24 (0, 0))) ∧ Aside0 (Below w.heap.size w wc))
                case first =>
                  have H := HC62.out; clear HC62; by_cases c69 : t740 = t743
                  · rw [if_pos c69] at H
                    have c69b0 : (t740 == t743) = true := beq_iff_eq.mpr c69; have c69b1 : (t740 != t743) = false := bne_eq_false_iff_eq.mpr c69; clear c69; (first | rw [c69b0] | (simp only [i64_w, i32_w]; rw [c69b0]) | skip)
                    have H' := Z_ H; clear H; go_wp2; go_meet
                    case rel => exact ⟨_, ((t743 != t746)), (by first | rfl | (simp; done) | (simp [*]; done)), H', ⟨by have := HJ5.out; have := HK2.out; first | omega | exact nR_ _⟩, ⟨by (try simp only [hl7_2]); (with_reducible repeat (first | refine bN_ ?_ _ | refine bD_ ?_ | refine bA_ ?_ _)); exact BK720.out⟩, ⟨by repeat (first | (with_reducible first | exact HB.out | apply fA_ | apply pB_ | apply fD_ | refine fE_ ?_ GE720.out) | exact HB.out)⟩⟩
                  rw [if_neg c69] at H; have c69b0 : (t740 == t743) = false := beq_eq_false_iff_ne.mpr c69; have c69b1 : (t740 != t743) = true := bne_iff_ne.mpr c69; (first | rw [c69b0] | (simp only [i64_w, i32_w]; rw [c69b0]) | skip)
                  have H' := Z_ H; clear H; go_wp2; go_meet
                  case rel => exact ⟨_, (true), (by first | rfl | (simp; done) | (simp [*]; done)), H', ⟨by have := HJ5.out; have := HK2.out; first | omega | exact nR_ _⟩, ⟨by (try simp only [hl7_2]); (with_reducible repeat (first | refine bN_ ?_ _ | refine bD_ ?_ | refine bA_ ?_ _)); exact BK720.out⟩, ⟨by repeat (first | (with_reducible first | exact HB.out | apply fA_ | apply pB_ | apply fD_ | refine fE_ ?_ GE720.out) | exact HB.out)⟩⟩
                case rest =>
                  clear HC62; try clear c1
                  try clear c2
                  try clear p2
                  try clear c3
                  try clear c4
                  try clear c5
                  try clear p5
                  try clear q5
                  try clear hx5
                  try clear hf5
                  try clear c6
                  try clear p6
                  try clear p7
                  try clear q7
                  try clear hx7
                  try clear c31
                  try clear c37
                  try clear c37b0
                  try clear c39
                  try clear c40
                  try clear c41
                  try clear c48
                  try clear c48b0
                  try clear c51
                  try clear c52
                  try clear c52b0
                  try clear c53
                  try clear c53b0
                  try clear c54
                  try clear c54b0
                  try clear c55
                  try clear c55b0
                  try clear p56
                  try clear q56
                  try clear hx56
                  try clear hf56
                  try clear p64
                  try clear c69
                  try clear c69b0
                  try clear c69b1
                  try clear hcz63_0
                  try clear hcz63_1
                  try clear hcz65_0
                  try clear hcz65_1
                  try clear hcz67_0
                  try clear hcz67_1
                  try clear hfz63_0
                  try clear hfz63_1
                  try clear hfz65_0
                  try clear hfz65_1
                  try clear hfz67_0
                  try clear hfz67_1
                  try clear hx56_0
                  try clear hx727_0
                  try clear hx728_0
                  try clear hx729_0
                  try clear hx730_0
                  try clear hx731_0
                  try clear hx732_0
                  try clear hx733_0
                  try clear hx734_0
                  try clear hx735_0
                  try clear hx736_0
                  try clear p2
                  try clear p56
                  try clear p6
                  try clear p7
                  try clear p727
                  try clear p728
                  try clear p729
                  try clear p730
                  try clear p731
                  try clear p732
                  try clear p733
                  try clear p734
                  try clear p735
                  try clear p736
                  try clear q56
                  try clear q7
                  try clear q727
                  try clear q728
                  try clear q729
                  try clear q730
                  try clear q731
                  try clear q732
                  try clear q733
                  try clear q734
                  try clear q735
                  try clear q736
                  obtain ⟨kq, x137_61, rfl, HA, HJ61, BK720, HB⟩ := hcut
                  cases kq with
                  | zero => exact absurd HA.out (by simp [snowlinelaw04_DiffsAdded.j3])
                  | succ kj61 =>
                    have H := HA.out; clear HA; simp only [snowlinelaw04_DiffsAdded.j3] at H; by_cases c70 : x137_61 = true
                    · subst c70
                      have H1 : (some false) = some r := by rw [if_pos rfl] at H; exact H
                      clear H; have H := H1; clear H1; obtain rfl := oI_ H; go_wp2; go_ret; exact ⟨by first | rfl | (simp [errW_none, errW_some] <;> rfl) | (simp [*, errW_none, errW_some] <;> rfl), by repeat (first | (with_reducible first | exact HB.out | apply fA_ | apply pB_ | apply fD_ | refine fE_ ?_ GE720.out) | exact HB.out)⟩
                    replace c70 := bE_.mpr c70; subst c70; have H1 : (if t739 = true then (if t742 = true then (if t745 = true then (some (decide (t744 ≤ (wrap64 (t738 + t741))))) else (some false)) else (some true)) else (some true)) = some r := by rw [if_neg (show ¬ (false = true) by decide)] at H; exact H
                    clear H; have H := H1; clear H1; by_cases c71 : t739 = true
                    · subst c71
                      have H1 : (if t742 = true then (if t745 = true then (some (decide (t744 ≤ (wrap64 (t738 + t741))))) else (some false)) else (some true)) = some r := by rw [if_pos rfl] at H; exact H
                      clear H; have H := H1; clear H1; by_cases c72 : t742 = true
                      · subst c72
                        have H1 : (if t745 = true then (some (decide (t744 ≤ (wrap64 (t738 + t741))))) else (some false)) = some r := by rw [if_pos rfl] at H; exact H
                        clear H; have H := H1; clear H1; by_cases c73 : t745 = true
                        · subst c73
                          have H1 : (some (decide (t744 ≤ (wrap64 (t738 + t741))))) = some r := by rw [if_pos rfl] at H; exact H
                          clear H; have H := H1; clear H1; obtain rfl := oI_ H; go_wp2; go_ret; exact ⟨by first | rfl | (simp [errW_none, errW_some] <;> rfl) | (simp [*, errW_none, errW_some] <;> rfl), by repeat (first | (with_reducible first | exact HB.out | apply fA_ | apply pB_ | apply fD_ | refine fE_ ?_ GE720.out) | exact HB.out)⟩
                        replace c73 := bE_.mpr c73; subst c73; have H1 : (some false) = some r := by rw [if_neg (show ¬ (false = true) by decide)] at H; exact H
                        clear H; have H := H1; clear H1; obtain rfl := oI_ H; go_wp2; go_ret; exact ⟨by first | rfl | (simp [errW_none, errW_some] <;> rfl) | (simp [*, errW_none, errW_some] <;> rfl), by repeat (first | (with_reducible first | exact HB.out | apply fA_ | apply pB_ | apply fD_ | refine fE_ ?_ GE720.out) | exact HB.out)⟩
                      replace c72 := bE_.mpr c72; subst c72; have H1 : (some true) = some r := by rw [if_neg (show ¬ (false = true) by decide)] at H; exact H
                      clear H; have H := H1; clear H1; obtain rfl := oI_ H; go_wp2; go_ret; exact ⟨by first | rfl | (simp [errW_none, errW_some] <;> rfl) | (simp [*, errW_none, errW_some] <;> rfl), by repeat (first | (with_reducible first | exact HB.out | apply fA_ | apply pB_ | apply fD_ | refine fE_ ?_ GE720.out) | exact HB.out)⟩
                    replace c71 := bE_.mpr c71; subst c71; have H1 : (some true) = some r := by rw [if_neg (show ¬ (false = true) by decide)] at H; exact H
                    clear H; have H := H1; clear H1; obtain rfl := oI_ H; go_wp2; go_ret; exact ⟨by first | rfl | (simp [errW_none, errW_some] <;> rfl) | (simp [*, errW_none, errW_some] <;> rfl), by repeat (first | (with_reducible first | exact HB.out | apply fA_ | apply pB_ | apply fD_ | refine fE_ ?_ GE720.out) | exact HB.out)⟩
          rw [if_neg c32] at H; exact absurd H (by simp)
        rw [if_neg c31] at H; exact absurd H (by simp)
  replace c5 := bE_.mpr c5; subst c5; have H1 : (some false) = some r := by rw [if_neg (show ¬ (false = true) by decide)] at H; exact H
  clear H; have H := H1; clear H1; obtain rfl := oI_ H; go_enter Try.func8, Try.ntmps8; go_wp2_with (first | ((with_reducible refine gate_dst (N := 3) rfl ?_); (try (refine gate_guard (by rfl) ?_; dsimp only)); refine box_event ?hg (N := 3) ?hd (cs := #[.int .i64 a0_0, .slice A0_1 l0_1.length c0_1]) (t := 24) ?hr ?_; (case hd => rfl); (case hg => rfl); (case hr => first | (go_simp; done) | (go_simp; rfl)); intro gb720 hg w74 hbox hb; have n0_ := Z_ (fS_ (by repeat (first | (with_reducible first | exact HB.out | apply fA_ | apply pB_ | apply fD_) | exact HB.out)) hb); have n1_ := Z_ (hbox); have n2_ := Z_ ((by rw [hg]; exact (fZ_ (by repeat (first | (with_reducible first | exact HB.out | apply fA_ | apply pB_ | apply fD_) | exact HB.out))) : w.heap.size ≤ gb720)); have n3_ := Z_ ((by rw [hg]; exact (fZ_ (by repeat (first | (with_reducible first | exact HB.out | apply fA_ | apply pB_ | apply fD_) | exact HB.out))) : w.heap.size ≤ gb720)); clear HB; have HB := n0_; have BK720 := n1_; have GW720 := n2_; have GE720 := n3_; clear n0_ n1_ n2_ n3_; clear hb hbox hg) | ((with_reducible refine gate_callee (f := 21) rfl ?_); refine goesL_ (some 18) rfl rfl Try.func21 (by kernel_rfl) rfl #[] rfl (by (try simp only [mT_, mC_, mN_]); first | done | rfl | (simp only [lD_, lT_]; rfl)) ?_; (with_reducible refine (snowlinelaw04_sane.calls  false _ A4.out).mono ?_); rintro e w75 ⟨rfl, hb⟩; refine ⟨_, rfl, ?_⟩; have n0_ := Z_ (bB_ (g := gb720) (o := .cells #[.int .i64 a0_0, .slice A0_1 l0_1.length c0_1] 24 (0, 0)) (by (with_reducible repeat (first | refine bN_ ?_ _ | refine bD_ ?_ | refine bA_ ?_ _)); exact BK720.out) hb); have n1_ := Z_ (fS_ (by repeat (first | (with_reducible first | exact HB.out | apply fA_ | apply pB_ | apply fD_ | refine fE_ ?_ GE720.out) | exact HB.out)) hb); clear BK720; clear HB; have BK720 := n0_; have HB := n1_; clear n0_ n1_; (try clear hb); (try clear hb2); (try clear hk); (try clear hi))); go_ret; exact ⟨by first | rfl | (simp [errW_none, errW_some] <;> rfl) | (simp [*, errW_none, errW_some] <;> rfl), by repeat (first | (with_reducible first | exact HB.out | apply fA_ | apply pB_ | apply fD_ | refine fE_ ?_ GE720.out) | exact HB.out)⟩
end Go.Proofs.Ytpolojoeabmhdaa.A
