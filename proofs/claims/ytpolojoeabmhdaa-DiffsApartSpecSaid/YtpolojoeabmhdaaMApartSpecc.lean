import Derived.Test.YtpolojoeabmhdaaMZcoreHFacts
import Derived.Test.YtpolojoeabmhdaaMApartSpeca
import Derived.Test.YtpolojoeabmhdaaMApartSpecb
import Derived.Test.YtpolojoeabmhdaaMZcoreb
import Derived.Test.YtpolojoeabmhdaaMZcoref
import Derived.Test.YtpolojoeabmhdaaMZcoreg
import Derived.Test.YtpolojoeabmhdaaMZcoreh
import Derived.Test.YtpolojoeabmhdaaRows
set_option linter.unusedVariables false
set_option linter.unusedSimpArgs false
namespace Go.Proofs.Ytpolojoeabmhdaa.A
open Go.RowKit Go.Proofs.YtpolojoeabmhdaaW.PrintWords Go.Proofs.YtpolojoeabmhdaaW.PrintLast Go.Proofs.YtpolojoeabmhdaaW.PrintMore
attribute [local go_sem] max2_int min2_int max_two min_two max_three min_three max_four min_four
mutual
def snowlinelaw04_DiffsApartSpec.j0 : Nat → Int → Int → Bool → Int → List (S39) → Option (Bool)
 | 0, _, _, _, _, _ => none
 | k + 1, x1, x2, x42, x903000, x903001 => if x42 = true then (some true) else ((diffs_Apart.f k x903000 x903001 x1 x2).bind fun bt908 => ((snowlineref04_Apart.f k x903000 x903001 x1 x2).bind fun bt911 => ((diffs_Path.f k x903000 x903001 x1 x2).bind fun bt914 => (if bt908.1 = bt911.1 then (if (bt908.2.1 != bt911.2.1) = true then (snowlinelaw04_DiffsApartSpec.j1 k x1 x2 bt911.1 bt911.2.1 bt914.1 true x903000 x903001) else (if bt908.2.2 = bt911.2.2 then (if (bt914.2.1 != bt911.2.1) = true then (snowlinelaw04_DiffsApartSpec.j1 k x1 x2 bt911.1 bt911.2.1 bt914.1 true x903000 x903001) else (snowlinelaw04_DiffsApartSpec.j1 k x1 x2 bt911.1 bt911.2.1 bt914.1 (bt914.2.2 != bt911.2.2) x903000 x903001)) else (snowlinelaw04_DiffsApartSpec.j1 k x1 x2 bt911.1 bt911.2.1 bt914.1 true x903000 x903001))) else (snowlinelaw04_DiffsApartSpec.j1 k x1 x2 bt911.1 bt911.2.1 bt914.1 true x903000 x903001)))))
def snowlinelaw04_DiffsApartSpec.j1 : Nat → Int → Int → Int → Bool → List Int → Bool → Int → List (S39) → Option (Bool)
 | 0, _, _, _, _, _, _, _, _ => none
 | k + 1, x1, x2, x14, x15, x17, x89, x903000, x903001 => if x89 = true then (some false) else (if x15 = true then ((snowlineref04_CheckPath.f k x903000 x903001 x1 x2 x14 x17).bind fun t919 => (if t919 = 0 then ((snowlineref04_Simple.f k x903000 x903001 x1 x17).bind fun t920 => (some t920)) else (some false))) else (some ((x17.length : Int) == 0)))
end
def snowlinelaw04_DiffsApartSpec.f (k : Nat) (a0_0 : Int) (l0_1 : List (S39)) (a1 : Int) (a2 : Int) (a3 : Int) (l4 : List Int) : Option (Bool) := (snowlinelaw04_sane.f).bind fun t903 => (if t903 = true then ((diffs_CheckPath.f k a0_0 l0_1 a1 a2 a3 l4).bind fun t904 => ((snowlineref04_CheckPath.f k a0_0 l0_1 a1 a2 a3 l4).bind fun t905 => (if t904 = t905 then ((snowlineref04_Check.f k a0_0 l0_1).bind fun t906 => (if t906 = 0 then ((snowlinelaw04_small.f a0_0 l0_1).bind fun t907 => (snowlinelaw04_DiffsApartSpec.j0 k a1 a2 (!t907) a0_0 l0_1)) else (snowlinelaw04_DiffsApartSpec.j0 k a1 a2 false a0_0 l0_1))) else (some false)))) else (some false))
theorem snowlinelaw04_DiffsApartSpec.mono_l : ∀ k, (∀ y0 y1 y2 y3 y4, LeO (snowlinelaw04_DiffsApartSpec.j0 k y0 y1 y2 y3 y4) (snowlinelaw04_DiffsApartSpec.j0 (k + 1) y0 y1 y2 y3 y4)) ∧ (∀ y0 y1 y2 y3 y4 y5 y6 y7, LeO (snowlinelaw04_DiffsApartSpec.j1 k y0 y1 y2 y3 y4 y5 y6 y7) (snowlinelaw04_DiffsApartSpec.j1 (k + 1) y0 y1 y2 y3 y4 y5 y6 y7))
 | 0 => ⟨fun _ _ _ _ _ r h => by simp [snowlinelaw04_DiffsApartSpec.j0] at h, fun _ _ _ _ _ _ _ _ r h => by simp [snowlinelaw04_DiffsApartSpec.j1] at h⟩
 | k + 1 => by
  obtain ⟨ih0, ih1⟩ := snowlinelaw04_DiffsApartSpec.mono_l k; refine ⟨?_, ?_⟩ <;> intros <;> (first | unfold snowlinelaw04_DiffsApartSpec.j0 | unfold snowlinelaw04_DiffsApartSpec.j1) <;> repeat' first | (with_reducible first | exact ih0 _ _ _ _ _ | exact ih1 _ _ _ _ _ _ _ _ | exact diffs_Apart.mono _ _ _ _ _ | exact diffs_CheckPath.mono _ _ _ _ _ _ _ | exact diffs_Path.mono _ _ _ _ _ | exact snowlineref04_Apart.mono _ _ _ _ _ | exact snowlineref04_Check.mono _ _ _ | exact snowlineref04_CheckPath.mono _ _ _ _ _ _ _ | exact snowlineref04_Simple.mono _ _ _ _ _ | exact LeO.refl _ | exact LeO.none _ | refine LeO.ite ?_ ?_ | refine LeO.bind ?_ (fun _ => ?_)) | exact ih0 _ _ _ _ _ | exact ih1 _ _ _ _ _ _ _ _ | exact diffs_Apart.mono _ _ _ _ _ | exact diffs_CheckPath.mono _ _ _ _ _ _ _ | exact diffs_Path.mono _ _ _ _ _ | exact snowlineref04_Apart.mono _ _ _ _ _ | exact snowlineref04_Check.mono _ _ _ | exact snowlineref04_CheckPath.mono _ _ _ _ _ _ _ | exact snowlineref04_Simple.mono _ _ _ _ _ | exact LeO.none _ | refine LeO.ite ?_ ?_ | refine LeO.bind ?_ (fun _ => ?_)
theorem snowlinelaw04_DiffsApartSpec.mono : ∀ a0 a1 a2 a3 a4 a5 k, LeO (snowlinelaw04_DiffsApartSpec.f k a0 a1 a2 a3 a4 a5) (snowlinelaw04_DiffsApartSpec.f (k + 1) a0 a1 a2 a3 a4 a5) := by
 intro a0 a1 a2 a3 a4 a5 k; obtain ⟨ih0, ih1⟩ := snowlinelaw04_DiffsApartSpec.mono_l k; unfold snowlinelaw04_DiffsApartSpec.f; repeat' first | (with_reducible first | exact ih0 _ _ _ _ _ | exact ih1 _ _ _ _ _ _ _ _ | exact diffs_Apart.mono _ _ _ _ _ | exact diffs_CheckPath.mono _ _ _ _ _ _ _ | exact diffs_Path.mono _ _ _ _ _ | exact snowlineref04_Apart.mono _ _ _ _ _ | exact snowlineref04_Check.mono _ _ _ | exact snowlineref04_CheckPath.mono _ _ _ _ _ _ _ | exact snowlineref04_Simple.mono _ _ _ _ _ | exact LeO.refl _ | exact LeO.none _ | refine LeO.ite ?_ ?_ | refine LeO.bind ?_ (fun _ => ?_)) | exact ih0 _ _ _ _ _ | exact ih1 _ _ _ _ _ _ _ _ | exact diffs_Apart.mono _ _ _ _ _ | exact diffs_CheckPath.mono _ _ _ _ _ _ _ | exact diffs_Path.mono _ _ _ _ _ | exact snowlineref04_Apart.mono _ _ _ _ _ | exact snowlineref04_Check.mono _ _ _ | exact snowlineref04_CheckPath.mono _ _ _ _ _ _ _ | exact snowlineref04_Simple.mono _ _ _ _ _ | exact LeO.none _ | refine LeO.ite ?_ ?_ | refine LeO.bind ?_ (fun _ => ?_)
def snowlinelaw04_DiffsApartSpec.T3 : Bool × List (List Nat × List Nat) := (true, [([], []), ([], []), ([], []), ([], []), ([], []), ([0, 1, 2, 3, 4], [0, 1, 2, 3, 4]), ([], []), ([], []), ([], []), ([], []), ([], []), ([6, 7, 8, 9, 10, 5], [6, 7, 8, 9, 10]), ([5, 11], [5, 11])])
def snowlinelaw04_DiffsApartSpec.B3 : List Nat := [0, 0, 0, 0, 0, 31, 0, 0, 0, 0, 0, 2047, 4095]
theorem snowlinelaw04_DiffsApartSpec.tab3 : rtab .any (opsOf Try.f11 3) = snowlinelaw04_DiffsApartSpec.T3 := by kernel_rfl
theorem snowlinelaw04_DiffsApartSpec.bits3 : waitsOk snowlinelaw04_DiffsApartSpec.T3.2 snowlinelaw04_DiffsApartSpec.B3 = true := by kernel_rfl
set_option maxHeartbeats 8000000 in
set_option maxRecDepth 100000 in
theorem snowlinelaw04_DiffsApartSpec.calls (k : Nat) (a0_0 : Int) (A0_1 : Option Addr) (c0_1 : Nat) (l0_1 : List (S39)) (a1 : Int) (a2 : Int) (a3 : Int) (A4 : Option Addr) (c4 : Nat) (l4 : List Int) (r : Bool) (w : World) (hr0_1 : Kd.C k39 w A0_1 l0_1.length l0_1) (hc0_1 : l0_1.length ≤ c0_1) (hr4 : Kd.C (Kd.int .i64) w A4 l4.length l4) (hc4 : l4.length ≤ c4) (h : snowlinelaw04_DiffsApartSpec.f k a0_0 l0_1 a1 a2 a3 l4 = some r) :
  Calls Try.prog 11 #[.agg #[.int .i64 a0_0, .slice A0_1 l0_1.length c0_1], .int .i64 a1, .int .i64 a2, .int .i64 a3, .slice A4 l4.length c4] w fun e w' => e = .returned (.bool r) ∧ Below w.heap.size w w' := by
 have hu24 := Try.underlying24; have HR0_1 := Z_ hr0_1; have HC0_1 := Z_ hc0_1; clear hr0_1 hc0_1; have HR4 := Z_ hr4; have HC4 := Z_ hc4; clear hr4 hc4; have HB := Z_ (Below.refl w.heap.size w); have H : ((snowlinelaw04_sane.f).bind fun t903 => (if t903 = true then ((diffs_CheckPath.f k a0_0 l0_1 a1 a2 a3 l4).bind fun t904 => ((snowlineref04_CheckPath.f k a0_0 l0_1 a1 a2 a3 l4).bind fun t905 => (if t904 = t905 then ((snowlineref04_Check.f k a0_0 l0_1).bind fun t906 => (if t906 = 0 then ((snowlinelaw04_small.f a0_0 l0_1).bind fun t907 => (snowlinelaw04_DiffsApartSpec.j0 k a1 a2 (!t907) a0_0 l0_1)) else (snowlinelaw04_DiffsApartSpec.j0 k a1 a2 false a0_0 l0_1))) else (some false)))) else (some false))) = some r := h; clear h; replace H := oS_.mp H; obtain ⟨t903, A60, H⟩ := H; have A6 := Z_ A60; clear A60; have HF7 := Z_ H; clear H; go_enter Try.func11, Try.ntmps11; go_upto_if 21 with (first | ((with_reducible refine gate_dst (N := 5) rfl ?_); refine bX_ 5 #[.int .i64 a0_0, .slice A0_1 l0_1.length c0_1] 24 ?_; intro gb902 hg w8 hbox hb; have BK902 := Z_ (hbox); have GW902 := Z_ ((by rw [hg]; exact (fZ_ hB_) : w.heap.size ≤ gb902)); have GE902 := Z_ ((by rw [hg]; exact (fZ_ hB_) : w.heap.size ≤ gb902)); replace HB := Z_ (fS_ hB_ hb); clear hb hbox hg) | ((with_reducible refine gate_callee (f := 21) rfl ?_); refine gL_ (some 20) Try.func21 #[] ?_; (with_reducible refine (snowlinelaw04_sane.calls  t903 _ A6.out).mono ?_); rintro e w9 ⟨rfl, hb⟩; refine ⟨_, rfl, ?_⟩; replace BK902 := Z_ (bB_ (g := gb902) (o := .cells #[.int .i64 a0_0, .slice A0_1 l0_1.length c0_1] 24 (0, 0)) (bR_ BK902.out) hb); replace HB := Z_ (fS_ hB_ hb); (try clear hb); (try clear hb2); (try clear hk); (try clear hi))); (try simp only [Act.put, sT_, sZ_, sS_])
 have H := HF7.out; clear HF7; by_cases c10 : t903 = true
 ·subst c10
  rw [if_pos rfl] at H; replace H := oS_.mp H; obtain ⟨t904, A110, H⟩ := H; have A11 := Z_ A110; clear A110; replace H := oS_.mp H; obtain ⟨t905, A120, H⟩ := H; have A12 := Z_ A120; clear A120; have HF13 := Z_ H; clear H; try go_wp2
  replace BK902 := Z_ (bD_ BK902.out); replace HB := Z_ (fD_ HB.out); refine start_ (n := 13) (S := fun w' => w'.cell? ⟨gb902, 0, none⟩ = some (.int .i64 a0_0) ∧ w'.cell? ⟨gb902, 1, none⟩ = some (.slice A0_1 l0_1.length c0_1)) (ds := []) #[false, false, false, false, false, false, false, false, false, false, false, false, false] (by kernel_rfl) rfl rfl ⟨(bC_ BK902.out 0).trans rfl, (bC_ BK902.out 1).trans rfl⟩ (fun hHeld => ?_); refine with_tabW snowlinelaw04_DiffsApartSpec.tab3 snowlinelaw04_DiffsApartSpec.bits3 (fun HT_ HW_ => ?_); generalize w9.drew = w14 at BK902 HB hHeld ⊢; refine pP_ 1 23 ?_; refine pP_ 2 24 ?_; refine pP_ 3 25 ?_; refine pP_ 4 26 ?_; refine pP_ 7 29 ?_; refine pP_ 8 30 ?_; refine pP_ 9 31 ?_; refine pP_ 10 32 ?_; refine pT_ 0 22 ?_; refine pT_ 6 28 ?_; refine oN_ 5 (some 27) (fun K hK => ?_); refine gO_ Try.func43 #[.agg #[.int .i64 a0_0, .slice A0_1 l0_1.length c0_1], .int .i64 a1, .int .i64 a2, .int .i64 a3, .slice A4 l4.length c4] ?_; with_reducible refine (diffs_CheckPath.calls k a0_0 _ _ l0_1 a1 a2 a3 _ _ l4 t904 _ ?side1 ?side2 ?side3 ?side4 A11.out).mono ?_
  (case side1 => exact cS_ (cB_ HR0_1.out HB.out))
  (case side2 => exact HC0_1.out)
  (case side3 => exact cS_ (cB_ HR4.out HB.out))
  (case side4 => exact HC4.out)
  rintro e w15 ⟨rfl, hb⟩; refine ⟨_, rfl, ?_⟩; replace BK902 := Z_ (bB_ (g := gb902) (o := .cells #[.int .i64 a0_0, .slice A0_1 l0_1.length c0_1] 24 (0, 0)) (bR_ BK902.out) hb); replace HB := Z_ (fS_ hB_ hb); (try clear hb)
  (try clear hb2)
  (try clear hk)
  (try clear hi)
  refine hK.out _ _ ⟨(bC_ BK902.out 0).trans rfl, (bC_ BK902.out 1).trans rfl⟩ (fun hHeld => ?_); clear hK K; refine nP_ 27 ?_; refine oN_ 11 (some 33) (fun K hK => ?_); refine gO_ Try.func44 #[.agg #[.int .i64 a0_0, .slice A0_1 l0_1.length c0_1], .int .i64 a1, .int .i64 a2, .int .i64 a3, .slice A4 l4.length c4] ?_; with_reducible refine (snowlineref04_CheckPath.calls k a0_0 _ _ l0_1 a1 a2 a3 _ _ l4 t905 _ ?side1 ?side2 ?side3 ?side4 A12.out).mono ?_
  (case side1 => exact cS_ (cB_ HR0_1.out HB.out))
  (case side2 => exact HC0_1.out)
  (case side3 => exact cS_ (cB_ HR4.out HB.out))
  (case side4 => exact HC4.out)
  rintro e w16 ⟨rfl, hb⟩; refine ⟨_, rfl, ?_⟩; replace BK902 := Z_ (bB_ (g := gb902) (o := .cells #[.int .i64 a0_0, .slice A0_1 l0_1.length c0_1] 24 (0, 0)) (bR_ BK902.out) hb); replace HB := Z_ (fS_ hB_ hb); (try clear hb)
  (try clear hb2)
  (try clear hk)
  (try clear hi)
  refine hK.out _ _ ⟨(bC_ BK902.out 0).trans rfl, (bC_ BK902.out 1).trans rfl⟩ (fun hHeld => ?_); clear hK K; refine nP_ 33 ?_; refine pP_ 12 34 ?_; refine dN_ ?_; go_upto_if 34 with (fail); have H := HF13.out; clear HF13; by_cases c17 : t904 = t905
  ·rw [if_pos c17] at H
   obtain ⟨c17b0, c17b1⟩ := be_ c17; clear c17; (first | rw [c17b0] | (simp only [i64_w, i32_w]; rw [c17b0]) | skip)
   have HC18 := Z_ H; clear H; go_upto_region 5 with (fail); go_cut [42] (fun v42 wc => ∃ (kq : Nat) (x42_17 : Bool), v42 = .bool x42_17 ∧ Aside0 (snowlinelaw04_DiffsApartSpec.j0 kq a1 a2 x42_17 a0_0 l0_1 = some r) ∧ Aside0 (kq ≤ k) ∧ Aside0 (wc.heap[gb902]? = some (.cells #[.int .i64 a0_0, (.slice A0_1 l0_1.length c0_1)] 24 (0, 0))) ∧ Aside0 (Below w.heap.size w wc))
   case first =>
    have H := HC18.out; clear HC18; replace H := oS_.mp H; obtain ⟨t906, A190, H⟩ := H; have A19 := Z_ A190; clear A190; by_cases c20 : t906 = 0
    ·rw [if_pos c20] at H
     obtain ⟨c20b0, c20b1⟩ := be_ c20; clear c20; (first | rw [c20b0] | (simp only [i64_w, i32_w]; rw [c20b0]) | skip)
     replace H := oS_.mp H; obtain ⟨t907, A210, H⟩ := H; have A21 := Z_ A210; clear A210; have H' := Z_ H; clear H; obtain ⟨⟨hcz22_0, hcz22_1⟩, hfz22_0, hfz22_1⟩ := f2_ BK902.out; go_wp2_with (first | ((with_reducible refine gate_callee (f := 22) rfl ?_); refine gL_ (some 36) Try.func22 #[.agg #[.int .i64 a0_0, .slice A0_1 l0_1.length c0_1]] ?_; (with_reducible refine (snowlineref04_Check.calls k a0_0 _ _ l0_1 t906 _ ?side1 ?side2 A19.out).mono ?_); (case side1 => exact cS_ (cB_ HR0_1.out HB.out)); (case side2 => exact HC0_1.out); rintro e w23 ⟨rfl, hb⟩; refine ⟨_, rfl, ?_⟩; replace BK902 := Z_ (bB_ (g := gb902) (o := .cells #[.int .i64 a0_0, .slice A0_1 l0_1.length c0_1] 24 (0, 0)) (bR_ BK902.out) hb); replace HB := Z_ (fS_ hB_ hb); (try clear hb); (try clear hb2); (try clear hk); (try clear hi); obtain ⟨⟨hcz24_0, hcz24_1⟩, hfz24_0, hfz24_1⟩ := f2_ BK902.out) | (go_at_call 23; (with_reducible refine (snowlinelaw04_small.calls a0_0 _ _ l0_1 t907 _ ?side1 ?side2 A21.out).mono ?_); (case side1 => exact cS_ (cB_ HR0_1.out HB.out)); (case side2 => exact HC0_1.out); rintro e w25 ⟨rfl, hb⟩; replace BK902 := Z_ (bB_ (g := gb902) (o := .cells #[.int .i64 a0_0, .slice A0_1 l0_1.length c0_1] 24 (0, 0)) (bR_ BK902.out) hb); replace HB := Z_ (fS_ hB_ hb); (try clear hb); (try clear hb2); (try clear hk); (try clear hi))); go_meet
     case rel => exact ⟨_, (!t907), rf_, H', ⟨oL_⟩, ⟨bR_ BK902.out⟩, ⟨hB_⟩⟩
    rw [if_neg c20] at H; obtain ⟨c20b0, c20b1⟩ := bn_ c20; (first | rw [c20b0] | (simp only [i64_w, i32_w]; rw [c20b0]) | skip)
    have H' := Z_ H; clear H; obtain ⟨⟨hcz26_0, hcz26_1⟩, hfz26_0, hfz26_1⟩ := f2_ BK902.out; go_wp2_with (first | ((with_reducible refine gate_callee (f := 22) rfl ?_); refine gL_ (some 36) Try.func22 #[.agg #[.int .i64 a0_0, .slice A0_1 l0_1.length c0_1]] ?_; (with_reducible refine (snowlineref04_Check.calls k a0_0 _ _ l0_1 t906 _ ?side1 ?side2 A19.out).mono ?_); (case side1 => exact cS_ (cB_ HR0_1.out HB.out)); (case side2 => exact HC0_1.out); rintro e w27 ⟨rfl, hb⟩; refine ⟨_, rfl, ?_⟩; replace BK902 := Z_ (bB_ (g := gb902) (o := .cells #[.int .i64 a0_0, .slice A0_1 l0_1.length c0_1] 24 (0, 0)) (bR_ BK902.out) hb); replace HB := Z_ (fS_ hB_ hb); (try clear hb); (try clear hb2); (try clear hk); (try clear hi))); go_meet
    case rel => exact ⟨_, (false), rf_, H', ⟨oL_⟩, ⟨bR_ BK902.out⟩, ⟨hB_⟩⟩
   case rest =>
    clear HC18; (try clear c1); (try clear c2); (try clear p2); (try clear c4); (try clear c10); (try clear c11); (try clear c17); (try clear c17b0); (try clear c17b1); (try clear c20); (try clear c20b0); (try clear c20b1); (try clear c21); (try clear c22); (try clear hcz22_0); (try clear hcz22_1); (try clear hcz24_0); (try clear hcz24_1); (try clear hcz26_0); (try clear hcz26_1); (try clear hfz22_0); (try clear hfz22_1); (try clear hfz24_0); (try clear hfz24_1); (try clear hfz26_0); (try clear hfz26_1)
    obtain ⟨kq, x42_17, rfl, HA, HJ17, BK902, HB⟩ := hcut
    cases kq with
    | zero => exact absurd HA.out (by simp [snowlinelaw04_DiffsApartSpec.j0])
    | succ kj17 =>
     have H := HA.out; clear HA; simp only [snowlinelaw04_DiffsApartSpec.j0] at H; by_cases c28 : x42_17 = true
     ·subst c28
      rw [if_pos rfl] at H; obtain rfl := oI_ H; go_wp2; go_ret; exact ⟨eW_, hB_⟩
     replace c28 := bE_.mpr c28; subst c28; have H1 : ((diffs_Apart.f kj17 a0_0 l0_1 a1 a2).bind fun bt908 => ((snowlineref04_Apart.f kj17 a0_0 l0_1 a1 a2).bind fun bt911 => ((diffs_Path.f kj17 a0_0 l0_1 a1 a2).bind fun bt914 => (if bt908.1 = bt911.1 then (if (bt908.2.1 != bt911.2.1) = true then (snowlinelaw04_DiffsApartSpec.j1 kj17 a1 a2 bt911.1 bt911.2.1 bt914.1 true a0_0 l0_1) else (if bt908.2.2 = bt911.2.2 then (if (bt914.2.1 != bt911.2.1) = true then (snowlinelaw04_DiffsApartSpec.j1 kj17 a1 a2 bt911.1 bt911.2.1 bt914.1 true a0_0 l0_1) else (snowlinelaw04_DiffsApartSpec.j1 kj17 a1 a2 bt911.1 bt911.2.1 bt914.1 (bt914.2.2 != bt911.2.2) a0_0 l0_1)) else (snowlinelaw04_DiffsApartSpec.j1 kj17 a1 a2 bt911.1 bt911.2.1 bt914.1 true a0_0 l0_1))) else (snowlinelaw04_DiffsApartSpec.j1 kj17 a1 a2 bt911.1 bt911.2.1 bt914.1 true a0_0 l0_1))))) = some r := by rw [if_neg (show ¬ (false = true) by decide)] at H; exact H
     clear H; have H := H1; clear H1; replace H := oS_.mp H; obtain ⟨⟨t908, t909, t910⟩, A290, H⟩ := H; have A29 := Z_ A290; clear A290; replace H := oS_.mp H; obtain ⟨⟨t911, t912, t913⟩, A300, H⟩ := H; have A30 := Z_ A300; clear A300; replace H := oS_.mp H; obtain ⟨⟨t914, t917, t918⟩, A310, H⟩ := H; have A31 := Z_ A310; clear A310; have HC32 := Z_ H; clear H; obtain ⟨⟨hcz33_0, hcz33_1⟩, hfz33_0, hfz33_1⟩ := f2_ BK902.out; go_upto_region 10 with (first | ((with_reducible refine gate_callee (f := 30) rfl ?_); refine gL_ (some 47) Try.func30 #[.agg #[.int .i64 a0_0, .slice A0_1 l0_1.length c0_1], .int .i64 a1, .int .i64 a2] ?_; (with_reducible refine (diffs_Apart.calls kj17 a0_0 _ _ l0_1 a1 a2 t908 t909 t910 _ ?side1 ?side2 A29.out).mono ?_); (case side1 => exact cS_ (cB_ HR0_1.out HB.out)); (case side2 => exact HC0_1.out); rintro e w34 ⟨rfl, hb⟩; refine ⟨_, rfl, ?_⟩; replace BK902 := Z_ (bB_ (g := gb902) (o := .cells #[.int .i64 a0_0, .slice A0_1 l0_1.length c0_1] 24 (0, 0)) (bR_ BK902.out) hb); replace HB := Z_ (fS_ hB_ hb); (try clear hb); (try clear hb2); (try clear hk); (try clear hi); obtain ⟨⟨hcz35_0, hcz35_1⟩, hfz35_0, hfz35_1⟩ := f2_ BK902.out) | ((with_reducible refine gate_callee (f := 45) rfl ?_); refine gL_ (some 55) Try.func45 #[.agg #[.int .i64 a0_0, .slice A0_1 l0_1.length c0_1], .int .i64 a1, .int .i64 a2] ?_; (with_reducible refine (snowlineref04_Apart.calls kj17 a0_0 _ _ l0_1 a1 a2 t911 t912 t913 _ ?side1 ?side2 A30.out).mono ?_); (case side1 => exact cS_ (cB_ HR0_1.out HB.out)); (case side2 => exact HC0_1.out); rintro e w36 ⟨rfl, hb⟩; refine ⟨_, rfl, ?_⟩; replace BK902 := Z_ (bB_ (g := gb902) (o := .cells #[.int .i64 a0_0, .slice A0_1 l0_1.length c0_1] 24 (0, 0)) (bR_ BK902.out) hb); replace HB := Z_ (fS_ hB_ hb); (try clear hb); (try clear hb2); (try clear hk); (try clear hi); obtain ⟨⟨hcz37_0, hcz37_1⟩, hfz37_0, hfz37_1⟩ := f2_ BK902.out) | ((with_reducible refine gate_callee (f := 46) rfl ?_); refine gL_ (some 63) Try.func46 #[.agg #[.int .i64 a0_0, .slice A0_1 l0_1.length c0_1], .int .i64 a1, .int .i64 a2] ?_; (with_reducible refine (diffs_Path.calls kj17 a0_0 _ _ l0_1 a1 a2 t914 t917 t918 _ ?side1 ?side2 A31.out).mono ?_); (case side1 => exact cS_ (cB_ HR0_1.out HB.out)); (case side2 => exact HC0_1.out); rintro e w38 ⟨v915, rfl, ho0, hb⟩; refine ⟨_, rfl, ?_⟩; have HO916 := Z_ (rL_ ho0 (fZ_ hB_)); replace BK902 := Z_ (bB_ (g := gb902) (o := .cells #[.int .i64 a0_0, .slice A0_1 l0_1.length c0_1] 24 (0, 0)) (bR_ BK902.out) hb); replace HB := Z_ (fS_ hB_ hb); (try clear hb); (try clear hb2); (try clear hk); (try clear hi); (try clear ho0))); (try simp only [Act.put, sT_, sZ_, sS_])
     go_cut [89] (fun v89 wc => ∃ (kq : Nat) (x89_31 : Bool), v89 = .bool x89_31 ∧ Aside0 (snowlinelaw04_DiffsApartSpec.j1 kq a1 a2 t911 t912 t914 x89_31 a0_0 l0_1 = some r) ∧ Aside0 (kq ≤ kj17) ∧ Aside0 (Kd.R (Kd.int .i64) 3 wc w.heap.size (fun _ => True) v915 t914) ∧ Aside0 (wc.heap[gb902]? = some (.cells #[.int .i64 a0_0, (.slice A0_1 l0_1.length c0_1)] 24 (0, 0))) ∧ Aside0 (Below w.heap.size w wc))
     case first =>
      have H := HC32.out; clear HC32; by_cases c39 : t908 = t911
      ·rw [if_pos c39] at H
       obtain ⟨c39b0, c39b1⟩ := be_ c39; clear c39; (first | rw [c39b0] | (simp only [i64_w, i32_w]; rw [c39b0]) | skip)
       by_cases c40 : (t909 != t912) = true
       ·rw [if_pos c40] at H
        have c40b0 : (t909 != t912) = true := c40; (try (have c40b1 : decide (t909 = t912) = false := by simpa using c40))
        (try (have c40b2 : (t909 == t912) = false := by simpa using c40))
        (try (have c40b3 : ¬ (t909 = t912) := by simpa using c40))
        clear c40; have H' := Z_ H; clear H; go_wp2; go_meet
        case rel => exact ⟨_, (true), rf_, H', ⟨by have := HJ17.out; first | omega | exact nR_ _⟩, ⟨rK_ HO916.out⟩, ⟨bR_ BK902.out⟩, ⟨hB_⟩⟩
       rw [if_neg c40] at H; have c40b0 : (t909 != t912) = false := by simpa using c40
       (try (have c40b1 : decide (t909 = t912) = true := by simpa using c40))
       (try (have c40b2 : (t909 == t912) = true := by simpa using c40))
       clear c40; by_cases c41 : t910 = t913
       ·rw [if_pos c41] at H
        obtain ⟨c41b0, c41b1⟩ := be_ c41; clear c41; by_cases c42 : (t917 != t912) = true
        ·rw [if_pos c42] at H
         have c42b0 : (t917 != t912) = true := c42; (try (have c42b1 : decide (t917 = t912) = false := by simpa using c42))
         (try (have c42b2 : (t917 == t912) = false := by simpa using c42))
         (try (have c42b3 : ¬ (t917 = t912) := by simpa using c42))
         clear c42; have H' := Z_ H; clear H; go_wp2; go_meet
         case rel => exact ⟨_, (true), rf_, H', ⟨by have := HJ17.out; first | omega | exact nR_ _⟩, ⟨rK_ HO916.out⟩, ⟨bR_ BK902.out⟩, ⟨hB_⟩⟩
        rw [if_neg c42] at H; have c42b0 : (t917 != t912) = false := by simpa using c42
        (try (have c42b1 : decide (t917 = t912) = true := by simpa using c42))
        (try (have c42b2 : (t917 == t912) = true := by simpa using c42))
        clear c42; have H' := Z_ H; clear H; go_wp2; go_meet
        case rel => exact ⟨_, ((t918 != t913)), rf_, H', ⟨by have := HJ17.out; first | omega | exact nR_ _⟩, ⟨rK_ HO916.out⟩, ⟨bR_ BK902.out⟩, ⟨hB_⟩⟩
       rw [if_neg c41] at H; obtain ⟨c41b0, c41b1⟩ := bn_ c41; have H' := Z_ H; clear H; go_wp2; go_meet
       case rel => exact ⟨_, (true), rf_, H', ⟨by have := HJ17.out; first | omega | exact nR_ _⟩, ⟨rK_ HO916.out⟩, ⟨bR_ BK902.out⟩, ⟨hB_⟩⟩
      rw [if_neg c39] at H; obtain ⟨c39b0, c39b1⟩ := bn_ c39; (first | rw [c39b0] | (simp only [i64_w, i32_w]; rw [c39b0]) | skip)
      have H' := Z_ H; clear H; go_wp2; go_meet
      case rel => exact ⟨_, (true), rf_, H', ⟨by have := HJ17.out; first | omega | exact nR_ _⟩, ⟨rK_ HO916.out⟩, ⟨bR_ BK902.out⟩, ⟨hB_⟩⟩
     case rest =>
      clear HC32; (try clear c1); (try clear c2); (try clear p2); (try clear c3); (try clear c4); (try clear c10); (try clear c11); (try clear c17); (try clear c17b0); (try clear c17b1); (try clear c20); (try clear c20b0); (try clear c20b1); (try clear c21); (try clear c22); (try clear c28); (try clear c30); (try clear c39); (try clear c39b0); (try clear c39b1); (try clear c40); (try clear c40b0); (try clear c40b1); (try clear c40b2); (try clear c41); (try clear c41b0); (try clear c41b1); (try clear c42); (try clear c42b0); (try clear c42b1); (try clear c42b2); (try clear hcz22_0); (try clear hcz22_1); (try clear hcz24_0); (try clear hcz24_1); (try clear hcz26_0); (try clear hcz26_1); (try clear hcz33_0); (try clear hcz33_1); (try clear hcz35_0); (try clear hcz35_1); (try clear hcz37_0); (try clear hcz37_1); (try clear hfz22_0); (try clear hfz22_1); (try clear hfz24_0); (try clear hfz24_1); (try clear hfz26_0); (try clear hfz26_1); (try clear hfz33_0); (try clear hfz33_1); (try clear hfz35_0); (try clear hfz35_1); (try clear hfz37_0); (try clear hfz37_1); (try clear p2)
      obtain ⟨kq, x89_31, rfl, HA, HJ31, HO_17, BK902, HB⟩ := hcut
      cases kq with
      | zero => exact absurd HA.out (by simp [snowlinelaw04_DiffsApartSpec.j1])
      | succ kj31 =>
       have H := HA.out; clear HA; simp only [snowlinelaw04_DiffsApartSpec.j1] at H; by_cases c43 : x89_31 = true
       ·subst c43
        rw [if_pos rfl] at H; obtain rfl := oI_ H; go_wp2; go_ret; exact ⟨eW_, hB_⟩
       replace c43 := bE_.mpr c43; subst c43; have H1 : (if t912 = true then ((snowlineref04_CheckPath.f kj31 a0_0 l0_1 a1 a2 t911 t914).bind fun t919 => (if t919 = 0 then ((snowlineref04_Simple.f kj31 a0_0 l0_1 a1 t914).bind fun t920 => (some t920)) else (some false))) else (some ((t914.length : Int) == 0))) = some r := by rw [if_neg (show ¬ (false = true) by decide)] at H; exact H
       clear H; have H := H1; clear H1; by_cases c44 : t912 = true
       ·subst c44
        rw [if_pos rfl] at H; replace H := oS_.mp H; obtain ⟨t919, A450, H⟩ := H; have A45 := Z_ A450; clear A450; by_cases c46 : t919 = 0
        ·rw [if_pos c46] at H
         obtain ⟨c46b0, c46b1⟩ := be_ c46; clear c46; replace H := oS_.mp H; obtain ⟨t920, A470, H⟩ := H; have A47 := Z_ A470; clear A470; obtain rfl := oI_ H; obtain ⟨⟨hcz48_0, hcz48_1⟩, hfz48_0, hfz48_1⟩ := f2_ BK902.out; obtain ⟨Ao49, co49, eo49⟩ := rS_ HO_17.out; subst eo49; go_wp2_with (first | ((with_reducible refine gate_callee (f := 44) rfl ?_); refine gL_ (some 100) Try.func44 #[.agg #[.int .i64 a0_0, .slice A0_1 l0_1.length c0_1], .int .i64 a1, .int .i64 a2, .int .i64 t911, .slice Ao49 t914.length co49] ?_; (with_reducible refine (snowlineref04_CheckPath.calls kj31 a0_0 _ _ l0_1 a1 a2 t911 _ _ t914 t919 _ ?side1 ?side2 ?side3 ?side4 A45.out).mono ?_); (case side1 => exact cS_ (cB_ HR0_1.out HB.out)); (case side2 => exact HC0_1.out); (case side3 => repeat (first | exact (rR_ HO_17.out).2.2 | (with_reducible refine Kd.C_alloc ?_ _) | (with_reducible refine Kd.C_drewN ?_ _) | (with_reducible refine Kd.C_drew ?_))); (case side4 => exact (rR_ HO_17.out).2.1); rintro e w50 ⟨rfl, hb⟩; refine ⟨_, rfl, ?_⟩; replace HO_17 := Z_ (rB_ (rK_ HO_17.out) hb); replace BK902 := Z_ (bB_ (g := gb902) (o := .cells #[.int .i64 a0_0, .slice A0_1 l0_1.length c0_1] 24 (0, 0)) (bR_ BK902.out) hb); replace HB := Z_ (fS_ hB_ hb); (try clear hb); (try clear hb2); (try clear hk); (try clear hi); obtain ⟨⟨hcz51_0, hcz51_1⟩, hfz51_0, hfz51_1⟩ := f2_ BK902.out) | (go_at_call 47; (with_reducible refine (snowlineref04_Simple.calls kj31 a0_0 _ _ l0_1 a1 _ _ t914 t920 _ ?side1 ?side2 ?side3 ?side4 A47.out).mono ?_); (case side1 => exact cS_ (cB_ HR0_1.out HB.out)); (case side2 => exact HC0_1.out); (case side3 => repeat (first | exact (rR_ HO_17.out).2.2 | (with_reducible refine Kd.C_alloc ?_ _) | (with_reducible refine Kd.C_drewN ?_ _) | (with_reducible refine Kd.C_drew ?_))); (case side4 => exact (rR_ HO_17.out).2.1); rintro e w52 ⟨rfl, hb⟩; replace HO_17 := Z_ (rB_ (rK_ HO_17.out) hb); replace BK902 := Z_ (bB_ (g := gb902) (o := .cells #[.int .i64 a0_0, .slice A0_1 l0_1.length c0_1] 24 (0, 0)) (bR_ BK902.out) hb); replace HB := Z_ (fS_ hB_ hb); (try clear hb); (try clear hb2); (try clear hk); (try clear hi))); go_ret; exact ⟨eW_, hB_⟩
        rw [if_neg c46] at H; obtain ⟨c46b0, c46b1⟩ := bn_ c46; obtain rfl := oI_ H; obtain ⟨⟨hcz53_0, hcz53_1⟩, hfz53_0, hfz53_1⟩ := f2_ BK902.out; obtain ⟨Ao54, co54, eo54⟩ := rS_ HO_17.out; subst eo54; go_wp2_with (first | ((with_reducible refine gate_callee (f := 44) rfl ?_); refine gL_ (some 100) Try.func44 #[.agg #[.int .i64 a0_0, .slice A0_1 l0_1.length c0_1], .int .i64 a1, .int .i64 a2, .int .i64 t911, .slice Ao54 t914.length co54] ?_; (with_reducible refine (snowlineref04_CheckPath.calls kj31 a0_0 _ _ l0_1 a1 a2 t911 _ _ t914 t919 _ ?side1 ?side2 ?side3 ?side4 A45.out).mono ?_); (case side1 => exact cS_ (cB_ HR0_1.out HB.out)); (case side2 => exact HC0_1.out); (case side3 => repeat (first | exact (rR_ HO_17.out).2.2 | (with_reducible refine Kd.C_alloc ?_ _) | (with_reducible refine Kd.C_drewN ?_ _) | (with_reducible refine Kd.C_drew ?_))); (case side4 => exact (rR_ HO_17.out).2.1); rintro e w55 ⟨rfl, hb⟩; refine ⟨_, rfl, ?_⟩; replace HO_17 := Z_ (rB_ (rK_ HO_17.out) hb); replace BK902 := Z_ (bB_ (g := gb902) (o := .cells #[.int .i64 a0_0, .slice A0_1 l0_1.length c0_1] 24 (0, 0)) (bR_ BK902.out) hb); replace HB := Z_ (fS_ hB_ hb); (try clear hb); (try clear hb2); (try clear hk); (try clear hi))); go_ret; exact ⟨eW_, hB_⟩
       replace c44 := bE_.mpr c44; subst c44; have H1 : (some ((t914.length : Int) == 0)) = some r := by rw [if_neg (show ¬ (false = true) by decide)] at H; exact H
       clear H; have H := H1; clear H1; obtain rfl := oI_ H; obtain ⟨Ao56, co56, eo56⟩ := rS_ HO_17.out; subst eo56; go_wp2; go_ret; exact ⟨eW_, hB_⟩
  rw [if_neg c17] at H; obtain ⟨c17b0, c17b1⟩ := bn_ c17; (first | rw [c17b0] | (simp only [i64_w, i32_w]; rw [c17b0]) | skip)
  obtain rfl := oI_ H; go_wp2; go_ret; exact ⟨eW_, hB_⟩
 replace c10 := bE_.mpr c10; subst c10; have H1 : (some false) = some r := by rw [if_neg (show ¬ (false = true) by decide)] at H; exact H
 clear H; have H := H1; clear H1; obtain rfl := oI_ H; go_wp2; go_ret; exact ⟨eW_, hB_⟩
end Go.Proofs.Ytpolojoeabmhdaa.A
/- DiffsApartSpec, over numbers and lists alone. -/
namespace Go.Proofs.Ytpolojoeabmhdaa.A
open Go.RowKit Go.Proofs.YtpolojoeabmhdaaW.PrintWords Go.Proofs.YtpolojoeabmhdaaW.PrintLast Go.Proofs.YtpolojoeabmhdaaW.PrintMore
theorem small_some (n : Int) (L : List S39) : snowlinelaw04_small.f n L = some (decide (n ≤ 16 ∧ L.length ≤ 60)) := by
  unfold snowlinelaw04_small.f
  by_cases h : n ≤ 16
  · rw [if_pos h]
    congr 1
    exact decide_eq_decide.2 (by omega)
  · rw [if_neg h]
    congr 1
    rw [decide_eq_false]
    omega
section
variable {n : Nat} {L : List S39}
theorem rnode_some (a m : Int) : snowlineref04_node.f a m = some (decide (0 ≤ a ∧ a < m)) := by
  unfold snowlineref04_node.f
  by_cases h : a ≥ 0
  · rw [if_pos h]; congr 1; exact decide_eq_decide.2 (by omega)
  · rw [if_neg h]; congr 1; exact (decide_eq_false (by omega)).symm
theorem rcpath_ev (hV : Valid n L) (u v a : Int) (l : List Int) (hl : l.length ≤ 17592186044416) : ∃ e, Ev (fun k => snowlineref04_CheckPath.f k n L u v a l) e ∧ Code (Nodes n u v ∧ Idx L l) (PathIs n L u v a l) e := by
  have hn1 := hV.n1
  have hn2 := hV.n2
  have hc := rcheck_ev n L
  rw [if_pos (validB_iff.2 hV)] at hc
  unfold snowlineref04_CheckPath.f
  simp only [rnode_some, Option.bind_some]
  have hT : Ev (fun k => snowlineref04_CheckPath.j0 k u v a l true n L) 1 := Ev.step (f := fun _ => some 1) (fun k => by rw [snowlineref04_CheckPath.j0]; rfl) (Ev.now _)
  have hT1 : Ev (fun k => snowlineref04_CheckPath.j1 k true) 43 := Ev.step (f := fun _ => some 43) (fun k => by rw [snowlineref04_CheckPath.j1]; rfl) (Ev.now _)
  have hF1 : Ev (fun k => snowlineref04_CheckPath.j1 k false) 0 := Ev.step (f := fun _ => some 0) (fun k => by rw [snowlineref04_CheckPath.j1]; rfl) (Ev.now _)
  by_cases hu : 0 ≤ u ∧ u < (n : Int)
  case neg => exact ⟨1, hc.bind (Ev.pos rfl (Ev.neg (by simpa using hu) hT)), fun _ => rfl, fun h => absurd h.1.1 hu, fun h => absurd h.1.1 hu⟩
  by_cases hv : 0 ≤ v ∧ v < (n : Int)
  case neg => exact ⟨1, hc.bind (Ev.pos rfl (Ev.pos (by simpa using hu) (Ev.neg (by simpa using hv) hT))), fun _ => rfl, fun h => absurd h.1.2 hv, fun h => absurd h.1.2 hv⟩
  obtain ⟨b, b1, b2⟩ := rindices_ev (L := L) l hl n
  have hin : ∀ {e}, Ev (fun k => snowlineref04_CheckPath.j0 k u v a l (!b) n L) e → Ev (fun k => (snowlineref04_Check.f k n L).bind fun t842 => (if t842 = 0 then (if (decide (0 ≤ u ∧ u < (n : Int))) = true then (if (decide (0 ≤ v ∧ v < (n : Int))) = true then ((snowlineref04_indices.f k n L l).bind fun t845 => (snowlineref04_CheckPath.j0 k u v a l (!t845) n L)) else (snowlineref04_CheckPath.j0 k u v a l true n L)) else (snowlineref04_CheckPath.j0 k u v a l true n L)) else (some 40))) e := fun h =>
    hc.bind (Ev.pos rfl (Ev.pos (by simpa using hu) (Ev.pos (by simpa using hv) (b1.bind h))))
  cases b with
  | false => exact ⟨1, hin hT, fun _ => rfl, fun h => absurd (b2.2 h.2) (by decide), fun h => absurd (b2.2 h.2) (by decide)⟩
  | true =>
    have hi := b2.1 rfl
    have hA : Nodes n u v ∧ Idx L l := ⟨⟨hu, hv⟩, hi⟩
    have hin2 : ∀ {e}, Ev (fun k => if (l.length : Int) > (n : Int) - 1 then some 43 else ((snowlineref04_walk.f k n L u v l).bind fun bt846 => (if bt846.2 = true then (snowlineref04_CheckPath.j1 k (decide (bt846.1 > a))) else (snowlineref04_CheckPath.j1 k true)))) e → Ev (fun k => snowlineref04_CheckPath.j0 k u v a l (!true) n L) e := fun h =>
      Ev.step (fun k => by rw [snowlineref04_CheckPath.j0, if_neg (by decide), wrap_id (by omega) (by omega)]) h
    by_cases c1 : (l.length : Int) > (n : Int) - 1
    · exact ⟨43, hin (hin2 (Ev.pos c1 (Ev.now _))), fun h => absurd hA h, fun _ _ => rfl, fun _ h => by have := h.c; omega⟩
    obtain ⟨W, c, g1, g2, g3⟩ := rwalk_ev hV.e hi (by omega) n u v
    cases c with
    | false => exact ⟨43, hin (hin2 (Ev.neg c1 (g1.bind (Ev.neg (by simp) hT1)))), fun h => absurd hA h, fun _ _ => rfl, fun _ h => by
        obtain ⟨W', _, h2⟩ := h.w
        exact absurd h2 (g3 rfl _)⟩
    | true =>
      have w1 := g2 rfl
      by_cases c2 : W > a
      · refine ⟨43, hin (hin2 (Ev.neg c1 (g1.bind (Ev.pos rfl ?_)))), fun h => absurd hA h, fun _ _ => rfl, fun _ h => by
          obtain ⟨W'', h1, h2⟩ := h.w
          have := w1.unique h2
          omega⟩
        simp only [decide_eq_true c2]; exact hT1
      · refine ⟨0, hin (hin2 (Ev.neg c1 (g1.bind (Ev.pos rfl ?_)))), fun h => absurd hA h, fun _ h => absurd ⟨hi, by omega, W, by omega, w1⟩ h, fun _ _ => rfl⟩
        simp only [decide_eq_false c2]; exact hF1
theorem rcpath_bad {m : Int} (hv : ¬ validB m L = true) (u v a : Int) (l : List Int) : Ev (fun k => snowlineref04_CheckPath.f k m L u v a l) 40 := by
  have hc := rcheck_ev m L
  rw [if_neg hv] at hc
  unfold snowlineref04_CheckPath.f
  exact hc.bind (Ev.neg (by decide) (Ev.now _))
/-- Apart of the reference. -/
theorem rapart_ev (hV : Valid n L) (i j : Int) : ∃ a b e, Ev (fun k => snowlineref04_Apart.f k n L i j) (a, b, e) ∧ ApartIs n L i j a b e := by
  have hn0 : 0 < n := by have := hV.n1; omega
  have hn : n ≤ 65536 := by have := hV.n2; omega
  have hl : L.length ≤ 65536 := by have := hV.l; omega
  have hm := hmul hV
  have hc := rcheck_ev n L
  rw [if_pos (validB_iff.2 hV)] at hc
  obtain ⟨b, hb, hse⟩ := solvable_ev hn0 hn hV.e hm hl
  unfold snowlineref04_Apart.f
  simp only [rnode_some, Option.bind_some]
  have hT : Ev (fun k => snowlineref04_Apart.j0 k i j true n L) (0, false, 1) := Ev.step (f := fun _ => some (0, false, 1)) (fun k => by rw [snowlineref04_Apart.j0]; rfl) (Ev.now _)
  by_cases hu : 0 ≤ i ∧ i < (n : Int)
  case neg => exact ⟨0, false, 1, hc.bind (Ev.pos rfl (Ev.neg (by simpa using hu) hT)), fun _ => ⟨rfl, rfl, rfl⟩, fun h => absurd ⟨h.1, h.2.1⟩ hu, fun h => absurd ⟨h.1, h.2.1⟩ hu, by omega⟩
  by_cases hv : 0 ≤ j ∧ j < (n : Int)
  case neg =>
    refine ⟨0, false, 1, hc.bind (Ev.pos rfl (Ev.pos (by simpa using hu) ?_)), fun _ => ⟨rfl, rfl, rfl⟩, fun h => absurd h.2.2 hv, fun h => absurd h.2.2 hv, by omega⟩
    rw [decide_eq_false hv]
    exact hT
  have hin : ∀ {r}, Ev (fun k => (snowlineref04_Solvable.f k n L).bind fun t852 => (if t852 = true then ((snowlineref04_marks.f k n L false i).bind fun t853 => ((snowlineref04_Lengths.f k n L t853).bind fun bt856 => (if 0 ≤ j then (if j < (bt856.2.1.length : Int) then (if rdOf false bt856.2.1 j = true then (if j < (bt856.1.length : Int) then (some (rd bt856.1 j, true, 0)) else (none)) else (some (0, false, 0))) else (none)) else (none)))) else (some (0, false, 41)))) r → Ev (fun k => (snowlineref04_Check.f k n L).bind fun t849 => (if t849 = 0 then (if (decide (0 ≤ i ∧ i < (n : Int))) = true then (snowlineref04_Apart.j0 k i j (!(decide (0 ≤ j ∧ j < (n : Int)))) n L) else (snowlineref04_Apart.j0 k i j true n L)) else (some (0, false, 40)))) r := fun h =>
    hc.bind (Ev.pos rfl (Ev.pos (by simpa using hu) (by rw [decide_eq_true hv]; exact Ev.step (fun k => by rw [snowlineref04_Apart.j0, if_neg (by decide)]) h)))
  by_cases hs : Solv L
  · obtain rfl := hb.2 hs
    obtain ⟨s, k1, k2, hf, k3⟩ := reach_yes hn0 hn hV.e hm hs hu.1 hu.2
    have h4 := len_one hn0 hn hV.e hm hl hu.1 hu.2 k1
    have hsh := tree_short hV.e hu.1 hu.2 k2 hf hv.1 hv.2
    have hbd := k2.bounds hv.1 hv.2
    obtain ⟨B, T, hb0, hb2, hB⟩ := k2.bf
    have l1 := hB.l1
    have l2 := hB.l2
    refine ⟨rd s.lo j, rdOf false s.ha j, 0, hin (hse.bind (Ev.pos rfl ((marks_one n hn L hu.1 hu.2).bind (h4.bind (Ev.pos hv.1 (Ev.pos (by simp only; omega) ?_)))))), fun h => absurd ⟨hu.1, hu.2, hv⟩ h, fun _ h => absurd hs h, fun _ _ => ⟨rfl, hsh⟩, by omega⟩
    cases hh : rdOf false s.ha j with
    | false =>
      rw [hh] at hsh
      rw [(hsh.no rfl).1]
      exact Ev.neg (by simp) (Ev.now _)
    | true => exact Ev.pos rfl (Ev.pos (by simp only; omega) (Ev.now _))
  · have hbf : ¬ b = true := fun h => hs (hb.1 h)
    exact ⟨0, false, 41, hin (hse.bind (Ev.neg hbf (Ev.now _))), fun h => absurd ⟨hu.1, hu.2, hv⟩ h, fun _ _ => ⟨rfl, rfl, rfl⟩, fun _ h => absurd h hs, by omega⟩
theorem apart_bad {m : Int} (hv : ¬ validB m L = true) (u v : Int) : Ev (fun k => diffs_Apart.f k m L u v) (0, false, 40) := by
  unfold diffs_Apart.f
  simp only [in_some, Option.bind_some]
  generalize (decide (0 ≤ u) && decide (u ≤ wrap64 (m - 1))) = p
  generalize (decide (0 ≤ v) && decide (v ≤ wrap64 (m - 1))) = q
  have hask := asked_ev m L [p, q] (by simp)
  rw [if_neg hv] at hask
  exact hask.bind (Ev.neg (by decide) (Ev.now _))
theorem path_bad {m : Int} (hv : ¬ validB m L = true) (u v : Int) : Ev (fun k => diffs_Path.f k m L u v) ([], false, 40) := by
  unfold diffs_Path.f
  simp only [in_some, Option.bind_some]
  generalize (decide (0 ≤ u) && decide (u ≤ wrap64 (m - 1))) = p
  generalize (decide (0 ≤ v) && decide (v ≤ wrap64 (m - 1))) = q
  have hask := asked_ev m L [p, q] (by simp)
  rw [if_neg hv] at hask
  exact hask.bind (Ev.neg (by decide) (Ev.now _))
theorem rapart_bad {m : Int} (hv : ¬ validB m L = true) (u v : Int) : Ev (fun k => snowlineref04_Apart.f k m L u v) (0, false, 40) := by
  have hc := rcheck_ev m L
  rw [if_neg hv] at hc
  unfold snowlineref04_Apart.f
  exact hc.bind (Ev.neg (by decide) (Ev.now _))
/-- The nodes that a walk has come to. -/
def metL (L : List S39) (u : Int) (l : List Int) : List Int := u :: l.map fun i => (rd_T39 L i).f1
theorem simple_l1 {l met : List Int} {i t N : Int} (hml : met.length ≤ 65536) (hno : t ∉ met) {r : Bool} (hgo : Ev (fun k => snowlineref04_Simple.l0 k l (met ++ [t]) (i + 1) N L) r) (hi0 : 0 ≤ i) (hi1 : i < 65536) : ∀ (q : Nat) (j : Int), (q : Int) + j = met.length → 0 ≤ j →
    Ev (fun k => snowlineref04_Simple.l1 k l met i t j N L) r := by
  intro q
  induction q with
  | zero =>
    intro j hq h0
    exact Ev.step (fun k => by rw [snowlineref04_Simple.l1, if_neg (by omega), if_pos (by omega), wrap_id (x := i + 1) (by omega) (by omega)]) hgo
  | succ q ih =>
    intro j hq h0
    refine Ev.step (fun k => ?_) (ih (j + 1) (by omega) (by omega))
    rw [snowlineref04_Simple.l1, if_pos (by omega), if_pos h0, if_neg (fun h => hno (by rw [← h]; exact rd_mem h0 (by omega))), wrap_id (x := j + 1) (by omega) (by omega)]
theorem simple_l0 {u : Int} {l : List Int} (hi : Idx L l) (hl : l.length ≤ 256) (hs : Simple L l) (hu : ∀ i : Int, 0 ≤ i → i < l.length → (rd_T39 L (rd l i)).f1 ≠ u) (N : Int) : ∀ (q i : Nat), q + i = l.length →
    Ev (fun k => snowlineref04_Simple.l0 k l (metL L u (l.take i)) i N L) true := by
  intro q
  induction q with
  | zero =>
    intro i hq
    exact Ev.step (f := fun _ => some true) (fun k => by rw [snowlineref04_Simple.l0, if_neg (by omega)]) (Ev.now _)
  | succ q ih =>
    intro i hq
    have hx := hi i (by omega) (by omega)
    have e1 : rd l (i : Int) = l[i]'(by omega) := by
      unfold rd
      rw [List.getD_eq_getElem?_getD, Int.toNat_natCast, List.getElem?_eq_getElem (by omega)]; rfl
    have hnext : metL L u (l.take (i + 1)) = metL L u (l.take i) ++ [(rd_T39 L (rd l i)).f1] := by
      unfold metL
      rw [take_snoc l i (by omega), List.map_append, e1]; rfl
    have hno : (rd_T39 L (rd l i)).f1 ∉ metL L u (l.take i) := by
      unfold metL
      intro h
      rcases List.mem_cons.1 h with h | h
      · exact hu i (by omega) (by omega) h
      · obtain ⟨x, hx, he⟩ := List.mem_map.1 h
        obtain ⟨j, j0, j1, rfl⟩ := mem_rd hx
        rw [List.length_take] at j1
        have : rd (l.take i) j = rd l j := by
          unfold rd
          rw [List.getD_eq_getElem?_getD, List.getD_eq_getElem?_getD, List.getElem?_take, if_pos (by omega)]
        rw [this] at he
        exact hs j i j0 (by omega) (by omega) he
    have hg := ih (i + 1) (by omega)
    rw [hnext] at hg
    have hml : (metL L u (l.take i)).length ≤ 65536 := by unfold metL; simp; omega
    refine Ev.step (f := fun k => snowlineref04_Simple.l1 k l (metL L u (l.take i)) i (rd_T39 L (rd l i)).f1 0 N L) (fun k => ?_) (simple_l1 hml hno hg (by omega) (by omega) (metL L u (l.take i)).length 0 (by omega) (by omega))
    rw [snowlineref04_Simple.l0, if_pos (by omega), if_pos (by omega), if_pos hx.1, if_pos hx.2]
theorem simple_ev {u : Int} {l : List Int} (hi : Idx L l) (hl : l.length ≤ 256) (hs : Simple L l) (hu : ∀ i : Int, 0 ≤ i → i < l.length → (rd_T39 L (rd l i)).f1 ≠ u) (N : Int) : Ev (fun k => snowlineref04_Simple.f k N L u l) true :=
  simple_l0 hi hl hs hu N l.length 0 (by omega)
end
theorem apartspec_ev (n : Int) (L : List S39) (u v m : Int) (l : List Int) (hl : l.length ≤ 17592186044416) : Ev (fun k => snowlinelaw04_DiffsApartSpec.f k n L u v m l) true := by
  unfold snowlinelaw04_DiffsApartSpec.f snowlinelaw04_sane.f
  simp only [Option.bind_some, if_true]
  by_cases hv : validB n L = true
  case neg =>
    have hr := rcheck_ev n L
    rw [if_neg hv] at hr
    refine (cpath_bad hv u v m l).bind ((rcpath_bad hv u v m l).bind (Ev.pos rfl (hr.bind (Ev.neg (by decide) ?_))))
    refine Ev.step (f := fun q => _) (fun q => by rw [snowlinelaw04_DiffsApartSpec.j0, if_neg (by decide)]) ?_
    refine (apart_bad hv u v).bind ((rapart_bad hv u v).bind ((path_bad hv u v).bind (Ev.pos rfl (Ev.neg (by decide) (Ev.pos rfl (Ev.neg (by decide) ?_))))))
    exact Ev.step (f := fun _ => some true) (fun q => by rw [snowlinelaw04_DiffsApartSpec.j1]; rfl) (Ev.now _)
  have hV := validB_iff.1 hv
  obtain ⟨N, rfl⟩ : ∃ N : Nat, n = N := ⟨n.toNat, by have := hV.n1; omega⟩
  have hr := rcheck_ev N L
  rw [if_pos hv] at hr
  obtain ⟨e, e1, e2⟩ := cpath_ev hV u v m l hl
  obtain ⟨e', e3, e4⟩ := rcpath_ev hV u v m l hl
  obtain rfl := e2.unique e4
  refine e1.bind (e3.bind (Ev.pos rfl (hr.bind (Ev.pos rfl ?_))))
  rw [small_some]
  simp only [Option.bind_some]
  by_cases hsm : (N : Int) ≤ 16 ∧ L.length ≤ 60
  case neg =>
    rw [decide_eq_false hsm]
    exact Ev.step (f := fun _ => some true) (fun q => by rw [snowlinelaw04_DiffsApartSpec.j0]; rfl) (Ev.now _)
  rw [decide_eq_true hsm]
  obtain ⟨a, b, f, p, a1, a2, q1, q2, q3⟩ := apath_ev hV u v
  obtain ⟨a', b', f', r1, r2⟩ := rapart_ev hV u v
  obtain ⟨rfl, rfl, rfl⟩ := a2.unique r2
  refine Ev.step (f := fun q => _) (fun q => by rw [snowlinelaw04_DiffsApartSpec.j0, if_neg (by decide)]) ?_
  refine a1.bind (r1.bind (q1.bind (Ev.pos rfl (Ev.neg (by simp) (Ev.pos rfl (Ev.neg (by simp) ?_))))))
  simp only [bne_self_eq_false]
  refine Ev.step (f := fun q => _) (fun q => by rw [snowlinelaw04_DiffsApartSpec.j1, if_neg (by decide)]) ?_
  cases b with
  | false =>
    rw [q2 rfl]
    exact Ev.neg (by decide) (Ev.now _)
  | true =>
    obtain ⟨hN, hi, hc, hw, hsi, hnu⟩ := q3 rfl
    obtain ⟨g, g1, g2⟩ := rcpath_ev hV u v a p (by omega)
    obtain rfl := g2.yes ⟨hN, hi⟩ ⟨hi, hc, a, Int.le_refl _, hw⟩
    exact Ev.pos rfl (g1.bind (Ev.pos rfl ((simple_ev hi (by omega) hsi hnu N).bind (Ev.now _))))
end Go.Proofs.Ytpolojoeabmhdaa.A
/- DiffsApartSpec: for every input the law answers true, and what came in reads as it did. No conditions. -/
namespace Go.Proofs.Ytpolojoeabmhdaa.diffsApartSpec
open Go.ChangeShapes Go.WideShapes Go.ChangeAt Go.RowKit
open Go.Proofs.Ytpolojoeabmhdaa.A
open Go.Proofs.YtpolojoeabmhdaaW.PrintWords
set_option maxRecDepth 100000 in
theorem lifted (os : Os) (started : os.Started) (H : Type) (enc : TypeId × Value → H) :
    ReturnsInHanded {} Try.checked os 11 .any (Rows.diffsApartSpecSpec.pre6 enc Try.prog Try.f11 Rows.diffsApartSpecRow.domain false) (Rows.diffsApartSpecSpec.post enc Try.prog Try.f11 false true false false) := by
  refine returnsInHanded_of_change_sized (C := Try.checked) own started (by kernel_rfl) Try.func11
    (ChangeSpec.witness6 (enc := enc) (C := Try.checked) false ⟨#[], #[.agg #[.int .i64 0, .slice none 0 0], .int .i64 0, .int .i64 0, .int .i64 0, .slice none 0 0], []⟩ 8 (by kernel_rfl) (by kernel_rfl) (by kernel_rfl) (by kernel_rfl)) ?_
  intro W base args ds gs before hval0 hW hcnd hsz0 _
  have hsz : (DataW.weightsEach Try.prog (Try.f11.params.toList ++ Rows.diffsApartSpecSpec.plain.varTypes Try.prog) (ds ++ gs)).all (· ≤ reachBytes) = true := hsz0
  have hval : ∀ (j : Nat) t v, Try.f11.params[j]? = some t → args[j]? = some v → Value.okWide Try.prog W .any base t v := hval0
  have hW' := hW
  obtain ⟨p, q, hA0, hV, rfl, hfz, hnd⟩ := hW
  have hA : DataW.TrodAll enc Try.prog W 0 (fun _ => true) true Try.f11.params.toList args.toList ds p := hA0
  rw [Try.params11] at hA hval hsz
  obtain ⟨v0, vs0, d0, ds0, p0, q0, hargs, rfl, rfl, h0, r0⟩ := trodAll_cons hA
  obtain ⟨v1, vs1, d1, ds1, p1, q1, rfl, rfl, rfl, h1, r1⟩ := trodAll_cons r0
  obtain ⟨v2, vs2, d2, ds2, p2, q2, rfl, rfl, rfl, h2, r2⟩ := trodAll_cons r1
  obtain ⟨v3, vs3, d3, ds3, p3, q3, rfl, rfl, rfl, h3, r3⟩ := trodAll_cons r2
  obtain ⟨v4, vs4, d4, ds4, p4, q4, rfl, rfl, rfl, h4, r4⟩ := trodAll_cons r3
  obtain ⟨rfl, rfl, rfl⟩ := trodAll_nil r4
  obtain rfl : args = #[v0, v1, v2, v3, v4] := by cases args; simp_all
  obtain ⟨rfl, rfl⟩ := trodVars_none hV
  have k0 := h0
  have lt0 : ∀ x ∈ p0, x.block < W.heap.size := by obtain ⟨m, hm⟩ := k0; exact DataW.trod_lt m _ _ _ hm
  obtain ⟨n0, A0, l0, c0, rfl, hC0, hc0, wz0, sz0⟩ := open_net (hval 0 24 v0 rfl rfl) h0
  obtain ⟨a1, rfl, rfl, rfl, wz1⟩ := open_int Try.underlying3 (hval 1 3 v1 rfl rfl) h1
  obtain ⟨a2, rfl, rfl, rfl, wz2⟩ := open_int Try.underlying3 (hval 2 3 v2 rfl rfl) h2
  obtain ⟨a3, rfl, rfl, rfl, wz3⟩ := open_int Try.underlying3 (hval 3 3 v3 rfl rfl) h3
  have k4 := h4
  have lt4 : ∀ x ∈ p4, x.block < W.heap.size := by obtain ⟨m, hm⟩ := k4; exact DataW.trod_lt m _ _ _ hm
  obtain ⟨A4, l4, c4, rfl, hC4, hc4, wz4⟩ := open_list (hval 4 29 v4 rfl rfl) h4
  obtain ⟨rk, hk⟩ := Ev.rounds (apartspec_ev n0 l0 a1 a2 a3 l4 (by have z := wz4.2 _ _ 4 hsz rfl rfl; omega))
  clear hA0 hval0 hsz0 hsz
  refine (snowlinelaw04_DiffsApartSpec.calls rk n0 A0 c0 l0 a1 a2 a3 A4 c4 l4 true W hC0 hc0 hC4 hc4 hk).mono fun e W' ⟨he, bel⟩ => ?_
  subst he
  exact ⟨_, rfl, _, _, _, [], _, [], hW', trodAll_mk1 (shut_bool Try.underlying4 _), (trodAll_cons_mk (Below.trod laidOut (by kernel_rfl) (of_decide_eq_true (by kernel_rfl)) k0 bel lt0) (trodAll_cons_mk (shut_int Try.underlying3 wz1) (trodAll_cons_mk (shut_int Try.underlying3 wz2) (trodAll_cons_mk (shut_int Try.underlying3 wz3) (trodAll_cons_mk (Below.trod laidOut (by kernel_rfl) (of_decide_eq_true (by kernel_rfl)) k4 bel lt4) trodAll_mk0))))), rfl, bel.frame _, fun h => by cases h⟩
theorem joined : joinedFacts Try.prog 11 Try.f11 Rows.diffsApartSpecSpec Rows.diffsApartSpecRow = true := (andB (andB (andB (andB (andB (andB (andB (andB (andB (andB (andB (andB (andB (andB (andB (andB (andB (andB (andB (andB (andB (andB (andB (andB (andB (andB (andB (andB (andB (andB (andB (by kernel_rfl) laidOut) pMapsRowed) (by kernel_rfl)) (by kernel_rfl)) (by kernel_rfl)) pStops) (by kernel_rfl)) pKnobs) (by kernel_rfl)) (by kernel_rfl)) (by kernel_rfl)) (by kernel_rfl)) (by kernel_rfl)) (by kernel_rfl)) (by kernel_rfl)) (by kernel_rfl)) (by kernel_rfl)) (by kernel_rfl)) (by kernel_rfl)) (by kernel_rfl)) (by kernel_rfl)) pPlain) (by kernel_rfl)) pHeard) pEnter) pLifted) pMake) (by kernel_rfl)) (by kernel_rfl)) (by kernel_rfl)) (by kernel_rfl))
theorem over : Rows.diffsApartSpecRow.holds Try.pinned (OpenSpec.ofChange Rows.diffsApartSpecSpec) :=
  OpenClaim.holds_of_wide 11 Try.f11 rfl rfl rfl rfl rfl rfl rfl ⟨rfl, rfl, rfl, rfl, rfl⟩ rfl rfl rfl rfl rfl (by kernel_rfl) Try.func11 joined
    (of_decide_eq_true (by kernel_rfl)) (by unfold Func.isWrapper; first | (rw [if_pos (by decide +kernel)]; kernel_rfl) | (rw [if_neg (by decide +kernel)]; exact ⟨rfl, rfl⟩))
    (fun os started H enc _ => lifted os started H enc)
theorem proved : Rows.DiffsApartSpecSaid := over
#print axioms proved
end Go.Proofs.Ytpolojoeabmhdaa.diffsApartSpec
namespace Go.Proofs.Ytpolojoeabmhdaa
/-- The row, under a short name, for the claim. -/
theorem diffsApartSpec_holds : Rows.DiffsApartSpecSaid := diffsApartSpec.proved
end Go.Proofs.Ytpolojoeabmhdaa
