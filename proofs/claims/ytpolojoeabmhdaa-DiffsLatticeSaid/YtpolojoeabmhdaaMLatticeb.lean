import Derived.Test.YtpolojoeabmhdaaMZcoreHFacts
import Derived.Test.YtpolojoeabmhdaaMLatticea
import Derived.Test.YtpolojoeabmhdaaMZcoreb
import Derived.Test.YtpolojoeabmhdaaMZcoree
import Derived.Test.YtpolojoeabmhdaaMZcoref
import Derived.Test.YtpolojoeabmhdaaMZcoreh
import Derived.Test.YtpolojoeabmhdaaRows
set_option linter.unusedVariables false
set_option linter.unusedSimpArgs false
namespace Go.Proofs.Ytpolojoeabmhdaa.A
open Go.RowKit Go.Proofs.YtpolojoeabmhdaaW.PrintWords Go.Proofs.YtpolojoeabmhdaaW.PrintLast Go.Proofs.YtpolojoeabmhdaaW.PrintMore
attribute [local go_sem] max2_int min2_int max_two min_two max_three min_three max_four min_four
mutual
def snowlinelaw04_DiffsLattice.j0 : Nat → List Int → List Int → Bool → Int → List (S39) → Option (Bool)
 | 0, _, _, _, _, _ => none
 | k + 1, x1, x2, x34, x1143000, x1143001 => if x34 = true then (some true) else ((diffs_Higher.f k x1143000 x1143001 x1 x2).bind fun bt1148 => (if bt1148.2 = 0 then ((snowlinelaw04_fulfils.f k x1143000 x1143001 bt1148.1).bind fun t1152 => (snowlinelaw04_DiffsLattice.j1 k x1 x2 bt1148.1 (!t1152) x1143000 x1143001)) else (snowlinelaw04_DiffsLattice.j1 k x1 x2 bt1148.1 true x1143000 x1143001)))
def snowlinelaw04_DiffsLattice.j1 : Nat → List Int → List Int → List Int → Bool → Int → List (S39) → Option (Bool)
 | 0, _, _, _, _, _, _ => none
 | k + 1, x1, x2, x7, x49, x1143000, x1143001 => if x49 = true then (some false) else ((diffs_Top.f k x1143000 x1143001).bind fun bt1153 => ((diffs_Bottom.f k x1143000 x1143001).bind fun bt1157 => (if bt1153.2 = 0 then (if bt1157.2 = 0 then ((snowlinelaw04_fulfils.f k x1143000 x1143001 bt1153.1).bind fun t1161 => (if t1161 = true then ((snowlinelaw04_fulfils.f k x1143000 x1143001 bt1157.1).bind fun t1162 => (snowlinelaw04_DiffsLattice.j2 k x1 x2 x7 bt1153.2 bt1153.1 bt1157.1 bt1157.2 (!t1162))) else (snowlinelaw04_DiffsLattice.j2 k x1 x2 x7 bt1153.2 bt1153.1 bt1157.1 bt1157.2 true))) else (if bt1157.2 = 42 then ((snowlinelaw04_fulfils.f k x1143000 x1143001 bt1153.1).bind fun t1163 => (if t1163 = true then (snowlinelaw04_DiffsLattice.j2 k x1 x2 x7 bt1153.2 bt1153.1 bt1157.1 bt1157.2 false) else (snowlinelaw04_DiffsLattice.j2 k x1 x2 x7 bt1153.2 bt1153.1 bt1157.1 bt1157.2 true))) else (snowlinelaw04_DiffsLattice.j2 k x1 x2 x7 bt1153.2 bt1153.1 bt1157.1 bt1157.2 true))) else (if bt1153.2 = 42 then (if bt1157.2 = 0 then ((snowlinelaw04_fulfils.f k x1143000 x1143001 bt1157.1).bind fun t1164 => (snowlinelaw04_DiffsLattice.j2 k x1 x2 x7 bt1153.2 bt1153.1 bt1157.1 bt1157.2 (!t1164))) else (if bt1157.2 = 42 then (snowlinelaw04_DiffsLattice.j2 k x1 x2 x7 bt1153.2 bt1153.1 bt1157.1 bt1157.2 false) else (snowlinelaw04_DiffsLattice.j2 k x1 x2 x7 bt1153.2 bt1153.1 bt1157.1 bt1157.2 true))) else (snowlinelaw04_DiffsLattice.j2 k x1 x2 x7 bt1153.2 bt1153.1 bt1157.1 bt1157.2 true)))))
def snowlinelaw04_DiffsLattice.j2 : Nat → List Int → List Int → List Int → Int → List Int → List Int → Int → Bool → Option (Bool)
 | 0, _, _, _, _, _, _, _, _ => none
 | k + 1, x1, x2, x7, x8, x9, x10, x11, x93 => if x93 = true then (some false) else (snowlinelaw04_DiffsLattice.l0 k x1 x2 x7 x8 x9 x10 x11 (x1.length : Int) 0)
def snowlinelaw04_DiffsLattice.l0 : Nat → List Int → List Int → List Int → Int → List Int → List Int → Int → Int → Int → Option (Bool)
 | 0, _, _, _, _, _, _, _, _, _ => none
 | k + 1, x1, x2, x7, x8, x9, x10, x11, x95, x96 => if x96 < x95 then (if 0 ≤ x96 then (if x96 < (x7.length : Int) then (if x96 < (x1.length : Int) then (if x96 < (x2.length : Int) then (if (rd x7 x96) = (mx (rd x1 x96) (rd x2 x96)) then (if x8 = 0 then (if x96 < (x9.length : Int) then (if (rd x7 x96) > (rd x9 x96) then (snowlinelaw04_DiffsLattice.j4 k x1 x2 x7 x8 x9 x10 x11 x95 x96 true) else (if x11 = 0 then (if x96 < (x10.length : Int) then (snowlinelaw04_DiffsLattice.j4 k x1 x2 x7 x8 x9 x10 x11 x95 x96 (decide ((rd x1 x96) < (rd x10 x96)))) else (none)) else (snowlinelaw04_DiffsLattice.j4 k x1 x2 x7 x8 x9 x10 x11 x95 x96 false))) else (none)) else (if x11 = 0 then (if x96 < (x10.length : Int) then (snowlinelaw04_DiffsLattice.j4 k x1 x2 x7 x8 x9 x10 x11 x95 x96 (decide ((rd x1 x96) < (rd x10 x96)))) else (none)) else (snowlinelaw04_DiffsLattice.j4 k x1 x2 x7 x8 x9 x10 x11 x95 x96 false))) else (snowlinelaw04_DiffsLattice.j4 k x1 x2 x7 x8 x9 x10 x11 x95 x96 true)) else (none)) else (none)) else (none)) else (none)) else (some true)
def snowlinelaw04_DiffsLattice.j4 : Nat → List Int → List Int → List Int → Int → List Int → List Int → Int → Int → Int → Bool → Option (Bool)
 | 0, _, _, _, _, _, _, _, _, _, _ => none
 | k + 1, x1, x2, x7, x8, x9, x10, x11, x95, x96, x142 => if x142 = true then (some false) else (snowlinelaw04_DiffsLattice.l0 k x1 x2 x7 x8 x9 x10 x11 x95 (wrap64 (x96 + 1)))
end
def snowlinelaw04_DiffsLattice.f (k : Nat) (a0_0 : Int) (l0_1 : List (S39)) (l1 : List Int) (l2 : List Int) : Option (Bool) := (snowlinelaw04_sane.f).bind fun t1143 => (if t1143 = true then ((diffs_Check.f k a0_0 l0_1).bind fun t1144 => (if t1144 = 0 then ((snowlinelaw04_small.f a0_0 l0_1).bind fun t1145 => (if t1145 = true then ((snowlinelaw04_fulfils.f k a0_0 l0_1 l1).bind fun t1146 => (if t1146 = true then ((snowlinelaw04_fulfils.f k a0_0 l0_1 l2).bind fun t1147 => (snowlinelaw04_DiffsLattice.j0 k l1 l2 (!t1147) a0_0 l0_1)) else (snowlinelaw04_DiffsLattice.j0 k l1 l2 true a0_0 l0_1))) else (snowlinelaw04_DiffsLattice.j0 k l1 l2 true a0_0 l0_1))) else (snowlinelaw04_DiffsLattice.j0 k l1 l2 true a0_0 l0_1))) else (some false))
theorem snowlinelaw04_DiffsLattice.mono_l : ∀ k, (∀ y0 y1 y2 y3 y4, LeO (snowlinelaw04_DiffsLattice.j0 k y0 y1 y2 y3 y4) (snowlinelaw04_DiffsLattice.j0 (k + 1) y0 y1 y2 y3 y4)) ∧ (∀ y0 y1 y2 y3 y4 y5, LeO (snowlinelaw04_DiffsLattice.j1 k y0 y1 y2 y3 y4 y5) (snowlinelaw04_DiffsLattice.j1 (k + 1) y0 y1 y2 y3 y4 y5)) ∧ (∀ y0 y1 y2 y3 y4 y5 y6 y7, LeO (snowlinelaw04_DiffsLattice.j2 k y0 y1 y2 y3 y4 y5 y6 y7) (snowlinelaw04_DiffsLattice.j2 (k + 1) y0 y1 y2 y3 y4 y5 y6 y7)) ∧ (∀ y0 y1 y2 y3 y4 y5 y6 y7 y8, LeO (snowlinelaw04_DiffsLattice.l0 k y0 y1 y2 y3 y4 y5 y6 y7 y8) (snowlinelaw04_DiffsLattice.l0 (k + 1) y0 y1 y2 y3 y4 y5 y6 y7 y8)) ∧ (∀ y0 y1 y2 y3 y4 y5 y6 y7 y8 y9, LeO (snowlinelaw04_DiffsLattice.j4 k y0 y1 y2 y3 y4 y5 y6 y7 y8 y9) (snowlinelaw04_DiffsLattice.j4 (k + 1) y0 y1 y2 y3 y4 y5 y6 y7 y8 y9))
 | 0 => ⟨fun _ _ _ _ _ r h => by simp [snowlinelaw04_DiffsLattice.j0] at h, fun _ _ _ _ _ _ r h => by simp [snowlinelaw04_DiffsLattice.j1] at h, fun _ _ _ _ _ _ _ _ r h => by simp [snowlinelaw04_DiffsLattice.j2] at h, fun _ _ _ _ _ _ _ _ _ r h => by simp [snowlinelaw04_DiffsLattice.l0] at h, fun _ _ _ _ _ _ _ _ _ _ r h => by simp [snowlinelaw04_DiffsLattice.j4] at h⟩
 | k + 1 => by
  obtain ⟨ih0, ih1, ih2, ih3, ih4⟩ := snowlinelaw04_DiffsLattice.mono_l k; refine ⟨?_, ?_, ?_, ?_, ?_⟩ <;> intros <;> (first | unfold snowlinelaw04_DiffsLattice.j0 | unfold snowlinelaw04_DiffsLattice.j1 | unfold snowlinelaw04_DiffsLattice.j2 | unfold snowlinelaw04_DiffsLattice.l0 | unfold snowlinelaw04_DiffsLattice.j4) <;> repeat' first | (with_reducible first | exact ih0 _ _ _ _ _ | exact ih1 _ _ _ _ _ _ | exact ih2 _ _ _ _ _ _ _ _ | exact ih3 _ _ _ _ _ _ _ _ _ | exact ih4 _ _ _ _ _ _ _ _ _ _ | exact diffs_Bottom.mono _ _ _ | exact diffs_Check.mono _ _ _ | exact diffs_Higher.mono _ _ _ _ _ | exact diffs_Top.mono _ _ _ | exact snowlinelaw04_fulfils.mono _ _ _ _ | exact LeO.refl _ | exact LeO.none _ | refine LeO.ite ?_ ?_ | refine LeO.bind ?_ (fun _ => ?_)) | exact ih0 _ _ _ _ _ | exact ih1 _ _ _ _ _ _ | exact ih2 _ _ _ _ _ _ _ _ | exact ih3 _ _ _ _ _ _ _ _ _ | exact ih4 _ _ _ _ _ _ _ _ _ _ | exact diffs_Bottom.mono _ _ _ | exact diffs_Check.mono _ _ _ | exact diffs_Higher.mono _ _ _ _ _ | exact diffs_Top.mono _ _ _ | exact snowlinelaw04_fulfils.mono _ _ _ _ | exact LeO.none _ | refine LeO.ite ?_ ?_ | refine LeO.bind ?_ (fun _ => ?_)
theorem snowlinelaw04_DiffsLattice.mono : ∀ a0 a1 a2 a3 k, LeO (snowlinelaw04_DiffsLattice.f k a0 a1 a2 a3) (snowlinelaw04_DiffsLattice.f (k + 1) a0 a1 a2 a3) := by
 intro a0 a1 a2 a3 k; obtain ⟨ih0, ih1, ih2, ih3, ih4⟩ := snowlinelaw04_DiffsLattice.mono_l k; unfold snowlinelaw04_DiffsLattice.f; repeat' first | (with_reducible first | exact ih0 _ _ _ _ _ | exact ih1 _ _ _ _ _ _ | exact ih2 _ _ _ _ _ _ _ _ | exact ih3 _ _ _ _ _ _ _ _ _ | exact ih4 _ _ _ _ _ _ _ _ _ _ | exact diffs_Bottom.mono _ _ _ | exact diffs_Check.mono _ _ _ | exact diffs_Higher.mono _ _ _ _ _ | exact diffs_Top.mono _ _ _ | exact snowlinelaw04_fulfils.mono _ _ _ _ | exact LeO.refl _ | exact LeO.none _ | refine LeO.ite ?_ ?_ | refine LeO.bind ?_ (fun _ => ?_)) | exact ih0 _ _ _ _ _ | exact ih1 _ _ _ _ _ _ | exact ih2 _ _ _ _ _ _ _ _ | exact ih3 _ _ _ _ _ _ _ _ _ | exact ih4 _ _ _ _ _ _ _ _ _ _ | exact diffs_Bottom.mono _ _ _ | exact diffs_Check.mono _ _ _ | exact diffs_Higher.mono _ _ _ _ _ | exact diffs_Top.mono _ _ _ | exact snowlinelaw04_fulfils.mono _ _ _ _ | exact LeO.none _ | refine LeO.ite ?_ ?_ | refine LeO.bind ?_ (fun _ => ?_)
set_option maxHeartbeats 8000000 in
set_option maxRecDepth 100000 in
theorem snowlinelaw04_DiffsLattice.calls (k : Nat) (a0_0 : Int) (A0_1 : Option Addr) (c0_1 : Nat) (l0_1 : List (S39)) (A1 : Option Addr) (c1 : Nat) (l1 : List Int) (A2 : Option Addr) (c2 : Nat) (l2 : List Int) (r : Bool) (w : World) (hr0_1 : Kd.C k39 w A0_1 l0_1.length l0_1) (hc0_1 : l0_1.length ≤ c0_1) (hr1 : Kd.C (Kd.int .i64) w A1 l1.length l1) (hc1 : l1.length ≤ c1) (hr2 : Kd.C (Kd.int .i64) w A2 l2.length l2) (hc2 : l2.length ≤ c2) (h : snowlinelaw04_DiffsLattice.f k a0_0 l0_1 l1 l2 = some r) :
  Calls Try.prog 15 #[.agg #[.int .i64 a0_0, .slice A0_1 l0_1.length c0_1], .slice A1 l1.length c1, .slice A2 l2.length c2] w fun e w' => e = .returned (.bool r) ∧ Below w.heap.size w w' := by
 have hu24 := Try.underlying24; have HR0_1 := Z_ hr0_1; have HC0_1 := Z_ hc0_1; clear hr0_1 hc0_1; have HR1 := Z_ hr1; have HC1 := Z_ hc1; clear hr1 hc1; have HR2 := Z_ hr2; have HC2 := Z_ hc2; clear hr2 hc2; have HB := Z_ (Below.refl w.heap.size w); have H : ((snowlinelaw04_sane.f).bind fun t1143 => (if t1143 = true then ((diffs_Check.f k a0_0 l0_1).bind fun t1144 => (if t1144 = 0 then ((snowlinelaw04_small.f a0_0 l0_1).bind fun t1145 => (if t1145 = true then ((snowlinelaw04_fulfils.f k a0_0 l0_1 l1).bind fun t1146 => (if t1146 = true then ((snowlinelaw04_fulfils.f k a0_0 l0_1 l2).bind fun t1147 => (snowlinelaw04_DiffsLattice.j0 k l1 l2 (!t1147) a0_0 l0_1)) else (snowlinelaw04_DiffsLattice.j0 k l1 l2 true a0_0 l0_1))) else (snowlinelaw04_DiffsLattice.j0 k l1 l2 true a0_0 l0_1))) else (snowlinelaw04_DiffsLattice.j0 k l1 l2 true a0_0 l0_1))) else (some false))) = some r := h; clear h; replace H := oS_.mp H; obtain ⟨t1143, A40, H⟩ := H; have A4 := Z_ A40; clear A40; have HF5 := Z_ H; clear H; go_enter Try.func15, Try.ntmps15; go_upto_if 14 with (first | ((with_reducible refine gate_dst (N := 3) rfl ?_); refine bX_ 3 #[.int .i64 a0_0, .slice A0_1 l0_1.length c0_1] 24 ?_; intro gb1142 hg w6 hbox hb; have BK1142 := Z_ (hbox); have GW1142 := Z_ ((by rw [hg]; exact (fZ_ hB_) : w.heap.size ≤ gb1142)); have GE1142 := Z_ ((by rw [hg]; exact (fZ_ hB_) : w.heap.size ≤ gb1142)); replace HB := Z_ (fS_ hB_ hb); clear hb hbox hg) | (go_at_call 21; (with_reducible refine (snowlinelaw04_sane.calls  t1143 _ A4.out).mono ?_); rintro e w7 ⟨rfl, hb⟩; replace BK1142 := Z_ (bB_ (g := gb1142) (o := .cells #[.int .i64 a0_0, .slice A0_1 l0_1.length c0_1] 24 (0, 0)) (bR_ BK1142.out) hb); replace HB := Z_ (fS_ hB_ hb); (try clear hb); (try clear hb2); (try clear hk); (try clear hi))); repeat (go_quiet (first | ((with_reducible refine gate_dst (N := 3) rfl ?_); refine bX_ 3 #[.int .i64 a0_0, .slice A0_1 l0_1.length c0_1] 24 ?_; intro gb1142 hg w6 hbox hb; have BK1142 := Z_ (hbox); have GW1142 := Z_ ((by rw [hg]; exact (fZ_ hB_) : w.heap.size ≤ gb1142)); have GE1142 := Z_ ((by rw [hg]; exact (fZ_ hB_) : w.heap.size ≤ gb1142)); replace HB := Z_ (fS_ hB_ hb); clear hb hbox hg) | (go_at_call 21; (with_reducible refine (snowlinelaw04_sane.calls  t1143 _ A4.out).mono ?_); rintro e w7 ⟨rfl, hb⟩; replace BK1142 := Z_ (bB_ (g := gb1142) (o := .cells #[.int .i64 a0_0, .slice A0_1 l0_1.length c0_1] 24 (0, 0)) (bR_ BK1142.out) hb); replace HB := Z_ (fS_ hB_ hb); (try clear hb); (try clear hb2); (try clear hk); (try clear hi))); go_upto_if 14 with (first | ((with_reducible refine gate_dst (N := 3) rfl ?_); refine bX_ 3 #[.int .i64 a0_0, .slice A0_1 l0_1.length c0_1] 24 ?_; intro gb1142 hg w6 hbox hb; have BK1142 := Z_ (hbox); have GW1142 := Z_ ((by rw [hg]; exact (fZ_ hB_) : w.heap.size ≤ gb1142)); have GE1142 := Z_ ((by rw [hg]; exact (fZ_ hB_) : w.heap.size ≤ gb1142)); replace HB := Z_ (fS_ hB_ hb); clear hb hbox hg) | (go_at_call 21; (with_reducible refine (snowlinelaw04_sane.calls  t1143 _ A4.out).mono ?_); rintro e w7 ⟨rfl, hb⟩; replace BK1142 := Z_ (bB_ (g := gb1142) (o := .cells #[.int .i64 a0_0, .slice A0_1 l0_1.length c0_1] 24 (0, 0)) (bR_ BK1142.out) hb); replace HB := Z_ (fS_ hB_ hb); (try clear hb); (try clear hb2); (try clear hk); (try clear hi))))
 (try simp only [Act.put, sT_, sZ_, sS_])
 have H := HF5.out; clear HF5; by_cases c8 : t1143 = true
 ·subst c8
  rw [if_pos rfl] at H; have HC9 := Z_ H; clear H; go_upto_region 3 with (fail); repeat (go_quiet (fail); go_upto_region 3 with (fail))
  go_cut [34] (fun v34 wc => ∃ (kq : Nat) (x34_8 : Bool), v34 = .bool x34_8 ∧ Aside0 (snowlinelaw04_DiffsLattice.j0 kq l1 l2 x34_8 a0_0 l0_1 = some r) ∧ Aside0 (kq ≤ k) ∧ Aside0 (wc.heap[gb1142]? = some (.cells #[.int .i64 a0_0, (.slice A0_1 l0_1.length c0_1)] 24 (0, 0))) ∧ Aside0 (Below w.heap.size w wc))
  case first =>
   have H := HC9.out; clear HC9; replace H := oS_.mp H; obtain ⟨t1144, A100, H⟩ := H; have A10 := Z_ A100; clear A100; by_cases c11 : t1144 = 0
   ·rw [if_pos c11] at H
    obtain ⟨c11b0, c11b1⟩ := be_ c11; clear c11; (first | rw [c11b0] | (simp only [i64_w, i32_w]; rw [c11b0]) | skip)
    replace H := oS_.mp H; obtain ⟨t1145, A120, H⟩ := H; have A12 := Z_ A120; clear A120; by_cases c13 : t1145 = true
    ·subst c13
     rw [if_pos rfl] at H; replace H := oS_.mp H; obtain ⟨t1146, A140, H⟩ := H; have A14 := Z_ A140; clear A140; by_cases c15 : t1146 = true
     ·subst c15
      rw [if_pos rfl] at H; replace H := oS_.mp H; obtain ⟨t1147, A160, H⟩ := H; have A16 := Z_ A160; clear A160; have H' := Z_ H; clear H; obtain ⟨⟨hcz17_0, hcz17_1⟩, hfz17_0, hfz17_1⟩ := f2_ BK1142.out; go_wp2_with (first | (go_at_call 29; (with_reducible refine (diffs_Check.calls k a0_0 _ _ l0_1 t1144 _ ?side1 ?side2 A10.out).mono ?_); (case side1 => exact cS_ (cB_ HR0_1.out HB.out)); (case side2 => exact HC0_1.out); rintro e w18 ⟨rfl, hb⟩; replace BK1142 := Z_ (bB_ (g := gb1142) (o := .cells #[.int .i64 a0_0, .slice A0_1 l0_1.length c0_1] 24 (0, 0)) (bR_ BK1142.out) hb); replace HB := Z_ (fS_ hB_ hb); (try clear hb); (try clear hb2); (try clear hk); (try clear hi); obtain ⟨⟨hcz19_0, hcz19_1⟩, hfz19_0, hfz19_1⟩ := f2_ BK1142.out) | (go_at_call 23; (with_reducible refine (snowlinelaw04_small.calls a0_0 _ _ l0_1 true _ ?side1 ?side2 A12.out).mono ?_); (case side1 => exact cS_ (cB_ HR0_1.out HB.out)); (case side2 => exact HC0_1.out); rintro e w20 ⟨rfl, hb⟩; replace BK1142 := Z_ (bB_ (g := gb1142) (o := .cells #[.int .i64 a0_0, .slice A0_1 l0_1.length c0_1] 24 (0, 0)) (bR_ BK1142.out) hb); replace HB := Z_ (fS_ hB_ hb); (try clear hb); (try clear hb2); (try clear hk); (try clear hi); obtain ⟨⟨hcz21_0, hcz21_1⟩, hfz21_0, hfz21_1⟩ := f2_ BK1142.out) | (go_at_call 48; (with_reducible refine (snowlinelaw04_fulfils.calls k a0_0 _ _ l0_1 _ _ l1 true _ ?side1 ?side2 ?side3 ?side4 A14.out).mono ?_); (case side1 => exact cS_ (cB_ HR0_1.out HB.out)); (case side2 => exact HC0_1.out); (case side3 => exact cS_ (cB_ HR1.out HB.out)); (case side4 => exact HC1.out); rintro e w22 ⟨rfl, hb⟩; replace BK1142 := Z_ (bB_ (g := gb1142) (o := .cells #[.int .i64 a0_0, .slice A0_1 l0_1.length c0_1] 24 (0, 0)) (bR_ BK1142.out) hb); replace HB := Z_ (fS_ hB_ hb); (try clear hb); (try clear hb2); (try clear hk); (try clear hi); obtain ⟨⟨hcz23_0, hcz23_1⟩, hfz23_0, hfz23_1⟩ := f2_ BK1142.out) | (go_at_call 48; (with_reducible refine (snowlinelaw04_fulfils.calls k a0_0 _ _ l0_1 _ _ l2 t1147 _ ?side1 ?side2 ?side3 ?side4 A16.out).mono ?_); (case side1 => exact cS_ (cB_ HR0_1.out HB.out)); (case side2 => exact HC0_1.out); (case side3 => exact cS_ (cB_ HR2.out HB.out)); (case side4 => exact HC2.out); rintro e w24 ⟨rfl, hb⟩; replace BK1142 := Z_ (bB_ (g := gb1142) (o := .cells #[.int .i64 a0_0, .slice A0_1 l0_1.length c0_1] 24 (0, 0)) (bR_ BK1142.out) hb); replace HB := Z_ (fS_ hB_ hb); (try clear hb); (try clear hb2); (try clear hk); (try clear hi))); repeat (go_quiet (first | (go_at_call 29; (with_reducible refine (diffs_Check.calls k a0_0 _ _ l0_1 t1144 _ ?side1 ?side2 A10.out).mono ?_); (case side1 => exact cS_ (cB_ HR0_1.out HB.out)); (case side2 => exact HC0_1.out); rintro e w18 ⟨rfl, hb⟩; replace BK1142 := Z_ (bB_ (g := gb1142) (o := .cells #[.int .i64 a0_0, .slice A0_1 l0_1.length c0_1] 24 (0, 0)) (bR_ BK1142.out) hb); replace HB := Z_ (fS_ hB_ hb); (try clear hb); (try clear hb2); (try clear hk); (try clear hi); obtain ⟨⟨hcz19_0, hcz19_1⟩, hfz19_0, hfz19_1⟩ := f2_ BK1142.out) | (go_at_call 23; (with_reducible refine (snowlinelaw04_small.calls a0_0 _ _ l0_1 true _ ?side1 ?side2 A12.out).mono ?_); (case side1 => exact cS_ (cB_ HR0_1.out HB.out)); (case side2 => exact HC0_1.out); rintro e w20 ⟨rfl, hb⟩; replace BK1142 := Z_ (bB_ (g := gb1142) (o := .cells #[.int .i64 a0_0, .slice A0_1 l0_1.length c0_1] 24 (0, 0)) (bR_ BK1142.out) hb); replace HB := Z_ (fS_ hB_ hb); (try clear hb); (try clear hb2); (try clear hk); (try clear hi); obtain ⟨⟨hcz21_0, hcz21_1⟩, hfz21_0, hfz21_1⟩ := f2_ BK1142.out) | (go_at_call 48; (with_reducible refine (snowlinelaw04_fulfils.calls k a0_0 _ _ l0_1 _ _ l1 true _ ?side1 ?side2 ?side3 ?side4 A14.out).mono ?_); (case side1 => exact cS_ (cB_ HR0_1.out HB.out)); (case side2 => exact HC0_1.out); (case side3 => exact cS_ (cB_ HR1.out HB.out)); (case side4 => exact HC1.out); rintro e w22 ⟨rfl, hb⟩; replace BK1142 := Z_ (bB_ (g := gb1142) (o := .cells #[.int .i64 a0_0, .slice A0_1 l0_1.length c0_1] 24 (0, 0)) (bR_ BK1142.out) hb); replace HB := Z_ (fS_ hB_ hb); (try clear hb); (try clear hb2); (try clear hk); (try clear hi); obtain ⟨⟨hcz23_0, hcz23_1⟩, hfz23_0, hfz23_1⟩ := f2_ BK1142.out) | (go_at_call 48; (with_reducible refine (snowlinelaw04_fulfils.calls k a0_0 _ _ l0_1 _ _ l2 t1147 _ ?side1 ?side2 ?side3 ?side4 A16.out).mono ?_); (case side1 => exact cS_ (cB_ HR0_1.out HB.out)); (case side2 => exact HC0_1.out); (case side3 => exact cS_ (cB_ HR2.out HB.out)); (case side4 => exact HC2.out); rintro e w24 ⟨rfl, hb⟩; replace BK1142 := Z_ (bB_ (g := gb1142) (o := .cells #[.int .i64 a0_0, .slice A0_1 l0_1.length c0_1] 24 (0, 0)) (bR_ BK1142.out) hb); replace HB := Z_ (fS_ hB_ hb); (try clear hb); (try clear hb2); (try clear hk); (try clear hi))); try go_wp2_with (first | (go_at_call 29; (with_reducible refine (diffs_Check.calls k a0_0 _ _ l0_1 t1144 _ ?side1 ?side2 A10.out).mono ?_); (case side1 => exact cS_ (cB_ HR0_1.out HB.out)); (case side2 => exact HC0_1.out); rintro e w18 ⟨rfl, hb⟩; replace BK1142 := Z_ (bB_ (g := gb1142) (o := .cells #[.int .i64 a0_0, .slice A0_1 l0_1.length c0_1] 24 (0, 0)) (bR_ BK1142.out) hb); replace HB := Z_ (fS_ hB_ hb); (try clear hb); (try clear hb2); (try clear hk); (try clear hi); obtain ⟨⟨hcz19_0, hcz19_1⟩, hfz19_0, hfz19_1⟩ := f2_ BK1142.out) | (go_at_call 23; (with_reducible refine (snowlinelaw04_small.calls a0_0 _ _ l0_1 true _ ?side1 ?side2 A12.out).mono ?_); (case side1 => exact cS_ (cB_ HR0_1.out HB.out)); (case side2 => exact HC0_1.out); rintro e w20 ⟨rfl, hb⟩; replace BK1142 := Z_ (bB_ (g := gb1142) (o := .cells #[.int .i64 a0_0, .slice A0_1 l0_1.length c0_1] 24 (0, 0)) (bR_ BK1142.out) hb); replace HB := Z_ (fS_ hB_ hb); (try clear hb); (try clear hb2); (try clear hk); (try clear hi); obtain ⟨⟨hcz21_0, hcz21_1⟩, hfz21_0, hfz21_1⟩ := f2_ BK1142.out) | (go_at_call 48; (with_reducible refine (snowlinelaw04_fulfils.calls k a0_0 _ _ l0_1 _ _ l1 true _ ?side1 ?side2 ?side3 ?side4 A14.out).mono ?_); (case side1 => exact cS_ (cB_ HR0_1.out HB.out)); (case side2 => exact HC0_1.out); (case side3 => exact cS_ (cB_ HR1.out HB.out)); (case side4 => exact HC1.out); rintro e w22 ⟨rfl, hb⟩; replace BK1142 := Z_ (bB_ (g := gb1142) (o := .cells #[.int .i64 a0_0, .slice A0_1 l0_1.length c0_1] 24 (0, 0)) (bR_ BK1142.out) hb); replace HB := Z_ (fS_ hB_ hb); (try clear hb); (try clear hb2); (try clear hk); (try clear hi); obtain ⟨⟨hcz23_0, hcz23_1⟩, hfz23_0, hfz23_1⟩ := f2_ BK1142.out) | (go_at_call 48; (with_reducible refine (snowlinelaw04_fulfils.calls k a0_0 _ _ l0_1 _ _ l2 t1147 _ ?side1 ?side2 ?side3 ?side4 A16.out).mono ?_); (case side1 => exact cS_ (cB_ HR0_1.out HB.out)); (case side2 => exact HC0_1.out); (case side3 => exact cS_ (cB_ HR2.out HB.out)); (case side4 => exact HC2.out); rintro e w24 ⟨rfl, hb⟩; replace BK1142 := Z_ (bB_ (g := gb1142) (o := .cells #[.int .i64 a0_0, .slice A0_1 l0_1.length c0_1] 24 (0, 0)) (bR_ BK1142.out) hb); replace HB := Z_ (fS_ hB_ hb); (try clear hb); (try clear hb2); (try clear hk); (try clear hi))))
      go_meet
      case rel => exact ⟨_, (!t1147), rf_, H', ⟨oL_⟩, ⟨bR_ BK1142.out⟩, ⟨hB_⟩⟩
     replace c15 := bE_.mpr c15; subst c15; have H1 : (snowlinelaw04_DiffsLattice.j0 k l1 l2 true a0_0 l0_1) = some r := by rw [if_neg (show ¬ (false = true) by decide)] at H; exact H
     clear H; have H := H1; clear H1; have H' := Z_ H; clear H; obtain ⟨⟨hcz25_0, hcz25_1⟩, hfz25_0, hfz25_1⟩ := f2_ BK1142.out; go_wp2_with (first | (go_at_call 29; (with_reducible refine (diffs_Check.calls k a0_0 _ _ l0_1 t1144 _ ?side1 ?side2 A10.out).mono ?_); (case side1 => exact cS_ (cB_ HR0_1.out HB.out)); (case side2 => exact HC0_1.out); rintro e w26 ⟨rfl, hb⟩; replace BK1142 := Z_ (bB_ (g := gb1142) (o := .cells #[.int .i64 a0_0, .slice A0_1 l0_1.length c0_1] 24 (0, 0)) (bR_ BK1142.out) hb); replace HB := Z_ (fS_ hB_ hb); (try clear hb); (try clear hb2); (try clear hk); (try clear hi); obtain ⟨⟨hcz27_0, hcz27_1⟩, hfz27_0, hfz27_1⟩ := f2_ BK1142.out) | (go_at_call 23; (with_reducible refine (snowlinelaw04_small.calls a0_0 _ _ l0_1 true _ ?side1 ?side2 A12.out).mono ?_); (case side1 => exact cS_ (cB_ HR0_1.out HB.out)); (case side2 => exact HC0_1.out); rintro e w28 ⟨rfl, hb⟩; replace BK1142 := Z_ (bB_ (g := gb1142) (o := .cells #[.int .i64 a0_0, .slice A0_1 l0_1.length c0_1] 24 (0, 0)) (bR_ BK1142.out) hb); replace HB := Z_ (fS_ hB_ hb); (try clear hb); (try clear hb2); (try clear hk); (try clear hi); obtain ⟨⟨hcz29_0, hcz29_1⟩, hfz29_0, hfz29_1⟩ := f2_ BK1142.out) | (go_at_call 48; (with_reducible refine (snowlinelaw04_fulfils.calls k a0_0 _ _ l0_1 _ _ l1 false _ ?side1 ?side2 ?side3 ?side4 A14.out).mono ?_); (case side1 => exact cS_ (cB_ HR0_1.out HB.out)); (case side2 => exact HC0_1.out); (case side3 => exact cS_ (cB_ HR1.out HB.out)); (case side4 => exact HC1.out); rintro e w30 ⟨rfl, hb⟩; replace BK1142 := Z_ (bB_ (g := gb1142) (o := .cells #[.int .i64 a0_0, .slice A0_1 l0_1.length c0_1] 24 (0, 0)) (bR_ BK1142.out) hb); replace HB := Z_ (fS_ hB_ hb); (try clear hb); (try clear hb2); (try clear hk); (try clear hi))); repeat (go_quiet (first | (go_at_call 29; (with_reducible refine (diffs_Check.calls k a0_0 _ _ l0_1 t1144 _ ?side1 ?side2 A10.out).mono ?_); (case side1 => exact cS_ (cB_ HR0_1.out HB.out)); (case side2 => exact HC0_1.out); rintro e w26 ⟨rfl, hb⟩; replace BK1142 := Z_ (bB_ (g := gb1142) (o := .cells #[.int .i64 a0_0, .slice A0_1 l0_1.length c0_1] 24 (0, 0)) (bR_ BK1142.out) hb); replace HB := Z_ (fS_ hB_ hb); (try clear hb); (try clear hb2); (try clear hk); (try clear hi); obtain ⟨⟨hcz27_0, hcz27_1⟩, hfz27_0, hfz27_1⟩ := f2_ BK1142.out) | (go_at_call 23; (with_reducible refine (snowlinelaw04_small.calls a0_0 _ _ l0_1 true _ ?side1 ?side2 A12.out).mono ?_); (case side1 => exact cS_ (cB_ HR0_1.out HB.out)); (case side2 => exact HC0_1.out); rintro e w28 ⟨rfl, hb⟩; replace BK1142 := Z_ (bB_ (g := gb1142) (o := .cells #[.int .i64 a0_0, .slice A0_1 l0_1.length c0_1] 24 (0, 0)) (bR_ BK1142.out) hb); replace HB := Z_ (fS_ hB_ hb); (try clear hb); (try clear hb2); (try clear hk); (try clear hi); obtain ⟨⟨hcz29_0, hcz29_1⟩, hfz29_0, hfz29_1⟩ := f2_ BK1142.out) | (go_at_call 48; (with_reducible refine (snowlinelaw04_fulfils.calls k a0_0 _ _ l0_1 _ _ l1 false _ ?side1 ?side2 ?side3 ?side4 A14.out).mono ?_); (case side1 => exact cS_ (cB_ HR0_1.out HB.out)); (case side2 => exact HC0_1.out); (case side3 => exact cS_ (cB_ HR1.out HB.out)); (case side4 => exact HC1.out); rintro e w30 ⟨rfl, hb⟩; replace BK1142 := Z_ (bB_ (g := gb1142) (o := .cells #[.int .i64 a0_0, .slice A0_1 l0_1.length c0_1] 24 (0, 0)) (bR_ BK1142.out) hb); replace HB := Z_ (fS_ hB_ hb); (try clear hb); (try clear hb2); (try clear hk); (try clear hi))); try go_wp2_with (first | (go_at_call 29; (with_reducible refine (diffs_Check.calls k a0_0 _ _ l0_1 t1144 _ ?side1 ?side2 A10.out).mono ?_); (case side1 => exact cS_ (cB_ HR0_1.out HB.out)); (case side2 => exact HC0_1.out); rintro e w26 ⟨rfl, hb⟩; replace BK1142 := Z_ (bB_ (g := gb1142) (o := .cells #[.int .i64 a0_0, .slice A0_1 l0_1.length c0_1] 24 (0, 0)) (bR_ BK1142.out) hb); replace HB := Z_ (fS_ hB_ hb); (try clear hb); (try clear hb2); (try clear hk); (try clear hi); obtain ⟨⟨hcz27_0, hcz27_1⟩, hfz27_0, hfz27_1⟩ := f2_ BK1142.out) | (go_at_call 23; (with_reducible refine (snowlinelaw04_small.calls a0_0 _ _ l0_1 true _ ?side1 ?side2 A12.out).mono ?_); (case side1 => exact cS_ (cB_ HR0_1.out HB.out)); (case side2 => exact HC0_1.out); rintro e w28 ⟨rfl, hb⟩; replace BK1142 := Z_ (bB_ (g := gb1142) (o := .cells #[.int .i64 a0_0, .slice A0_1 l0_1.length c0_1] 24 (0, 0)) (bR_ BK1142.out) hb); replace HB := Z_ (fS_ hB_ hb); (try clear hb); (try clear hb2); (try clear hk); (try clear hi); obtain ⟨⟨hcz29_0, hcz29_1⟩, hfz29_0, hfz29_1⟩ := f2_ BK1142.out) | (go_at_call 48; (with_reducible refine (snowlinelaw04_fulfils.calls k a0_0 _ _ l0_1 _ _ l1 false _ ?side1 ?side2 ?side3 ?side4 A14.out).mono ?_); (case side1 => exact cS_ (cB_ HR0_1.out HB.out)); (case side2 => exact HC0_1.out); (case side3 => exact cS_ (cB_ HR1.out HB.out)); (case side4 => exact HC1.out); rintro e w30 ⟨rfl, hb⟩; replace BK1142 := Z_ (bB_ (g := gb1142) (o := .cells #[.int .i64 a0_0, .slice A0_1 l0_1.length c0_1] 24 (0, 0)) (bR_ BK1142.out) hb); replace HB := Z_ (fS_ hB_ hb); (try clear hb); (try clear hb2); (try clear hk); (try clear hi))))
     go_meet
     case rel => exact ⟨_, (true), rf_, H', ⟨oL_⟩, ⟨bR_ BK1142.out⟩, ⟨hB_⟩⟩
    replace c13 := bE_.mpr c13; subst c13; have H1 : (snowlinelaw04_DiffsLattice.j0 k l1 l2 true a0_0 l0_1) = some r := by rw [if_neg (show ¬ (false = true) by decide)] at H; exact H
    clear H; have H := H1; clear H1; have H' := Z_ H; clear H; obtain ⟨⟨hcz31_0, hcz31_1⟩, hfz31_0, hfz31_1⟩ := f2_ BK1142.out; go_wp2_with (first | (go_at_call 29; (with_reducible refine (diffs_Check.calls k a0_0 _ _ l0_1 t1144 _ ?side1 ?side2 A10.out).mono ?_); (case side1 => exact cS_ (cB_ HR0_1.out HB.out)); (case side2 => exact HC0_1.out); rintro e w32 ⟨rfl, hb⟩; replace BK1142 := Z_ (bB_ (g := gb1142) (o := .cells #[.int .i64 a0_0, .slice A0_1 l0_1.length c0_1] 24 (0, 0)) (bR_ BK1142.out) hb); replace HB := Z_ (fS_ hB_ hb); (try clear hb); (try clear hb2); (try clear hk); (try clear hi); obtain ⟨⟨hcz33_0, hcz33_1⟩, hfz33_0, hfz33_1⟩ := f2_ BK1142.out) | (go_at_call 23; (with_reducible refine (snowlinelaw04_small.calls a0_0 _ _ l0_1 false _ ?side1 ?side2 A12.out).mono ?_); (case side1 => exact cS_ (cB_ HR0_1.out HB.out)); (case side2 => exact HC0_1.out); rintro e w34 ⟨rfl, hb⟩; replace BK1142 := Z_ (bB_ (g := gb1142) (o := .cells #[.int .i64 a0_0, .slice A0_1 l0_1.length c0_1] 24 (0, 0)) (bR_ BK1142.out) hb); replace HB := Z_ (fS_ hB_ hb); (try clear hb); (try clear hb2); (try clear hk); (try clear hi))); repeat (go_quiet (first | (go_at_call 29; (with_reducible refine (diffs_Check.calls k a0_0 _ _ l0_1 t1144 _ ?side1 ?side2 A10.out).mono ?_); (case side1 => exact cS_ (cB_ HR0_1.out HB.out)); (case side2 => exact HC0_1.out); rintro e w32 ⟨rfl, hb⟩; replace BK1142 := Z_ (bB_ (g := gb1142) (o := .cells #[.int .i64 a0_0, .slice A0_1 l0_1.length c0_1] 24 (0, 0)) (bR_ BK1142.out) hb); replace HB := Z_ (fS_ hB_ hb); (try clear hb); (try clear hb2); (try clear hk); (try clear hi); obtain ⟨⟨hcz33_0, hcz33_1⟩, hfz33_0, hfz33_1⟩ := f2_ BK1142.out) | (go_at_call 23; (with_reducible refine (snowlinelaw04_small.calls a0_0 _ _ l0_1 false _ ?side1 ?side2 A12.out).mono ?_); (case side1 => exact cS_ (cB_ HR0_1.out HB.out)); (case side2 => exact HC0_1.out); rintro e w34 ⟨rfl, hb⟩; replace BK1142 := Z_ (bB_ (g := gb1142) (o := .cells #[.int .i64 a0_0, .slice A0_1 l0_1.length c0_1] 24 (0, 0)) (bR_ BK1142.out) hb); replace HB := Z_ (fS_ hB_ hb); (try clear hb); (try clear hb2); (try clear hk); (try clear hi))); try go_wp2_with (first | (go_at_call 29; (with_reducible refine (diffs_Check.calls k a0_0 _ _ l0_1 t1144 _ ?side1 ?side2 A10.out).mono ?_); (case side1 => exact cS_ (cB_ HR0_1.out HB.out)); (case side2 => exact HC0_1.out); rintro e w32 ⟨rfl, hb⟩; replace BK1142 := Z_ (bB_ (g := gb1142) (o := .cells #[.int .i64 a0_0, .slice A0_1 l0_1.length c0_1] 24 (0, 0)) (bR_ BK1142.out) hb); replace HB := Z_ (fS_ hB_ hb); (try clear hb); (try clear hb2); (try clear hk); (try clear hi); obtain ⟨⟨hcz33_0, hcz33_1⟩, hfz33_0, hfz33_1⟩ := f2_ BK1142.out) | (go_at_call 23; (with_reducible refine (snowlinelaw04_small.calls a0_0 _ _ l0_1 false _ ?side1 ?side2 A12.out).mono ?_); (case side1 => exact cS_ (cB_ HR0_1.out HB.out)); (case side2 => exact HC0_1.out); rintro e w34 ⟨rfl, hb⟩; replace BK1142 := Z_ (bB_ (g := gb1142) (o := .cells #[.int .i64 a0_0, .slice A0_1 l0_1.length c0_1] 24 (0, 0)) (bR_ BK1142.out) hb); replace HB := Z_ (fS_ hB_ hb); (try clear hb); (try clear hb2); (try clear hk); (try clear hi))))
    go_meet
    case rel => exact ⟨_, (true), rf_, H', ⟨oL_⟩, ⟨bR_ BK1142.out⟩, ⟨hB_⟩⟩
   rw [if_neg c11] at H; obtain ⟨c11b0, c11b1⟩ := bn_ c11; (first | rw [c11b0] | (simp only [i64_w, i32_w]; rw [c11b0]) | skip)
   have H' := Z_ H; clear H; obtain ⟨⟨hcz35_0, hcz35_1⟩, hfz35_0, hfz35_1⟩ := f2_ BK1142.out; go_wp2_with (first | (go_at_call 29; (with_reducible refine (diffs_Check.calls k a0_0 _ _ l0_1 t1144 _ ?side1 ?side2 A10.out).mono ?_); (case side1 => exact cS_ (cB_ HR0_1.out HB.out)); (case side2 => exact HC0_1.out); rintro e w36 ⟨rfl, hb⟩; replace BK1142 := Z_ (bB_ (g := gb1142) (o := .cells #[.int .i64 a0_0, .slice A0_1 l0_1.length c0_1] 24 (0, 0)) (bR_ BK1142.out) hb); replace HB := Z_ (fS_ hB_ hb); (try clear hb); (try clear hb2); (try clear hk); (try clear hi))); repeat (go_quiet (first | (go_at_call 29; (with_reducible refine (diffs_Check.calls k a0_0 _ _ l0_1 t1144 _ ?side1 ?side2 A10.out).mono ?_); (case side1 => exact cS_ (cB_ HR0_1.out HB.out)); (case side2 => exact HC0_1.out); rintro e w36 ⟨rfl, hb⟩; replace BK1142 := Z_ (bB_ (g := gb1142) (o := .cells #[.int .i64 a0_0, .slice A0_1 l0_1.length c0_1] 24 (0, 0)) (bR_ BK1142.out) hb); replace HB := Z_ (fS_ hB_ hb); (try clear hb); (try clear hb2); (try clear hk); (try clear hi))); try go_wp2_with (first | (go_at_call 29; (with_reducible refine (diffs_Check.calls k a0_0 _ _ l0_1 t1144 _ ?side1 ?side2 A10.out).mono ?_); (case side1 => exact cS_ (cB_ HR0_1.out HB.out)); (case side2 => exact HC0_1.out); rintro e w36 ⟨rfl, hb⟩; replace BK1142 := Z_ (bB_ (g := gb1142) (o := .cells #[.int .i64 a0_0, .slice A0_1 l0_1.length c0_1] 24 (0, 0)) (bR_ BK1142.out) hb); replace HB := Z_ (fS_ hB_ hb); (try clear hb); (try clear hb2); (try clear hk); (try clear hi))))
   go_meet
   case rel => exact ⟨_, (true), rf_, H', ⟨oL_⟩, ⟨bR_ BK1142.out⟩, ⟨hB_⟩⟩
  case rest =>
   clear HC9; (try clear c1); (try clear c2); (try clear p2); (try clear c8); (try clear c11); (try clear c11b0); (try clear c11b1); (try clear c13); (try clear c15); (try clear hcz17_0); (try clear hcz17_1); (try clear hcz19_0); (try clear hcz19_1); (try clear hcz21_0); (try clear hcz21_1); (try clear hcz23_0); (try clear hcz23_1); (try clear hcz25_0); (try clear hcz25_1); (try clear hcz27_0); (try clear hcz27_1); (try clear hcz29_0); (try clear hcz29_1); (try clear hcz31_0); (try clear hcz31_1); (try clear hcz33_0); (try clear hcz33_1); (try clear hcz35_0); (try clear hcz35_1); (try clear hfz17_0); (try clear hfz17_1); (try clear hfz19_0); (try clear hfz19_1); (try clear hfz21_0); (try clear hfz21_1); (try clear hfz23_0); (try clear hfz23_1); (try clear hfz25_0); (try clear hfz25_1); (try clear hfz27_0); (try clear hfz27_1); (try clear hfz29_0); (try clear hfz29_1); (try clear hfz31_0); (try clear hfz31_1); (try clear hfz33_0); (try clear hfz33_1); (try clear hfz35_0); (try clear hfz35_1)
   obtain ⟨kq, x34_8, rfl, HA, HJ8, BK1142, HB⟩ := hcut
   cases kq with
   | zero => exact absurd HA.out (by simp [snowlinelaw04_DiffsLattice.j0])
   | succ kj8 =>
    have H := HA.out; clear HA; simp only [snowlinelaw04_DiffsLattice.j0] at H; by_cases c37 : x34_8 = true
    ·subst c37
     rw [if_pos rfl] at H; obtain rfl := oI_ H; go_wp2; repeat (go_quiet (fail); try go_wp2)
     go_ret; exact ⟨eW_, hB_⟩
    replace c37 := bE_.mpr c37; subst c37; have H1 : ((diffs_Higher.f kj8 a0_0 l0_1 l1 l2).bind fun bt1148 => (if bt1148.2 = 0 then ((snowlinelaw04_fulfils.f kj8 a0_0 l0_1 bt1148.1).bind fun t1152 => (snowlinelaw04_DiffsLattice.j1 kj8 l1 l2 bt1148.1 (!t1152) a0_0 l0_1)) else (snowlinelaw04_DiffsLattice.j1 kj8 l1 l2 bt1148.1 true a0_0 l0_1))) = some r := by rw [if_neg (show ¬ (false = true) by decide)] at H; exact H
    clear H; have H := H1; clear H1; replace H := oS_.mp H; obtain ⟨⟨t1148, t1151⟩, A380, H⟩ := H; have A38 := Z_ A380; clear A380; have HC39 := Z_ H; clear H; obtain ⟨⟨hcz40_0, hcz40_1⟩, hfz40_0, hfz40_1⟩ := f2_ BK1142.out; go_upto_region 6 with (first | (go_at_call 55; (with_reducible refine (diffs_Higher.calls kj8 a0_0 _ _ l0_1 _ _ l1 _ _ l2 t1148 t1151 _ ?side1 ?side2 ?side3 ?side4 ?side5 ?side6 A38.out).mono ?_); (case side1 => exact cS_ (cB_ HR0_1.out HB.out)); (case side2 => exact HC0_1.out); (case side3 => exact cS_ (cB_ HR1.out HB.out)); (case side4 => exact HC1.out); (case side5 => exact cS_ (cB_ HR2.out HB.out)); (case side6 => exact HC2.out); rintro e w41 ⟨v1149, rfl, ho0, hb⟩; have HO1150 := Z_ (rL_ ho0 (fZ_ hB_)); replace BK1142 := Z_ (bB_ (g := gb1142) (o := .cells #[.int .i64 a0_0, .slice A0_1 l0_1.length c0_1] 24 (0, 0)) (bR_ BK1142.out) hb); replace HB := Z_ (fS_ hB_ hb); (try clear hb); (try clear hb2); (try clear hk); (try clear hi); (try clear ho0))); repeat (go_quiet (first | (go_at_call 55; (with_reducible refine (diffs_Higher.calls kj8 a0_0 _ _ l0_1 _ _ l1 _ _ l2 t1148 t1151 _ ?side1 ?side2 ?side3 ?side4 ?side5 ?side6 A38.out).mono ?_); (case side1 => exact cS_ (cB_ HR0_1.out HB.out)); (case side2 => exact HC0_1.out); (case side3 => exact cS_ (cB_ HR1.out HB.out)); (case side4 => exact HC1.out); (case side5 => exact cS_ (cB_ HR2.out HB.out)); (case side6 => exact HC2.out); rintro e w41 ⟨v1149, rfl, ho0, hb⟩; have HO1150 := Z_ (rL_ ho0 (fZ_ hB_)); replace BK1142 := Z_ (bB_ (g := gb1142) (o := .cells #[.int .i64 a0_0, .slice A0_1 l0_1.length c0_1] 24 (0, 0)) (bR_ BK1142.out) hb); replace HB := Z_ (fS_ hB_ hb); (try clear hb); (try clear hb2); (try clear hk); (try clear hi); (try clear ho0))); go_upto_region 6 with (first | (go_at_call 55; (with_reducible refine (diffs_Higher.calls kj8 a0_0 _ _ l0_1 _ _ l1 _ _ l2 t1148 t1151 _ ?side1 ?side2 ?side3 ?side4 ?side5 ?side6 A38.out).mono ?_); (case side1 => exact cS_ (cB_ HR0_1.out HB.out)); (case side2 => exact HC0_1.out); (case side3 => exact cS_ (cB_ HR1.out HB.out)); (case side4 => exact HC1.out); (case side5 => exact cS_ (cB_ HR2.out HB.out)); (case side6 => exact HC2.out); rintro e w41 ⟨v1149, rfl, ho0, hb⟩; have HO1150 := Z_ (rL_ ho0 (fZ_ hB_)); replace BK1142 := Z_ (bB_ (g := gb1142) (o := .cells #[.int .i64 a0_0, .slice A0_1 l0_1.length c0_1] 24 (0, 0)) (bR_ BK1142.out) hb); replace HB := Z_ (fS_ hB_ hb); (try clear hb); (try clear hb2); (try clear hk); (try clear hi); (try clear ho0))))
    (try simp only [Act.put, sT_, sZ_, sS_])
    go_cut [49] (fun v49 wc => ∃ (kq : Nat) (x49_38 : Bool), v49 = .bool x49_38 ∧ Aside0 (snowlinelaw04_DiffsLattice.j1 kq l1 l2 t1148 x49_38 a0_0 l0_1 = some r) ∧ Aside0 (kq ≤ kj8) ∧ Aside0 (Kd.R (Kd.int .i64) 3 wc w.heap.size (fun _ => True) v1149 t1148) ∧ Aside0 (wc.heap[gb1142]? = some (.cells #[.int .i64 a0_0, (.slice A0_1 l0_1.length c0_1)] 24 (0, 0))) ∧ Aside0 (Below w.heap.size w wc))
    case first =>
     have H := HC39.out; clear HC39; by_cases c42 : t1151 = 0
     ·rw [if_pos c42] at H
      obtain ⟨c42b0, c42b1⟩ := be_ c42; clear c42; (first | rw [c42b0] | (simp only [i64_w, i32_w]; rw [c42b0]) | skip)
      replace H := oS_.mp H; obtain ⟨t1152, A430, H⟩ := H; have A43 := Z_ A430; clear A430; have H' := Z_ H; clear H; obtain ⟨⟨hcz44_0, hcz44_1⟩, hfz44_0, hfz44_1⟩ := f2_ BK1142.out; obtain ⟨Ao45, co45, eo45⟩ := rS_ HO1150.out; subst eo45; go_wp2_with (first | (go_at_call 48; (with_reducible refine (snowlinelaw04_fulfils.calls kj8 a0_0 _ _ l0_1 _ _ t1148 t1152 _ ?side1 ?side2 ?side3 ?side4 A43.out).mono ?_); (case side1 => exact cS_ (cB_ HR0_1.out HB.out)); (case side2 => exact HC0_1.out); (case side3 => repeat (first | exact (rR_ HO1150.out).2.2 | (with_reducible refine Kd.C_alloc ?_ _) | (with_reducible refine Kd.C_drewN ?_ _) | (with_reducible refine Kd.C_drew ?_))); (case side4 => exact (rR_ HO1150.out).2.1); rintro e w46 ⟨rfl, hb⟩; replace HO1150 := Z_ (rB_ (rK_ HO1150.out) hb); replace BK1142 := Z_ (bB_ (g := gb1142) (o := .cells #[.int .i64 a0_0, .slice A0_1 l0_1.length c0_1] 24 (0, 0)) (bR_ BK1142.out) hb); replace HB := Z_ (fS_ hB_ hb); (try clear hb); (try clear hb2); (try clear hk); (try clear hi))); repeat (go_quiet (first | (go_at_call 48; (with_reducible refine (snowlinelaw04_fulfils.calls kj8 a0_0 _ _ l0_1 _ _ t1148 t1152 _ ?side1 ?side2 ?side3 ?side4 A43.out).mono ?_); (case side1 => exact cS_ (cB_ HR0_1.out HB.out)); (case side2 => exact HC0_1.out); (case side3 => repeat (first | exact (rR_ HO1150.out).2.2 | (with_reducible refine Kd.C_alloc ?_ _) | (with_reducible refine Kd.C_drewN ?_ _) | (with_reducible refine Kd.C_drew ?_))); (case side4 => exact (rR_ HO1150.out).2.1); rintro e w46 ⟨rfl, hb⟩; replace HO1150 := Z_ (rB_ (rK_ HO1150.out) hb); replace BK1142 := Z_ (bB_ (g := gb1142) (o := .cells #[.int .i64 a0_0, .slice A0_1 l0_1.length c0_1] 24 (0, 0)) (bR_ BK1142.out) hb); replace HB := Z_ (fS_ hB_ hb); (try clear hb); (try clear hb2); (try clear hk); (try clear hi))); try go_wp2_with (first | (go_at_call 48; (with_reducible refine (snowlinelaw04_fulfils.calls kj8 a0_0 _ _ l0_1 _ _ t1148 t1152 _ ?side1 ?side2 ?side3 ?side4 A43.out).mono ?_); (case side1 => exact cS_ (cB_ HR0_1.out HB.out)); (case side2 => exact HC0_1.out); (case side3 => repeat (first | exact (rR_ HO1150.out).2.2 | (with_reducible refine Kd.C_alloc ?_ _) | (with_reducible refine Kd.C_drewN ?_ _) | (with_reducible refine Kd.C_drew ?_))); (case side4 => exact (rR_ HO1150.out).2.1); rintro e w46 ⟨rfl, hb⟩; replace HO1150 := Z_ (rB_ (rK_ HO1150.out) hb); replace BK1142 := Z_ (bB_ (g := gb1142) (o := .cells #[.int .i64 a0_0, .slice A0_1 l0_1.length c0_1] 24 (0, 0)) (bR_ BK1142.out) hb); replace HB := Z_ (fS_ hB_ hb); (try clear hb); (try clear hb2); (try clear hk); (try clear hi))))
      go_meet
      case rel => exact ⟨_, (!t1152), rf_, H', ⟨by have := HJ8.out; first | omega | exact nR_ _⟩, ⟨rK_ HO1150.out⟩, ⟨bR_ BK1142.out⟩, ⟨hB_⟩⟩
     rw [if_neg c42] at H; obtain ⟨c42b0, c42b1⟩ := bn_ c42; (first | rw [c42b0] | (simp only [i64_w, i32_w]; rw [c42b0]) | skip)
     have H' := Z_ H; clear H; go_wp2; repeat (go_quiet (fail); try go_wp2)
     go_meet
     case rel => exact ⟨_, (true), rf_, H', ⟨by have := HJ8.out; first | omega | exact nR_ _⟩, ⟨rK_ HO1150.out⟩, ⟨bR_ BK1142.out⟩, ⟨hB_⟩⟩
    case rest =>
     clear HC39; (try clear c1); (try clear c2); (try clear p2); (try clear c3); (try clear c4); (try clear c8); (try clear c11); (try clear c11b0); (try clear c11b1); (try clear c13); (try clear c15); (try clear c37); (try clear c42); (try clear c42b0); (try clear c42b1); (try clear hcz17_0); (try clear hcz17_1); (try clear hcz19_0); (try clear hcz19_1); (try clear hcz21_0); (try clear hcz21_1); (try clear hcz23_0); (try clear hcz23_1); (try clear hcz25_0); (try clear hcz25_1); (try clear hcz27_0); (try clear hcz27_1); (try clear hcz29_0); (try clear hcz29_1); (try clear hcz31_0); (try clear hcz31_1); (try clear hcz33_0); (try clear hcz33_1); (try clear hcz35_0); (try clear hcz35_1); (try clear hcz40_0); (try clear hcz40_1); (try clear hcz44_0); (try clear hcz44_1); (try clear hfz17_0); (try clear hfz17_1); (try clear hfz19_0); (try clear hfz19_1); (try clear hfz21_0); (try clear hfz21_1); (try clear hfz23_0); (try clear hfz23_1); (try clear hfz25_0); (try clear hfz25_1); (try clear hfz27_0); (try clear hfz27_1); (try clear hfz29_0); (try clear hfz29_1); (try clear hfz31_0); (try clear hfz31_1); (try clear hfz33_0); (try clear hfz33_1); (try clear hfz35_0); (try clear hfz35_1); (try clear hfz40_0); (try clear hfz40_1); (try clear hfz44_0); (try clear hfz44_1); (try clear p2)
     obtain ⟨kq, x49_38, rfl, HA, HJ38, HO_7, BK1142, HB⟩ := hcut
     cases kq with
     | zero => exact absurd HA.out (by simp [snowlinelaw04_DiffsLattice.j1])
     | succ kj38 =>
      have H := HA.out; clear HA; simp only [snowlinelaw04_DiffsLattice.j1] at H; by_cases c47 : x49_38 = true
      ·subst c47
       rw [if_pos rfl] at H; obtain rfl := oI_ H; go_wp2; repeat (go_quiet (fail); try go_wp2)
       go_ret; exact ⟨eW_, hB_⟩
      replace c47 := bE_.mpr c47; subst c47; have H1 : ((diffs_Top.f kj38 a0_0 l0_1).bind fun bt1153 => ((diffs_Bottom.f kj38 a0_0 l0_1).bind fun bt1157 => (if bt1153.2 = 0 then (if bt1157.2 = 0 then ((snowlinelaw04_fulfils.f kj38 a0_0 l0_1 bt1153.1).bind fun t1161 => (if t1161 = true then ((snowlinelaw04_fulfils.f kj38 a0_0 l0_1 bt1157.1).bind fun t1162 => (snowlinelaw04_DiffsLattice.j2 kj38 l1 l2 t1148 bt1153.2 bt1153.1 bt1157.1 bt1157.2 (!t1162))) else (snowlinelaw04_DiffsLattice.j2 kj38 l1 l2 t1148 bt1153.2 bt1153.1 bt1157.1 bt1157.2 true))) else (if bt1157.2 = 42 then ((snowlinelaw04_fulfils.f kj38 a0_0 l0_1 bt1153.1).bind fun t1163 => (if t1163 = true then (snowlinelaw04_DiffsLattice.j2 kj38 l1 l2 t1148 bt1153.2 bt1153.1 bt1157.1 bt1157.2 false) else (snowlinelaw04_DiffsLattice.j2 kj38 l1 l2 t1148 bt1153.2 bt1153.1 bt1157.1 bt1157.2 true))) else (snowlinelaw04_DiffsLattice.j2 kj38 l1 l2 t1148 bt1153.2 bt1153.1 bt1157.1 bt1157.2 true))) else (if bt1153.2 = 42 then (if bt1157.2 = 0 then ((snowlinelaw04_fulfils.f kj38 a0_0 l0_1 bt1157.1).bind fun t1164 => (snowlinelaw04_DiffsLattice.j2 kj38 l1 l2 t1148 bt1153.2 bt1153.1 bt1157.1 bt1157.2 (!t1164))) else (if bt1157.2 = 42 then (snowlinelaw04_DiffsLattice.j2 kj38 l1 l2 t1148 bt1153.2 bt1153.1 bt1157.1 bt1157.2 false) else (snowlinelaw04_DiffsLattice.j2 kj38 l1 l2 t1148 bt1153.2 bt1153.1 bt1157.1 bt1157.2 true))) else (snowlinelaw04_DiffsLattice.j2 kj38 l1 l2 t1148 bt1153.2 bt1153.1 bt1157.1 bt1157.2 true))))) = some r := by rw [if_neg (show ¬ (false = true) by decide)] at H; exact H
      clear H; have H := H1; clear H1; replace H := oS_.mp H; obtain ⟨⟨t1153, t1156⟩, A480, H⟩ := H; have A48 := Z_ A480; clear A480; replace H := oS_.mp H; obtain ⟨⟨t1157, t1160⟩, A490, H⟩ := H; have A49 := Z_ A490; clear A490; have HC50 := Z_ H; clear H; obtain ⟨⟨hcz51_0, hcz51_1⟩, hfz51_0, hfz51_1⟩ := f2_ BK1142.out; go_upto_region 10 with (first | (go_at_call 24; (with_reducible refine (diffs_Top.calls kj38 a0_0 _ _ l0_1 t1153 t1156 _ ?side1 ?side2 A48.out).mono ?_); (case side1 => exact cS_ (cB_ HR0_1.out HB.out)); (case side2 => exact HC0_1.out); rintro e w52 ⟨v1154, rfl, ho0, hb⟩; have HO1155 := Z_ (rL_ (Kd.R_new' ho0 (Kd.R_lt (rK_ HO_7.out))) (fZ_ hB_)); replace HO_7 := Z_ (Kd.R_elder' (rK_ HO_7.out) (Kd.R_base ho0) hb); replace BK1142 := Z_ (bB_ (g := gb1142) (o := .cells #[.int .i64 a0_0, .slice A0_1 l0_1.length c0_1] 24 (0, 0)) (bR_ BK1142.out) hb); replace HB := Z_ (fS_ hB_ hb); (try clear hb); (try clear hb2); (try clear hk); (try clear hi); (try clear ho0); obtain ⟨⟨hcz53_0, hcz53_1⟩, hfz53_0, hfz53_1⟩ := f2_ BK1142.out) | (go_at_call 26; (with_reducible refine (diffs_Bottom.calls kj38 a0_0 _ _ l0_1 t1157 t1160 _ ?side1 ?side2 A49.out).mono ?_); (case side1 => exact cS_ (cB_ HR0_1.out HB.out)); (case side2 => exact HC0_1.out); rintro e w54 ⟨v1158, rfl, ho0, hb⟩; have HO1159 := Z_ (rL_ (Kd.R_new' (Kd.R_new' ho0 (Kd.R_lt (rK_ HO_7.out))) (Kd.R_lt (rK_ HO1155.out))) (fZ_ hB_)); replace HO_7 := Z_ (Kd.R_elder' (rK_ HO_7.out) (Kd.R_base ho0) hb); replace HO1155 := Z_ (Kd.R_elder' (rK_ HO1155.out) (Kd.R_base ho0) hb); replace BK1142 := Z_ (bB_ (g := gb1142) (o := .cells #[.int .i64 a0_0, .slice A0_1 l0_1.length c0_1] 24 (0, 0)) (bR_ BK1142.out) hb); replace HB := Z_ (fS_ hB_ hb); (try clear hb); (try clear hb2); (try clear hk); (try clear hi); (try clear ho0))); repeat (go_quiet (first | (go_at_call 24; (with_reducible refine (diffs_Top.calls kj38 a0_0 _ _ l0_1 t1153 t1156 _ ?side1 ?side2 A48.out).mono ?_); (case side1 => exact cS_ (cB_ HR0_1.out HB.out)); (case side2 => exact HC0_1.out); rintro e w52 ⟨v1154, rfl, ho0, hb⟩; have HO1155 := Z_ (rL_ (Kd.R_new' ho0 (Kd.R_lt (rK_ HO_7.out))) (fZ_ hB_)); replace HO_7 := Z_ (Kd.R_elder' (rK_ HO_7.out) (Kd.R_base ho0) hb); replace BK1142 := Z_ (bB_ (g := gb1142) (o := .cells #[.int .i64 a0_0, .slice A0_1 l0_1.length c0_1] 24 (0, 0)) (bR_ BK1142.out) hb); replace HB := Z_ (fS_ hB_ hb); (try clear hb); (try clear hb2); (try clear hk); (try clear hi); (try clear ho0); obtain ⟨⟨hcz53_0, hcz53_1⟩, hfz53_0, hfz53_1⟩ := f2_ BK1142.out) | (go_at_call 26; (with_reducible refine (diffs_Bottom.calls kj38 a0_0 _ _ l0_1 t1157 t1160 _ ?side1 ?side2 A49.out).mono ?_); (case side1 => exact cS_ (cB_ HR0_1.out HB.out)); (case side2 => exact HC0_1.out); rintro e w54 ⟨v1158, rfl, ho0, hb⟩; have HO1159 := Z_ (rL_ (Kd.R_new' (Kd.R_new' ho0 (Kd.R_lt (rK_ HO_7.out))) (Kd.R_lt (rK_ HO1155.out))) (fZ_ hB_)); replace HO_7 := Z_ (Kd.R_elder' (rK_ HO_7.out) (Kd.R_base ho0) hb); replace HO1155 := Z_ (Kd.R_elder' (rK_ HO1155.out) (Kd.R_base ho0) hb); replace BK1142 := Z_ (bB_ (g := gb1142) (o := .cells #[.int .i64 a0_0, .slice A0_1 l0_1.length c0_1] 24 (0, 0)) (bR_ BK1142.out) hb); replace HB := Z_ (fS_ hB_ hb); (try clear hb); (try clear hb2); (try clear hk); (try clear hi); (try clear ho0))); go_upto_region 10 with (first | (go_at_call 24; (with_reducible refine (diffs_Top.calls kj38 a0_0 _ _ l0_1 t1153 t1156 _ ?side1 ?side2 A48.out).mono ?_); (case side1 => exact cS_ (cB_ HR0_1.out HB.out)); (case side2 => exact HC0_1.out); rintro e w52 ⟨v1154, rfl, ho0, hb⟩; have HO1155 := Z_ (rL_ (Kd.R_new' ho0 (Kd.R_lt (rK_ HO_7.out))) (fZ_ hB_)); replace HO_7 := Z_ (Kd.R_elder' (rK_ HO_7.out) (Kd.R_base ho0) hb); replace BK1142 := Z_ (bB_ (g := gb1142) (o := .cells #[.int .i64 a0_0, .slice A0_1 l0_1.length c0_1] 24 (0, 0)) (bR_ BK1142.out) hb); replace HB := Z_ (fS_ hB_ hb); (try clear hb); (try clear hb2); (try clear hk); (try clear hi); (try clear ho0); obtain ⟨⟨hcz53_0, hcz53_1⟩, hfz53_0, hfz53_1⟩ := f2_ BK1142.out) | (go_at_call 26; (with_reducible refine (diffs_Bottom.calls kj38 a0_0 _ _ l0_1 t1157 t1160 _ ?side1 ?side2 A49.out).mono ?_); (case side1 => exact cS_ (cB_ HR0_1.out HB.out)); (case side2 => exact HC0_1.out); rintro e w54 ⟨v1158, rfl, ho0, hb⟩; have HO1159 := Z_ (rL_ (Kd.R_new' (Kd.R_new' ho0 (Kd.R_lt (rK_ HO_7.out))) (Kd.R_lt (rK_ HO1155.out))) (fZ_ hB_)); replace HO_7 := Z_ (Kd.R_elder' (rK_ HO_7.out) (Kd.R_base ho0) hb); replace HO1155 := Z_ (Kd.R_elder' (rK_ HO1155.out) (Kd.R_base ho0) hb); replace BK1142 := Z_ (bB_ (g := gb1142) (o := .cells #[.int .i64 a0_0, .slice A0_1 l0_1.length c0_1] 24 (0, 0)) (bR_ BK1142.out) hb); replace HB := Z_ (fS_ hB_ hb); (try clear hb); (try clear hb2); (try clear hk); (try clear hi); (try clear ho0))))
      (try simp only [Act.put, sT_, sZ_, sS_])
      go_cut [93] (fun v93 wc => ∃ (kq : Nat) (x93_49 : Bool), v93 = .bool x93_49 ∧ Aside0 (snowlinelaw04_DiffsLattice.j2 kq l1 l2 t1148 t1156 t1153 t1157 t1160 x93_49 = some r) ∧ Aside0 (kq ≤ kj38) ∧ Aside0 (Kd.R (Kd.int .i64) 3 wc w.heap.size (fun k_ => some k_ ≠ (v1154 : Value).ownBlock ∧ some k_ ≠ (v1158 : Value).ownBlock) v1149 t1148) ∧ Aside0 (Kd.R (Kd.int .i64) 3 wc w.heap.size (fun k_ => some k_ ≠ (v1149 : Value).ownBlock ∧ some k_ ≠ (v1158 : Value).ownBlock) v1154 t1153) ∧ Aside0 (Kd.R (Kd.int .i64) 3 wc w.heap.size (fun k_ => some k_ ≠ (v1149 : Value).ownBlock ∧ some k_ ≠ (v1154 : Value).ownBlock) v1158 t1157) ∧ Aside0 (wc.heap[gb1142]? = some (.cells #[.int .i64 a0_0, (.slice A0_1 l0_1.length c0_1)] 24 (0, 0))) ∧ Aside0 (Below w.heap.size w wc))
      case first =>
       have H := HC50.out; clear HC50; by_cases c55 : t1156 = 0
       ·rw [if_pos c55] at H
        obtain ⟨c55b0, c55b1⟩ := be_ c55; clear c55; (first | rw [c55b0] | (simp only [i64_w, i32_w]; rw [c55b0]) | skip)
        by_cases c56 : t1160 = 0
        ·rw [if_pos c56] at H
         obtain ⟨c56b0, c56b1⟩ := be_ c56; clear c56; replace H := oS_.mp H; obtain ⟨t1161, A570, H⟩ := H; have A57 := Z_ A570; clear A570; by_cases c58 : t1161 = true
         ·subst c58
          rw [if_pos rfl] at H; replace H := oS_.mp H; obtain ⟨t1162, A590, H⟩ := H; have A59 := Z_ A590; clear A590; have H' := Z_ H; clear H; obtain ⟨⟨hcz60_0, hcz60_1⟩, hfz60_0, hfz60_1⟩ := f2_ BK1142.out; obtain ⟨Ao61, co61, eo61⟩ := rS_ HO1155.out; subst eo61; go_wp2_with (first | (go_at_call 48; (with_reducible refine (snowlinelaw04_fulfils.calls kj38 a0_0 _ _ l0_1 _ _ t1153 true _ ?side1 ?side2 ?side3 ?side4 A57.out).mono ?_); (case side1 => exact cS_ (cB_ HR0_1.out HB.out)); (case side2 => exact HC0_1.out); (case side3 => repeat (first | exact (rR_ HO1155.out).2.2 | (with_reducible refine Kd.C_alloc ?_ _) | (with_reducible refine Kd.C_drewN ?_ _) | (with_reducible refine Kd.C_drew ?_))); (case side4 => exact (rR_ HO1155.out).2.1); rintro e w62 ⟨rfl, hb⟩; replace HO_7 := Z_ (rB_ (rK_ HO_7.out) hb); replace HO1155 := Z_ (rB_ (rK_ HO1155.out) hb); replace HO1159 := Z_ (rB_ (rK_ HO1159.out) hb); replace BK1142 := Z_ (bB_ (g := gb1142) (o := .cells #[.int .i64 a0_0, .slice A0_1 l0_1.length c0_1] 24 (0, 0)) (bR_ BK1142.out) hb); replace HB := Z_ (fS_ hB_ hb); (try clear hb); (try clear hb2); (try clear hk); (try clear hi); obtain ⟨⟨hcz63_0, hcz63_1⟩, hfz63_0, hfz63_1⟩ := f2_ BK1142.out; obtain ⟨Ao64, co64, eo64⟩ := rS_ HO1159.out; subst eo64) | (go_at_call 48; (with_reducible refine (snowlinelaw04_fulfils.calls kj38 a0_0 _ _ l0_1 _ _ t1157 t1162 _ ?side1 ?side2 ?side3 ?side4 A59.out).mono ?_); (case side1 => exact cS_ (cB_ HR0_1.out HB.out)); (case side2 => exact HC0_1.out); (case side3 => repeat (first | exact (rR_ HO1159.out).2.2 | (with_reducible refine Kd.C_alloc ?_ _) | (with_reducible refine Kd.C_drewN ?_ _) | (with_reducible refine Kd.C_drew ?_))); (case side4 => exact (rR_ HO1159.out).2.1); rintro e w65 ⟨rfl, hb⟩; replace HO_7 := Z_ (rB_ (rK_ HO_7.out) hb); replace HO1155 := Z_ (rB_ (rK_ HO1155.out) hb); replace HO1159 := Z_ (rB_ (rK_ HO1159.out) hb); replace BK1142 := Z_ (bB_ (g := gb1142) (o := .cells #[.int .i64 a0_0, .slice A0_1 l0_1.length c0_1] 24 (0, 0)) (bR_ BK1142.out) hb); replace HB := Z_ (fS_ hB_ hb); (try clear hb); (try clear hb2); (try clear hk); (try clear hi))); repeat (go_quiet (first | (go_at_call 48; (with_reducible refine (snowlinelaw04_fulfils.calls kj38 a0_0 _ _ l0_1 _ _ t1153 true _ ?side1 ?side2 ?side3 ?side4 A57.out).mono ?_); (case side1 => exact cS_ (cB_ HR0_1.out HB.out)); (case side2 => exact HC0_1.out); (case side3 => repeat (first | exact (rR_ HO1155.out).2.2 | (with_reducible refine Kd.C_alloc ?_ _) | (with_reducible refine Kd.C_drewN ?_ _) | (with_reducible refine Kd.C_drew ?_))); (case side4 => exact (rR_ HO1155.out).2.1); rintro e w62 ⟨rfl, hb⟩; replace HO_7 := Z_ (rB_ (rK_ HO_7.out) hb); replace HO1155 := Z_ (rB_ (rK_ HO1155.out) hb); replace HO1159 := Z_ (rB_ (rK_ HO1159.out) hb); replace BK1142 := Z_ (bB_ (g := gb1142) (o := .cells #[.int .i64 a0_0, .slice A0_1 l0_1.length c0_1] 24 (0, 0)) (bR_ BK1142.out) hb); replace HB := Z_ (fS_ hB_ hb); (try clear hb); (try clear hb2); (try clear hk); (try clear hi); obtain ⟨⟨hcz63_0, hcz63_1⟩, hfz63_0, hfz63_1⟩ := f2_ BK1142.out; obtain ⟨Ao64, co64, eo64⟩ := rS_ HO1159.out; subst eo64) | (go_at_call 48; (with_reducible refine (snowlinelaw04_fulfils.calls kj38 a0_0 _ _ l0_1 _ _ t1157 t1162 _ ?side1 ?side2 ?side3 ?side4 A59.out).mono ?_); (case side1 => exact cS_ (cB_ HR0_1.out HB.out)); (case side2 => exact HC0_1.out); (case side3 => repeat (first | exact (rR_ HO1159.out).2.2 | (with_reducible refine Kd.C_alloc ?_ _) | (with_reducible refine Kd.C_drewN ?_ _) | (with_reducible refine Kd.C_drew ?_))); (case side4 => exact (rR_ HO1159.out).2.1); rintro e w65 ⟨rfl, hb⟩; replace HO_7 := Z_ (rB_ (rK_ HO_7.out) hb); replace HO1155 := Z_ (rB_ (rK_ HO1155.out) hb); replace HO1159 := Z_ (rB_ (rK_ HO1159.out) hb); replace BK1142 := Z_ (bB_ (g := gb1142) (o := .cells #[.int .i64 a0_0, .slice A0_1 l0_1.length c0_1] 24 (0, 0)) (bR_ BK1142.out) hb); replace HB := Z_ (fS_ hB_ hb); (try clear hb); (try clear hb2); (try clear hk); (try clear hi))); try go_wp2_with (first | (go_at_call 48; (with_reducible refine (snowlinelaw04_fulfils.calls kj38 a0_0 _ _ l0_1 _ _ t1153 true _ ?side1 ?side2 ?side3 ?side4 A57.out).mono ?_); (case side1 => exact cS_ (cB_ HR0_1.out HB.out)); (case side2 => exact HC0_1.out); (case side3 => repeat (first | exact (rR_ HO1155.out).2.2 | (with_reducible refine Kd.C_alloc ?_ _) | (with_reducible refine Kd.C_drewN ?_ _) | (with_reducible refine Kd.C_drew ?_))); (case side4 => exact (rR_ HO1155.out).2.1); rintro e w62 ⟨rfl, hb⟩; replace HO_7 := Z_ (rB_ (rK_ HO_7.out) hb); replace HO1155 := Z_ (rB_ (rK_ HO1155.out) hb); replace HO1159 := Z_ (rB_ (rK_ HO1159.out) hb); replace BK1142 := Z_ (bB_ (g := gb1142) (o := .cells #[.int .i64 a0_0, .slice A0_1 l0_1.length c0_1] 24 (0, 0)) (bR_ BK1142.out) hb); replace HB := Z_ (fS_ hB_ hb); (try clear hb); (try clear hb2); (try clear hk); (try clear hi); obtain ⟨⟨hcz63_0, hcz63_1⟩, hfz63_0, hfz63_1⟩ := f2_ BK1142.out; obtain ⟨Ao64, co64, eo64⟩ := rS_ HO1159.out; subst eo64) | (go_at_call 48; (with_reducible refine (snowlinelaw04_fulfils.calls kj38 a0_0 _ _ l0_1 _ _ t1157 t1162 _ ?side1 ?side2 ?side3 ?side4 A59.out).mono ?_); (case side1 => exact cS_ (cB_ HR0_1.out HB.out)); (case side2 => exact HC0_1.out); (case side3 => repeat (first | exact (rR_ HO1159.out).2.2 | (with_reducible refine Kd.C_alloc ?_ _) | (with_reducible refine Kd.C_drewN ?_ _) | (with_reducible refine Kd.C_drew ?_))); (case side4 => exact (rR_ HO1159.out).2.1); rintro e w65 ⟨rfl, hb⟩; replace HO_7 := Z_ (rB_ (rK_ HO_7.out) hb); replace HO1155 := Z_ (rB_ (rK_ HO1155.out) hb); replace HO1159 := Z_ (rB_ (rK_ HO1159.out) hb); replace BK1142 := Z_ (bB_ (g := gb1142) (o := .cells #[.int .i64 a0_0, .slice A0_1 l0_1.length c0_1] 24 (0, 0)) (bR_ BK1142.out) hb); replace HB := Z_ (fS_ hB_ hb); (try clear hb); (try clear hb2); (try clear hk); (try clear hi))))
          go_meet
          case rel => exact ⟨_, (!t1162), rf_, H', ⟨by have := HJ8.out; have := HJ38.out; first | omega | exact nR_ _⟩, ⟨by (with_reducible repeat (first | apply rN_ | apply rD_)); exact rM_ HO_7.out (fun _ hk => ⟨hk.1.2, hk.2⟩)⟩, ⟨by (with_reducible repeat (first | apply rN_ | apply rD_)); exact rM_ HO1155.out (fun _ hk => ⟨hk.1.2, hk.2⟩)⟩, ⟨by (with_reducible repeat (first | apply rN_ | apply rD_)); exact rM_ HO1159.out (fun _ hk => ⟨hk.1.2, hk.2⟩)⟩, ⟨bR_ BK1142.out⟩, ⟨hB_⟩⟩
         replace c58 := bE_.mpr c58; subst c58; have H1 : (snowlinelaw04_DiffsLattice.j2 kj38 l1 l2 t1148 t1156 t1153 t1157 t1160 true) = some r := by rw [if_neg (show ¬ (false = true) by decide)] at H; exact H
         clear H; have H := H1; clear H1; have H' := Z_ H; clear H; obtain ⟨⟨hcz66_0, hcz66_1⟩, hfz66_0, hfz66_1⟩ := f2_ BK1142.out; obtain ⟨Ao67, co67, eo67⟩ := rS_ HO1155.out; subst eo67; go_wp2_with (first | (go_at_call 48; (with_reducible refine (snowlinelaw04_fulfils.calls kj38 a0_0 _ _ l0_1 _ _ t1153 false _ ?side1 ?side2 ?side3 ?side4 A57.out).mono ?_); (case side1 => exact cS_ (cB_ HR0_1.out HB.out)); (case side2 => exact HC0_1.out); (case side3 => repeat (first | exact (rR_ HO1155.out).2.2 | (with_reducible refine Kd.C_alloc ?_ _) | (with_reducible refine Kd.C_drewN ?_ _) | (with_reducible refine Kd.C_drew ?_))); (case side4 => exact (rR_ HO1155.out).2.1); rintro e w68 ⟨rfl, hb⟩; replace HO_7 := Z_ (rB_ (rK_ HO_7.out) hb); replace HO1155 := Z_ (rB_ (rK_ HO1155.out) hb); replace HO1159 := Z_ (rB_ (rK_ HO1159.out) hb); replace BK1142 := Z_ (bB_ (g := gb1142) (o := .cells #[.int .i64 a0_0, .slice A0_1 l0_1.length c0_1] 24 (0, 0)) (bR_ BK1142.out) hb); replace HB := Z_ (fS_ hB_ hb); (try clear hb); (try clear hb2); (try clear hk); (try clear hi))); repeat (go_quiet (first | (go_at_call 48; (with_reducible refine (snowlinelaw04_fulfils.calls kj38 a0_0 _ _ l0_1 _ _ t1153 false _ ?side1 ?side2 ?side3 ?side4 A57.out).mono ?_); (case side1 => exact cS_ (cB_ HR0_1.out HB.out)); (case side2 => exact HC0_1.out); (case side3 => repeat (first | exact (rR_ HO1155.out).2.2 | (with_reducible refine Kd.C_alloc ?_ _) | (with_reducible refine Kd.C_drewN ?_ _) | (with_reducible refine Kd.C_drew ?_))); (case side4 => exact (rR_ HO1155.out).2.1); rintro e w68 ⟨rfl, hb⟩; replace HO_7 := Z_ (rB_ (rK_ HO_7.out) hb); replace HO1155 := Z_ (rB_ (rK_ HO1155.out) hb); replace HO1159 := Z_ (rB_ (rK_ HO1159.out) hb); replace BK1142 := Z_ (bB_ (g := gb1142) (o := .cells #[.int .i64 a0_0, .slice A0_1 l0_1.length c0_1] 24 (0, 0)) (bR_ BK1142.out) hb); replace HB := Z_ (fS_ hB_ hb); (try clear hb); (try clear hb2); (try clear hk); (try clear hi))); try go_wp2_with (first | (go_at_call 48; (with_reducible refine (snowlinelaw04_fulfils.calls kj38 a0_0 _ _ l0_1 _ _ t1153 false _ ?side1 ?side2 ?side3 ?side4 A57.out).mono ?_); (case side1 => exact cS_ (cB_ HR0_1.out HB.out)); (case side2 => exact HC0_1.out); (case side3 => repeat (first | exact (rR_ HO1155.out).2.2 | (with_reducible refine Kd.C_alloc ?_ _) | (with_reducible refine Kd.C_drewN ?_ _) | (with_reducible refine Kd.C_drew ?_))); (case side4 => exact (rR_ HO1155.out).2.1); rintro e w68 ⟨rfl, hb⟩; replace HO_7 := Z_ (rB_ (rK_ HO_7.out) hb); replace HO1155 := Z_ (rB_ (rK_ HO1155.out) hb); replace HO1159 := Z_ (rB_ (rK_ HO1159.out) hb); replace BK1142 := Z_ (bB_ (g := gb1142) (o := .cells #[.int .i64 a0_0, .slice A0_1 l0_1.length c0_1] 24 (0, 0)) (bR_ BK1142.out) hb); replace HB := Z_ (fS_ hB_ hb); (try clear hb); (try clear hb2); (try clear hk); (try clear hi))))
         go_meet
         case rel => exact ⟨_, (true), rf_, H', ⟨by have := HJ8.out; have := HJ38.out; first | omega | exact nR_ _⟩, ⟨by (with_reducible repeat (first | apply rN_ | apply rD_)); exact rM_ HO_7.out (fun _ hk => ⟨hk.1.2, hk.2⟩)⟩, ⟨by (with_reducible repeat (first | apply rN_ | apply rD_)); exact rM_ HO1155.out (fun _ hk => ⟨hk.1.2, hk.2⟩)⟩, ⟨by (with_reducible repeat (first | apply rN_ | apply rD_)); exact rM_ HO1159.out (fun _ hk => ⟨hk.1.2, hk.2⟩)⟩, ⟨bR_ BK1142.out⟩, ⟨hB_⟩⟩
        rw [if_neg c56] at H; obtain ⟨c56b0, c56b1⟩ := bn_ c56; by_cases c69 : t1160 = 42
        ·rw [if_pos c69] at H
         obtain ⟨c69b0, c69b1⟩ := be_ c69; clear c69; replace H := oS_.mp H; obtain ⟨t1163, A700, H⟩ := H; have A70 := Z_ A700; clear A700; by_cases c71 : t1163 = true
         ·subst c71
          rw [if_pos rfl] at H; have H' := Z_ H; clear H; obtain ⟨⟨hcz72_0, hcz72_1⟩, hfz72_0, hfz72_1⟩ := f2_ BK1142.out; obtain ⟨Ao73, co73, eo73⟩ := rS_ HO1155.out; subst eo73; go_wp2_with (first | (go_at_call 48; (with_reducible refine (snowlinelaw04_fulfils.calls kj38 a0_0 _ _ l0_1 _ _ t1153 true _ ?side1 ?side2 ?side3 ?side4 A70.out).mono ?_); (case side1 => exact cS_ (cB_ HR0_1.out HB.out)); (case side2 => exact HC0_1.out); (case side3 => repeat (first | exact (rR_ HO1155.out).2.2 | (with_reducible refine Kd.C_alloc ?_ _) | (with_reducible refine Kd.C_drewN ?_ _) | (with_reducible refine Kd.C_drew ?_))); (case side4 => exact (rR_ HO1155.out).2.1); rintro e w74 ⟨rfl, hb⟩; replace HO_7 := Z_ (rB_ (rK_ HO_7.out) hb); replace HO1155 := Z_ (rB_ (rK_ HO1155.out) hb); replace HO1159 := Z_ (rB_ (rK_ HO1159.out) hb); replace BK1142 := Z_ (bB_ (g := gb1142) (o := .cells #[.int .i64 a0_0, .slice A0_1 l0_1.length c0_1] 24 (0, 0)) (bR_ BK1142.out) hb); replace HB := Z_ (fS_ hB_ hb); (try clear hb); (try clear hb2); (try clear hk); (try clear hi))); repeat (go_quiet (first | (go_at_call 48; (with_reducible refine (snowlinelaw04_fulfils.calls kj38 a0_0 _ _ l0_1 _ _ t1153 true _ ?side1 ?side2 ?side3 ?side4 A70.out).mono ?_); (case side1 => exact cS_ (cB_ HR0_1.out HB.out)); (case side2 => exact HC0_1.out); (case side3 => repeat (first | exact (rR_ HO1155.out).2.2 | (with_reducible refine Kd.C_alloc ?_ _) | (with_reducible refine Kd.C_drewN ?_ _) | (with_reducible refine Kd.C_drew ?_))); (case side4 => exact (rR_ HO1155.out).2.1); rintro e w74 ⟨rfl, hb⟩; replace HO_7 := Z_ (rB_ (rK_ HO_7.out) hb); replace HO1155 := Z_ (rB_ (rK_ HO1155.out) hb); replace HO1159 := Z_ (rB_ (rK_ HO1159.out) hb); replace BK1142 := Z_ (bB_ (g := gb1142) (o := .cells #[.int .i64 a0_0, .slice A0_1 l0_1.length c0_1] 24 (0, 0)) (bR_ BK1142.out) hb); replace HB := Z_ (fS_ hB_ hb); (try clear hb); (try clear hb2); (try clear hk); (try clear hi))); try go_wp2_with (first | (go_at_call 48; (with_reducible refine (snowlinelaw04_fulfils.calls kj38 a0_0 _ _ l0_1 _ _ t1153 true _ ?side1 ?side2 ?side3 ?side4 A70.out).mono ?_); (case side1 => exact cS_ (cB_ HR0_1.out HB.out)); (case side2 => exact HC0_1.out); (case side3 => repeat (first | exact (rR_ HO1155.out).2.2 | (with_reducible refine Kd.C_alloc ?_ _) | (with_reducible refine Kd.C_drewN ?_ _) | (with_reducible refine Kd.C_drew ?_))); (case side4 => exact (rR_ HO1155.out).2.1); rintro e w74 ⟨rfl, hb⟩; replace HO_7 := Z_ (rB_ (rK_ HO_7.out) hb); replace HO1155 := Z_ (rB_ (rK_ HO1155.out) hb); replace HO1159 := Z_ (rB_ (rK_ HO1159.out) hb); replace BK1142 := Z_ (bB_ (g := gb1142) (o := .cells #[.int .i64 a0_0, .slice A0_1 l0_1.length c0_1] 24 (0, 0)) (bR_ BK1142.out) hb); replace HB := Z_ (fS_ hB_ hb); (try clear hb); (try clear hb2); (try clear hk); (try clear hi))))
          go_meet
          case rel => exact ⟨_, (false), rf_, H', ⟨by have := HJ8.out; have := HJ38.out; first | omega | exact nR_ _⟩, ⟨by (with_reducible repeat (first | apply rN_ | apply rD_)); exact rM_ HO_7.out (fun _ hk => ⟨hk.1.2, hk.2⟩)⟩, ⟨by (with_reducible repeat (first | apply rN_ | apply rD_)); exact rM_ HO1155.out (fun _ hk => ⟨hk.1.2, hk.2⟩)⟩, ⟨by (with_reducible repeat (first | apply rN_ | apply rD_)); exact rM_ HO1159.out (fun _ hk => ⟨hk.1.2, hk.2⟩)⟩, ⟨bR_ BK1142.out⟩, ⟨hB_⟩⟩
         replace c71 := bE_.mpr c71; subst c71; have H1 : (snowlinelaw04_DiffsLattice.j2 kj38 l1 l2 t1148 t1156 t1153 t1157 t1160 true) = some r := by rw [if_neg (show ¬ (false = true) by decide)] at H; exact H
         clear H; have H := H1; clear H1; have H' := Z_ H; clear H; obtain ⟨⟨hcz75_0, hcz75_1⟩, hfz75_0, hfz75_1⟩ := f2_ BK1142.out; obtain ⟨Ao76, co76, eo76⟩ := rS_ HO1155.out; subst eo76; go_wp2_with (first | (go_at_call 48; (with_reducible refine (snowlinelaw04_fulfils.calls kj38 a0_0 _ _ l0_1 _ _ t1153 false _ ?side1 ?side2 ?side3 ?side4 A70.out).mono ?_); (case side1 => exact cS_ (cB_ HR0_1.out HB.out)); (case side2 => exact HC0_1.out); (case side3 => repeat (first | exact (rR_ HO1155.out).2.2 | (with_reducible refine Kd.C_alloc ?_ _) | (with_reducible refine Kd.C_drewN ?_ _) | (with_reducible refine Kd.C_drew ?_))); (case side4 => exact (rR_ HO1155.out).2.1); rintro e w77 ⟨rfl, hb⟩; replace HO_7 := Z_ (rB_ (rK_ HO_7.out) hb); replace HO1155 := Z_ (rB_ (rK_ HO1155.out) hb); replace HO1159 := Z_ (rB_ (rK_ HO1159.out) hb); replace BK1142 := Z_ (bB_ (g := gb1142) (o := .cells #[.int .i64 a0_0, .slice A0_1 l0_1.length c0_1] 24 (0, 0)) (bR_ BK1142.out) hb); replace HB := Z_ (fS_ hB_ hb); (try clear hb); (try clear hb2); (try clear hk); (try clear hi))); repeat (go_quiet (first | (go_at_call 48; (with_reducible refine (snowlinelaw04_fulfils.calls kj38 a0_0 _ _ l0_1 _ _ t1153 false _ ?side1 ?side2 ?side3 ?side4 A70.out).mono ?_); (case side1 => exact cS_ (cB_ HR0_1.out HB.out)); (case side2 => exact HC0_1.out); (case side3 => repeat (first | exact (rR_ HO1155.out).2.2 | (with_reducible refine Kd.C_alloc ?_ _) | (with_reducible refine Kd.C_drewN ?_ _) | (with_reducible refine Kd.C_drew ?_))); (case side4 => exact (rR_ HO1155.out).2.1); rintro e w77 ⟨rfl, hb⟩; replace HO_7 := Z_ (rB_ (rK_ HO_7.out) hb); replace HO1155 := Z_ (rB_ (rK_ HO1155.out) hb); replace HO1159 := Z_ (rB_ (rK_ HO1159.out) hb); replace BK1142 := Z_ (bB_ (g := gb1142) (o := .cells #[.int .i64 a0_0, .slice A0_1 l0_1.length c0_1] 24 (0, 0)) (bR_ BK1142.out) hb); replace HB := Z_ (fS_ hB_ hb); (try clear hb); (try clear hb2); (try clear hk); (try clear hi))); try go_wp2_with (first | (go_at_call 48; (with_reducible refine (snowlinelaw04_fulfils.calls kj38 a0_0 _ _ l0_1 _ _ t1153 false _ ?side1 ?side2 ?side3 ?side4 A70.out).mono ?_); (case side1 => exact cS_ (cB_ HR0_1.out HB.out)); (case side2 => exact HC0_1.out); (case side3 => repeat (first | exact (rR_ HO1155.out).2.2 | (with_reducible refine Kd.C_alloc ?_ _) | (with_reducible refine Kd.C_drewN ?_ _) | (with_reducible refine Kd.C_drew ?_))); (case side4 => exact (rR_ HO1155.out).2.1); rintro e w77 ⟨rfl, hb⟩; replace HO_7 := Z_ (rB_ (rK_ HO_7.out) hb); replace HO1155 := Z_ (rB_ (rK_ HO1155.out) hb); replace HO1159 := Z_ (rB_ (rK_ HO1159.out) hb); replace BK1142 := Z_ (bB_ (g := gb1142) (o := .cells #[.int .i64 a0_0, .slice A0_1 l0_1.length c0_1] 24 (0, 0)) (bR_ BK1142.out) hb); replace HB := Z_ (fS_ hB_ hb); (try clear hb); (try clear hb2); (try clear hk); (try clear hi))))
         go_meet
         case rel => exact ⟨_, (true), rf_, H', ⟨by have := HJ8.out; have := HJ38.out; first | omega | exact nR_ _⟩, ⟨by (with_reducible repeat (first | apply rN_ | apply rD_)); exact rM_ HO_7.out (fun _ hk => ⟨hk.1.2, hk.2⟩)⟩, ⟨by (with_reducible repeat (first | apply rN_ | apply rD_)); exact rM_ HO1155.out (fun _ hk => ⟨hk.1.2, hk.2⟩)⟩, ⟨by (with_reducible repeat (first | apply rN_ | apply rD_)); exact rM_ HO1159.out (fun _ hk => ⟨hk.1.2, hk.2⟩)⟩, ⟨bR_ BK1142.out⟩, ⟨hB_⟩⟩
        rw [if_neg c69] at H; obtain ⟨c69b0, c69b1⟩ := bn_ c69; have H' := Z_ H; clear H; go_wp2; repeat (go_quiet (fail); try go_wp2)
        go_meet
        case rel => exact ⟨_, (true), rf_, H', ⟨by have := HJ8.out; have := HJ38.out; first | omega | exact nR_ _⟩, ⟨by (with_reducible repeat (first | apply rN_ | apply rD_)); exact rM_ HO_7.out (fun _ hk => ⟨hk.1.2, hk.2⟩)⟩, ⟨by (with_reducible repeat (first | apply rN_ | apply rD_)); exact rM_ HO1155.out (fun _ hk => ⟨hk.1.2, hk.2⟩)⟩, ⟨by (with_reducible repeat (first | apply rN_ | apply rD_)); exact rM_ HO1159.out (fun _ hk => ⟨hk.1.2, hk.2⟩)⟩, ⟨bR_ BK1142.out⟩, ⟨hB_⟩⟩
       rw [if_neg c55] at H; obtain ⟨c55b0, c55b1⟩ := bn_ c55; (first | rw [c55b0] | (simp only [i64_w, i32_w]; rw [c55b0]) | skip)
       by_cases c78 : t1156 = 42
       ·rw [if_pos c78] at H
        obtain ⟨c78b0, c78b1⟩ := be_ c78; clear c78; by_cases c79 : t1160 = 0
        ·rw [if_pos c79] at H
         obtain ⟨c79b0, c79b1⟩ := be_ c79; clear c79; replace H := oS_.mp H; obtain ⟨t1164, A800, H⟩ := H; have A80 := Z_ A800; clear A800; have H' := Z_ H; clear H; obtain ⟨⟨hcz81_0, hcz81_1⟩, hfz81_0, hfz81_1⟩ := f2_ BK1142.out; obtain ⟨Ao82, co82, eo82⟩ := rS_ HO1159.out; subst eo82; go_wp2_with (first | (go_at_call 48; (with_reducible refine (snowlinelaw04_fulfils.calls kj38 a0_0 _ _ l0_1 _ _ t1157 t1164 _ ?side1 ?side2 ?side3 ?side4 A80.out).mono ?_); (case side1 => exact cS_ (cB_ HR0_1.out HB.out)); (case side2 => exact HC0_1.out); (case side3 => repeat (first | exact (rR_ HO1159.out).2.2 | (with_reducible refine Kd.C_alloc ?_ _) | (with_reducible refine Kd.C_drewN ?_ _) | (with_reducible refine Kd.C_drew ?_))); (case side4 => exact (rR_ HO1159.out).2.1); rintro e w83 ⟨rfl, hb⟩; replace HO_7 := Z_ (rB_ (rK_ HO_7.out) hb); replace HO1155 := Z_ (rB_ (rK_ HO1155.out) hb); replace HO1159 := Z_ (rB_ (rK_ HO1159.out) hb); replace BK1142 := Z_ (bB_ (g := gb1142) (o := .cells #[.int .i64 a0_0, .slice A0_1 l0_1.length c0_1] 24 (0, 0)) (bR_ BK1142.out) hb); replace HB := Z_ (fS_ hB_ hb); (try clear hb); (try clear hb2); (try clear hk); (try clear hi))); repeat (go_quiet (first | (go_at_call 48; (with_reducible refine (snowlinelaw04_fulfils.calls kj38 a0_0 _ _ l0_1 _ _ t1157 t1164 _ ?side1 ?side2 ?side3 ?side4 A80.out).mono ?_); (case side1 => exact cS_ (cB_ HR0_1.out HB.out)); (case side2 => exact HC0_1.out); (case side3 => repeat (first | exact (rR_ HO1159.out).2.2 | (with_reducible refine Kd.C_alloc ?_ _) | (with_reducible refine Kd.C_drewN ?_ _) | (with_reducible refine Kd.C_drew ?_))); (case side4 => exact (rR_ HO1159.out).2.1); rintro e w83 ⟨rfl, hb⟩; replace HO_7 := Z_ (rB_ (rK_ HO_7.out) hb); replace HO1155 := Z_ (rB_ (rK_ HO1155.out) hb); replace HO1159 := Z_ (rB_ (rK_ HO1159.out) hb); replace BK1142 := Z_ (bB_ (g := gb1142) (o := .cells #[.int .i64 a0_0, .slice A0_1 l0_1.length c0_1] 24 (0, 0)) (bR_ BK1142.out) hb); replace HB := Z_ (fS_ hB_ hb); (try clear hb); (try clear hb2); (try clear hk); (try clear hi))); try go_wp2_with (first | (go_at_call 48; (with_reducible refine (snowlinelaw04_fulfils.calls kj38 a0_0 _ _ l0_1 _ _ t1157 t1164 _ ?side1 ?side2 ?side3 ?side4 A80.out).mono ?_); (case side1 => exact cS_ (cB_ HR0_1.out HB.out)); (case side2 => exact HC0_1.out); (case side3 => repeat (first | exact (rR_ HO1159.out).2.2 | (with_reducible refine Kd.C_alloc ?_ _) | (with_reducible refine Kd.C_drewN ?_ _) | (with_reducible refine Kd.C_drew ?_))); (case side4 => exact (rR_ HO1159.out).2.1); rintro e w83 ⟨rfl, hb⟩; replace HO_7 := Z_ (rB_ (rK_ HO_7.out) hb); replace HO1155 := Z_ (rB_ (rK_ HO1155.out) hb); replace HO1159 := Z_ (rB_ (rK_ HO1159.out) hb); replace BK1142 := Z_ (bB_ (g := gb1142) (o := .cells #[.int .i64 a0_0, .slice A0_1 l0_1.length c0_1] 24 (0, 0)) (bR_ BK1142.out) hb); replace HB := Z_ (fS_ hB_ hb); (try clear hb); (try clear hb2); (try clear hk); (try clear hi))))
         go_meet
         case rel => exact ⟨_, (!t1164), rf_, H', ⟨by have := HJ8.out; have := HJ38.out; first | omega | exact nR_ _⟩, ⟨by (with_reducible repeat (first | apply rN_ | apply rD_)); exact rM_ HO_7.out (fun _ hk => ⟨hk.1.2, hk.2⟩)⟩, ⟨by (with_reducible repeat (first | apply rN_ | apply rD_)); exact rM_ HO1155.out (fun _ hk => ⟨hk.1.2, hk.2⟩)⟩, ⟨by (with_reducible repeat (first | apply rN_ | apply rD_)); exact rM_ HO1159.out (fun _ hk => ⟨hk.1.2, hk.2⟩)⟩, ⟨bR_ BK1142.out⟩, ⟨hB_⟩⟩
        rw [if_neg c79] at H; obtain ⟨c79b0, c79b1⟩ := bn_ c79; by_cases c84 : t1160 = 42
        ·rw [if_pos c84] at H
         obtain ⟨c84b0, c84b1⟩ := be_ c84; clear c84; have H' := Z_ H; clear H; go_wp2; repeat (go_quiet (fail); try go_wp2)
         go_meet
         case rel => exact ⟨_, (false), rf_, H', ⟨by have := HJ8.out; have := HJ38.out; first | omega | exact nR_ _⟩, ⟨by (with_reducible repeat (first | apply rN_ | apply rD_)); exact rM_ HO_7.out (fun _ hk => ⟨hk.1.2, hk.2⟩)⟩, ⟨by (with_reducible repeat (first | apply rN_ | apply rD_)); exact rM_ HO1155.out (fun _ hk => ⟨hk.1.2, hk.2⟩)⟩, ⟨by (with_reducible repeat (first | apply rN_ | apply rD_)); exact rM_ HO1159.out (fun _ hk => ⟨hk.1.2, hk.2⟩)⟩, ⟨bR_ BK1142.out⟩, ⟨hB_⟩⟩
        rw [if_neg c84] at H; obtain ⟨c84b0, c84b1⟩ := bn_ c84; have H' := Z_ H; clear H; go_wp2; repeat (go_quiet (fail); try go_wp2)
        go_meet
        case rel => exact ⟨_, (true), rf_, H', ⟨by have := HJ8.out; have := HJ38.out; first | omega | exact nR_ _⟩, ⟨by (with_reducible repeat (first | apply rN_ | apply rD_)); exact rM_ HO_7.out (fun _ hk => ⟨hk.1.2, hk.2⟩)⟩, ⟨by (with_reducible repeat (first | apply rN_ | apply rD_)); exact rM_ HO1155.out (fun _ hk => ⟨hk.1.2, hk.2⟩)⟩, ⟨by (with_reducible repeat (first | apply rN_ | apply rD_)); exact rM_ HO1159.out (fun _ hk => ⟨hk.1.2, hk.2⟩)⟩, ⟨bR_ BK1142.out⟩, ⟨hB_⟩⟩
       rw [if_neg c78] at H; obtain ⟨c78b0, c78b1⟩ := bn_ c78; have H' := Z_ H; clear H; go_wp2; repeat (go_quiet (fail); try go_wp2)
       go_meet
       case rel => exact ⟨_, (true), rf_, H', ⟨by have := HJ8.out; have := HJ38.out; first | omega | exact nR_ _⟩, ⟨by (with_reducible repeat (first | apply rN_ | apply rD_)); exact rM_ HO_7.out (fun _ hk => ⟨hk.1.2, hk.2⟩)⟩, ⟨by (with_reducible repeat (first | apply rN_ | apply rD_)); exact rM_ HO1155.out (fun _ hk => ⟨hk.1.2, hk.2⟩)⟩, ⟨by (with_reducible repeat (first | apply rN_ | apply rD_)); exact rM_ HO1159.out (fun _ hk => ⟨hk.1.2, hk.2⟩)⟩, ⟨bR_ BK1142.out⟩, ⟨hB_⟩⟩
      case rest =>
       clear HC50; (try clear c1); (try clear c2); (try clear p2); (try clear c3); (try clear c4); (try clear c5); (try clear c6); (try clear c7); (try clear c8); (try clear c11); (try clear c11b0); (try clear c11b1); (try clear c13); (try clear c15); (try clear c37); (try clear c42); (try clear c42b0); (try clear c42b1); (try clear c47); (try clear c55); (try clear c55b0); (try clear c55b1); (try clear c56); (try clear c56b0); (try clear c56b1); (try clear c58); (try clear c69); (try clear c69b0); (try clear c69b1); (try clear c71); (try clear c78); (try clear c78b0); (try clear c78b1); (try clear c79); (try clear c79b0); (try clear c79b1); (try clear c84); (try clear c84b0); (try clear c84b1); (try clear hcz17_0); (try clear hcz17_1); (try clear hcz19_0); (try clear hcz19_1); (try clear hcz21_0); (try clear hcz21_1); (try clear hcz23_0); (try clear hcz23_1); (try clear hcz25_0); (try clear hcz25_1); (try clear hcz27_0); (try clear hcz27_1); (try clear hcz29_0); (try clear hcz29_1); (try clear hcz31_0); (try clear hcz31_1); (try clear hcz33_0); (try clear hcz33_1); (try clear hcz35_0); (try clear hcz35_1); (try clear hcz40_0); (try clear hcz40_1); (try clear hcz44_0); (try clear hcz44_1); (try clear hcz51_0); (try clear hcz51_1); (try clear hcz53_0); (try clear hcz53_1); (try clear hcz60_0); (try clear hcz60_1); (try clear hcz63_0); (try clear hcz63_1); (try clear hcz66_0); (try clear hcz66_1); (try clear hcz72_0); (try clear hcz72_1); (try clear hcz75_0); (try clear hcz75_1); (try clear hcz81_0); (try clear hcz81_1); (try clear hfz17_0); (try clear hfz17_1); (try clear hfz19_0); (try clear hfz19_1); (try clear hfz21_0); (try clear hfz21_1); (try clear hfz23_0); (try clear hfz23_1); (try clear hfz25_0); (try clear hfz25_1); (try clear hfz27_0); (try clear hfz27_1); (try clear hfz29_0); (try clear hfz29_1); (try clear hfz31_0); (try clear hfz31_1); (try clear hfz33_0); (try clear hfz33_1); (try clear hfz35_0); (try clear hfz35_1); (try clear hfz40_0); (try clear hfz40_1); (try clear hfz44_0); (try clear hfz44_1); (try clear hfz51_0); (try clear hfz51_1); (try clear hfz53_0); (try clear hfz53_1); (try clear hfz60_0); (try clear hfz60_1); (try clear hfz63_0); (try clear hfz63_1); (try clear hfz66_0); (try clear hfz66_1); (try clear hfz72_0); (try clear hfz72_1); (try clear hfz75_0); (try clear hfz75_1); (try clear hfz81_0); (try clear hfz81_1); (try clear p2)
       obtain ⟨kq, x93_49, rfl, HA, HJ49, HO_7, HO_9, HO_10, BK1142, HB⟩ := hcut
       cases kq with
       | zero => exact absurd HA.out (by simp [snowlinelaw04_DiffsLattice.j2])
       | succ kj49 =>
        have H := HA.out; clear HA; simp only [snowlinelaw04_DiffsLattice.j2] at H; by_cases c85 : x93_49 = true
        ·subst c85
         rw [if_pos rfl] at H; obtain rfl := oI_ H; go_wp2; repeat (go_quiet (fail); try go_wp2)
         go_ret; exact ⟨eW_, hB_⟩
        replace c85 := bE_.mpr c85; subst c85; have H1 : (snowlinelaw04_DiffsLattice.l0 kj49 l1 l2 t1148 t1156 t1153 t1157 t1160 (l1.length : Int) 0) = some r := by rw [if_neg (show ¬ (false = true) by decide)] at H; exact H
        clear H; have H := H1; clear H1; have H' := Z_ H; clear H; go_wp2; repeat (go_quiet (fail); try go_wp2)
        go_loopg [96] kj49 (fun kq v96 w' => ∃ (x96_4 : Int), v96 = .int .i64 x96_4 ∧ Aside0 (snowlinelaw04_DiffsLattice.l0 kq l1 l2 t1148 t1156 t1153 t1157 t1160 (l1.length : Int) x96_4 = some r) ∧ Aside0 (kq ≤ kj49) ∧ Aside0 (Kd.R (Kd.int .i64) 3 w' w.heap.size (fun k_ => some k_ ≠ (v1154 : Value).ownBlock ∧ some k_ ≠ (v1158 : Value).ownBlock) v1149 t1148) ∧ Aside0 (Kd.R (Kd.int .i64) 3 w' w.heap.size (fun k_ => some k_ ≠ (v1149 : Value).ownBlock ∧ some k_ ≠ (v1158 : Value).ownBlock) v1154 t1153) ∧ Aside0 (Kd.R (Kd.int .i64) 3 w' w.heap.size (fun k_ => some k_ ≠ (v1149 : Value).ownBlock ∧ some k_ ≠ (v1154 : Value).ownBlock) v1158 t1157) ∧ Aside0 (w'.heap[gb1142]? = some (.cells #[.int .i64 a0_0, (.slice A0_1 l0_1.length c0_1)] 24 (0, 0))) ∧ Aside0 (Below w.heap.size w w'))
        case atStart => exact ⟨(0), rf_, H', ⟨nR_ _⟩, ⟨rK_ HO_7.out⟩, ⟨rK_ HO_9.out⟩, ⟨rK_ HO_10.out⟩, ⟨bR_ BK1142.out⟩, ⟨hB_⟩⟩
        case round =>
         clear H'; (try clear c1); (try clear c2); (try clear p2); (try clear c3); (try clear c4); (try clear c5); (try clear c6); (try clear c7); (try clear c8); (try clear c11); (try clear c11b0); (try clear c11b1); (try clear c13); (try clear c15); (try clear c37); (try clear c42); (try clear c42b0); (try clear c42b1); (try clear c47); (try clear c55); (try clear c55b0); (try clear c55b1); (try clear c56); (try clear c56b0); (try clear c56b1); (try clear c58); (try clear c69); (try clear c69b0); (try clear c69b1); (try clear c71); (try clear c78); (try clear c78b0); (try clear c78b1); (try clear c79); (try clear c79b0); (try clear c79b1); (try clear c84); (try clear c84b0); (try clear c84b1); (try clear c85); (try clear hcz17_0); (try clear hcz17_1); (try clear hcz19_0); (try clear hcz19_1); (try clear hcz21_0); (try clear hcz21_1); (try clear hcz23_0); (try clear hcz23_1); (try clear hcz25_0); (try clear hcz25_1); (try clear hcz27_0); (try clear hcz27_1); (try clear hcz29_0); (try clear hcz29_1); (try clear hcz31_0); (try clear hcz31_1); (try clear hcz33_0); (try clear hcz33_1); (try clear hcz35_0); (try clear hcz35_1); (try clear hcz40_0); (try clear hcz40_1); (try clear hcz44_0); (try clear hcz44_1); (try clear hcz51_0); (try clear hcz51_1); (try clear hcz53_0); (try clear hcz53_1); (try clear hcz60_0); (try clear hcz60_1); (try clear hcz63_0); (try clear hcz63_1); (try clear hcz66_0); (try clear hcz66_1); (try clear hcz72_0); (try clear hcz72_1); (try clear hcz75_0); (try clear hcz75_1); (try clear hcz81_0); (try clear hcz81_1); (try clear hfz17_0); (try clear hfz17_1); (try clear hfz19_0); (try clear hfz19_1); (try clear hfz21_0); (try clear hfz21_1); (try clear hfz23_0); (try clear hfz23_1); (try clear hfz25_0); (try clear hfz25_1); (try clear hfz27_0); (try clear hfz27_1); (try clear hfz29_0); (try clear hfz29_1); (try clear hfz31_0); (try clear hfz31_1); (try clear hfz33_0); (try clear hfz33_1); (try clear hfz35_0); (try clear hfz35_1); (try clear hfz40_0); (try clear hfz40_1); (try clear hfz44_0); (try clear hfz44_1); (try clear hfz51_0); (try clear hfz51_1); (try clear hfz53_0); (try clear hfz53_1); (try clear hfz60_0); (try clear hfz60_1); (try clear hfz63_0); (try clear hfz63_1); (try clear hfz66_0); (try clear hfz66_1); (try clear hfz72_0); (try clear hfz72_1); (try clear hfz75_0); (try clear hfz75_1); (try clear hfz81_0); (try clear hfz81_1); (try clear p2)
         obtain ⟨x96_4, rfl, HA, HK4, HO_7, HO_9, HO_10, BK1142, HB⟩ := hrel
         cases gk with
         | zero => exact absurd HA.out (by simp [snowlinelaw04_DiffsLattice.l0])
         | succ k4 =>
          have H := HA.out; clear HA; simp only [snowlinelaw04_DiffsLattice.l0] at H; by_cases c86 : x96_4 < (l1.length : Int)
          ·rw [if_pos c86] at H
           have c86b0 : decide (x96_4 < (l1.length : Int)) = true := eT_ c86; clear c86; have HC87 := Z_ H; clear H; go_upto_region 15 with (fail); repeat (go_quiet (fail); go_upto_region 15 with (fail))
           go_cut [142] (fun v142 wc => ∃ (kq : Nat) (x142_86 : Bool), v142 = .bool x142_86 ∧ Aside0 (snowlinelaw04_DiffsLattice.j4 kq l1 l2 t1148 t1156 t1153 t1157 t1160 (l1.length : Int) x96_4 x142_86 = some r) ∧ Aside0 (kq ≤ k4) ∧ Aside0 (Kd.R (Kd.int .i64) 3 wc w.heap.size (fun k_ => some k_ ≠ (v1154 : Value).ownBlock ∧ some k_ ≠ (v1158 : Value).ownBlock) v1149 t1148) ∧ Aside0 (Kd.R (Kd.int .i64) 3 wc w.heap.size (fun k_ => some k_ ≠ (v1149 : Value).ownBlock ∧ some k_ ≠ (v1158 : Value).ownBlock) v1154 t1153) ∧ Aside0 (Kd.R (Kd.int .i64) 3 wc w.heap.size (fun k_ => some k_ ≠ (v1149 : Value).ownBlock ∧ some k_ ≠ (v1154 : Value).ownBlock) v1158 t1157) ∧ Aside0 (wc.heap[gb1142]? = some (.cells #[.int .i64 a0_0, (.slice A0_1 l0_1.length c0_1)] 24 (0, 0))) ∧ Aside0 (Below w.heap.size w wc))
           case first =>
            have H := HC87.out; clear HC87; by_cases c88 : 0 ≤ x96_4
            ·rw [if_pos c88] at H
             have c88b0 : decide (0 ≤ x96_4) = true := eT_ c88; clear c88; (first | rw [c88b0] | (simp only [i64_w, i32_w]; rw [c88b0]) | skip)
             by_cases c89 : x96_4 < (t1148.length : Int)
             ·rw [if_pos c89] at H
              have c89b0 : decide (x96_4 < (t1148.length : Int)) = true := eT_ c89; clear c89; by_cases c90 : x96_4 < (l1.length : Int)
              ·rw [if_pos c90] at H
               have c90b0 : decide (x96_4 < (l1.length : Int)) = true := eT_ c90; clear c90; by_cases c91 : x96_4 < (l2.length : Int)
               ·rw [if_pos c91] at H
                have c91b0 : decide (x96_4 < (l2.length : Int)) = true := eT_ c91; clear c91; obtain ⟨ji92, hji92⟩ : ∃ j_ : Int, (mx (rd l1 x96_4) (rd l2 x96_4)) = j_ := ⟨_, rfl⟩; replace H : (if (rd t1148 x96_4) = (ji92) then (if t1156 = 0 then (if x96_4 < (t1153.length : Int) then (if (rd t1148 x96_4) > (rd t1153 x96_4) then (snowlinelaw04_DiffsLattice.j4 k4 l1 l2 t1148 t1156 t1153 t1157 t1160 (l1.length : Int) x96_4 true) else (if t1160 = 0 then (if x96_4 < (t1157.length : Int) then (snowlinelaw04_DiffsLattice.j4 k4 l1 l2 t1148 t1156 t1153 t1157 t1160 (l1.length : Int) x96_4 (decide ((rd l1 x96_4) < (rd t1157 x96_4)))) else (none)) else (snowlinelaw04_DiffsLattice.j4 k4 l1 l2 t1148 t1156 t1153 t1157 t1160 (l1.length : Int) x96_4 false))) else (none)) else (if t1160 = 0 then (if x96_4 < (t1157.length : Int) then (snowlinelaw04_DiffsLattice.j4 k4 l1 l2 t1148 t1156 t1153 t1157 t1160 (l1.length : Int) x96_4 (decide ((rd l1 x96_4) < (rd t1157 x96_4)))) else (none)) else (snowlinelaw04_DiffsLattice.j4 k4 l1 l2 t1148 t1156 t1153 t1157 t1160 (l1.length : Int) x96_4 false))) else (snowlinelaw04_DiffsLattice.j4 k4 l1 l2 t1148 t1156 t1153 t1157 t1160 (l1.length : Int) x96_4 true)) = some r := by first | (rw [hji92] at H; exact H) | (simp only [hji92] at H ⊢; exact H)
                have hji92_ : (if (rd l1 x96_4) < (rd l2 x96_4) then (rd l2 x96_4) else (rd l1 x96_4)) = ji92 := hji92; by_cases c93 : (rd t1148 x96_4) = (ji92)
                ·rw [if_pos c93] at H
                 obtain ⟨c93b0, c93b1⟩ := be_ c93; clear c93; by_cases c94 : t1156 = 0
                 ·rw [if_pos c94] at H
                  obtain ⟨c94b0, c94b1⟩ := be_ c94; clear c94; by_cases c95 : x96_4 < (t1153.length : Int)
                  ·rw [if_pos c95] at H
                   have c95b0 : decide (x96_4 < (t1153.length : Int)) = true := eT_ c95; clear c95; by_cases c96 : (rd t1148 x96_4) > (rd t1153 x96_4)
                   ·rw [if_pos c96] at H
                    have c96b0 : decide ((rd t1153 x96_4) < (rd t1148 x96_4)) = true := eT_ c96; clear c96; have H' := Z_ H; clear H; obtain ⟨Ao97, co97, eo97⟩ := rS_ HO_7.out; subst eo97; have p1165 : 0 ≤ (x96_4 : Int) := dT_ as_; have q1165 : x96_4 < (t1148.length : Int) := dT_ as_; obtain ⟨ad1165, e1165, hx1165_0⟩ := Kd.at_int (rR_ HO_7.out).2.2 x96_4 p1165 q1165; cases e1165
                    replace p1165 := eq_true p1165; replace q1165 := eq_true q1165; have p1166 : 0 ≤ (x96_4 : Int) := dT_ as_; have q1166 : x96_4 < (l1.length : Int) := dT_ as_; obtain ⟨ad1166, e1166, hx1166_0⟩ := Kd.at_int HR1.out x96_4 p1166 q1166; cases e1166
                    replace hx1166_0 := (HB.out.cell (World.block_lt_of_cell? w _ hx1166_0)).trans hx1166_0; replace p1166 := eq_true p1166; replace q1166 := eq_true q1166; have p1167 : 0 ≤ (x96_4 : Int) := dT_ as_; have q1167 : x96_4 < (l2.length : Int) := dT_ as_; obtain ⟨ad1167, e1167, hx1167_0⟩ := Kd.at_int HR2.out x96_4 p1167 q1167; cases e1167
                    replace hx1167_0 := (HB.out.cell (World.block_lt_of_cell? w _ hx1167_0)).trans hx1167_0; replace p1167 := eq_true p1167; replace q1167 := eq_true q1167; have p1168 : 0 ≤ (x96_4 : Int) := dT_ as_; have q1168 : x96_4 < (t1148.length : Int) := dT_ as_; obtain ⟨ad1168, e1168, hx1168_0⟩ := Kd.at_int (rR_ HO_7.out).2.2 x96_4 p1168 q1168; obtain rfl : ad1165 = ad1168 := (by injection e1168); replace p1168 := eq_true p1168; replace q1168 := eq_true q1168; obtain ⟨Ao98, co98, eo98⟩ := rS_ HO_9.out; subst eo98; have p1169 : 0 ≤ (x96_4 : Int) := dT_ as_; have q1169 : x96_4 < (t1153.length : Int) := dT_ as_; obtain ⟨ad1169, e1169, hx1169_0⟩ := Kd.at_int (rR_ HO_9.out).2.2 x96_4 p1169 q1169; cases e1169
                    replace p1169 := eq_true p1169; replace q1169 := eq_true q1169; go_wp2; repeat (go_quiet (fail); try go_wp2)
                    go_meet
                    case rel => exact ⟨_, (true), rf_, H', ⟨by have := HJ8.out; have := HJ38.out; have := HJ49.out; have := HK4.out; first | omega | exact nR_ _⟩, ⟨rK_ HO_7.out⟩, ⟨rK_ HO_9.out⟩, ⟨rK_ HO_10.out⟩, ⟨bR_ BK1142.out⟩, ⟨hB_⟩⟩
                   rw [if_neg c96] at H; have c96b0 : decide ((rd t1153 x96_4) < (rd t1148 x96_4)) = false := eF_ c96; clear c96; by_cases c99 : t1160 = 0
                   ·rw [if_pos c99] at H
                    obtain ⟨c99b0, c99b1⟩ := be_ c99; clear c99; by_cases c100 : x96_4 < (t1157.length : Int)
                    ·rw [if_pos c100] at H
                     have c100b0 : decide (x96_4 < (t1157.length : Int)) = true := eT_ c100; clear c100; have H' := Z_ H; clear H; obtain ⟨Ao101, co101, eo101⟩ := rS_ HO_7.out; subst eo101; have p1165 : 0 ≤ (x96_4 : Int) := dT_ as_; have q1165 : x96_4 < (t1148.length : Int) := dT_ as_; obtain ⟨ad1165, e1165, hx1165_0⟩ := Kd.at_int (rR_ HO_7.out).2.2 x96_4 p1165 q1165; cases e1165
                     replace p1165 := eq_true p1165; replace q1165 := eq_true q1165; have p1166 : 0 ≤ (x96_4 : Int) := dT_ as_; have q1166 : x96_4 < (l1.length : Int) := dT_ as_; obtain ⟨ad1166, e1166, hx1166_0⟩ := Kd.at_int HR1.out x96_4 p1166 q1166; cases e1166
                     replace hx1166_0 := (HB.out.cell (World.block_lt_of_cell? w _ hx1166_0)).trans hx1166_0; replace p1166 := eq_true p1166; replace q1166 := eq_true q1166; have p1167 : 0 ≤ (x96_4 : Int) := dT_ as_; have q1167 : x96_4 < (l2.length : Int) := dT_ as_; obtain ⟨ad1167, e1167, hx1167_0⟩ := Kd.at_int HR2.out x96_4 p1167 q1167; cases e1167
                     replace hx1167_0 := (HB.out.cell (World.block_lt_of_cell? w _ hx1167_0)).trans hx1167_0; replace p1167 := eq_true p1167; replace q1167 := eq_true q1167; have p1168 : 0 ≤ (x96_4 : Int) := dT_ as_; have q1168 : x96_4 < (t1148.length : Int) := dT_ as_; obtain ⟨ad1168, e1168, hx1168_0⟩ := Kd.at_int (rR_ HO_7.out).2.2 x96_4 p1168 q1168; obtain rfl : ad1165 = ad1168 := (by injection e1168); replace p1168 := eq_true p1168; replace q1168 := eq_true q1168; obtain ⟨Ao102, co102, eo102⟩ := rS_ HO_9.out; subst eo102; have p1169 : 0 ≤ (x96_4 : Int) := dT_ as_; have q1169 : x96_4 < (t1153.length : Int) := dT_ as_; obtain ⟨ad1169, e1169, hx1169_0⟩ := Kd.at_int (rR_ HO_9.out).2.2 x96_4 p1169 q1169; cases e1169
                     replace p1169 := eq_true p1169; replace q1169 := eq_true q1169; have p1170 : 0 ≤ (x96_4 : Int) := dT_ as_; have q1170 : x96_4 < (l1.length : Int) := dT_ as_; obtain ⟨ad1170, e1170, hx1170_0⟩ := Kd.at_int HR1.out x96_4 p1170 q1170; obtain rfl : ad1166 = ad1170 := (by injection e1170); replace hx1170_0 := (HB.out.cell (World.block_lt_of_cell? w _ hx1170_0)).trans hx1170_0; replace p1170 := eq_true p1170; replace q1170 := eq_true q1170; obtain ⟨Ao103, co103, eo103⟩ := rS_ HO_10.out; subst eo103; have p1171 : 0 ≤ (x96_4 : Int) := dT_ as_; have q1171 : x96_4 < (t1157.length : Int) := dT_ as_; obtain ⟨ad1171, e1171, hx1171_0⟩ := Kd.at_int (rR_ HO_10.out).2.2 x96_4 p1171 q1171; cases e1171
                     replace p1171 := eq_true p1171; replace q1171 := eq_true q1171; go_wp2; repeat (go_quiet (fail); try go_wp2)
                     go_meet
                     case rel => exact ⟨_, (decide ((rd l1 x96_4) < (rd t1157 x96_4))), rf_, H', ⟨by have := HJ8.out; have := HJ38.out; have := HJ49.out; have := HK4.out; first | omega | exact nR_ _⟩, ⟨rK_ HO_7.out⟩, ⟨rK_ HO_9.out⟩, ⟨rK_ HO_10.out⟩, ⟨bR_ BK1142.out⟩, ⟨hB_⟩⟩
                    rw [if_neg c100] at H; exact absurd H (by simp)
                   rw [if_neg c99] at H; obtain ⟨c99b0, c99b1⟩ := bn_ c99; have H' := Z_ H; clear H; obtain ⟨Ao104, co104, eo104⟩ := rS_ HO_7.out; subst eo104; have p1165 : 0 ≤ (x96_4 : Int) := dT_ as_; have q1165 : x96_4 < (t1148.length : Int) := dT_ as_; obtain ⟨ad1165, e1165, hx1165_0⟩ := Kd.at_int (rR_ HO_7.out).2.2 x96_4 p1165 q1165; cases e1165
                   replace p1165 := eq_true p1165; replace q1165 := eq_true q1165; have p1166 : 0 ≤ (x96_4 : Int) := dT_ as_; have q1166 : x96_4 < (l1.length : Int) := dT_ as_; obtain ⟨ad1166, e1166, hx1166_0⟩ := Kd.at_int HR1.out x96_4 p1166 q1166; cases e1166
                   replace hx1166_0 := (HB.out.cell (World.block_lt_of_cell? w _ hx1166_0)).trans hx1166_0; replace p1166 := eq_true p1166; replace q1166 := eq_true q1166; have p1167 : 0 ≤ (x96_4 : Int) := dT_ as_; have q1167 : x96_4 < (l2.length : Int) := dT_ as_; obtain ⟨ad1167, e1167, hx1167_0⟩ := Kd.at_int HR2.out x96_4 p1167 q1167; cases e1167
                   replace hx1167_0 := (HB.out.cell (World.block_lt_of_cell? w _ hx1167_0)).trans hx1167_0; replace p1167 := eq_true p1167; replace q1167 := eq_true q1167; have p1168 : 0 ≤ (x96_4 : Int) := dT_ as_; have q1168 : x96_4 < (t1148.length : Int) := dT_ as_; obtain ⟨ad1168, e1168, hx1168_0⟩ := Kd.at_int (rR_ HO_7.out).2.2 x96_4 p1168 q1168; obtain rfl : ad1165 = ad1168 := (by injection e1168); replace p1168 := eq_true p1168; replace q1168 := eq_true q1168; obtain ⟨Ao105, co105, eo105⟩ := rS_ HO_9.out; subst eo105; have p1169 : 0 ≤ (x96_4 : Int) := dT_ as_; have q1169 : x96_4 < (t1153.length : Int) := dT_ as_; obtain ⟨ad1169, e1169, hx1169_0⟩ := Kd.at_int (rR_ HO_9.out).2.2 x96_4 p1169 q1169; cases e1169
                   replace p1169 := eq_true p1169; replace q1169 := eq_true q1169; go_wp2; repeat (go_quiet (fail); try go_wp2)
                   go_meet
                   case rel => exact ⟨_, (false), rf_, H', ⟨by have := HJ8.out; have := HJ38.out; have := HJ49.out; have := HK4.out; first | omega | exact nR_ _⟩, ⟨rK_ HO_7.out⟩, ⟨rK_ HO_9.out⟩, ⟨rK_ HO_10.out⟩, ⟨bR_ BK1142.out⟩, ⟨hB_⟩⟩
                  rw [if_neg c95] at H; exact absurd H (by simp)
                 rw [if_neg c94] at H; obtain ⟨c94b0, c94b1⟩ := bn_ c94; by_cases c106 : t1160 = 0
                 ·rw [if_pos c106] at H
                  obtain ⟨c106b0, c106b1⟩ := be_ c106; clear c106; by_cases c107 : x96_4 < (t1157.length : Int)
                  ·rw [if_pos c107] at H
                   have c107b0 : decide (x96_4 < (t1157.length : Int)) = true := eT_ c107; clear c107; have H' := Z_ H; clear H; obtain ⟨Ao108, co108, eo108⟩ := rS_ HO_7.out; subst eo108; have p1165 : 0 ≤ (x96_4 : Int) := dT_ as_; have q1165 : x96_4 < (t1148.length : Int) := dT_ as_; obtain ⟨ad1165, e1165, hx1165_0⟩ := Kd.at_int (rR_ HO_7.out).2.2 x96_4 p1165 q1165; cases e1165
                   replace p1165 := eq_true p1165; replace q1165 := eq_true q1165; have p1166 : 0 ≤ (x96_4 : Int) := dT_ as_; have q1166 : x96_4 < (l1.length : Int) := dT_ as_; obtain ⟨ad1166, e1166, hx1166_0⟩ := Kd.at_int HR1.out x96_4 p1166 q1166; cases e1166
                   replace hx1166_0 := (HB.out.cell (World.block_lt_of_cell? w _ hx1166_0)).trans hx1166_0; replace p1166 := eq_true p1166; replace q1166 := eq_true q1166; have p1167 : 0 ≤ (x96_4 : Int) := dT_ as_; have q1167 : x96_4 < (l2.length : Int) := dT_ as_; obtain ⟨ad1167, e1167, hx1167_0⟩ := Kd.at_int HR2.out x96_4 p1167 q1167; cases e1167
                   replace hx1167_0 := (HB.out.cell (World.block_lt_of_cell? w _ hx1167_0)).trans hx1167_0; replace p1167 := eq_true p1167; replace q1167 := eq_true q1167; have p1172 : 0 ≤ (x96_4 : Int) := dT_ as_; have q1172 : x96_4 < (l1.length : Int) := dT_ as_; obtain ⟨ad1172, e1172, hx1172_0⟩ := Kd.at_int HR1.out x96_4 p1172 q1172; obtain rfl : ad1166 = ad1172 := (by injection e1172); replace hx1172_0 := (HB.out.cell (World.block_lt_of_cell? w _ hx1172_0)).trans hx1172_0; replace p1172 := eq_true p1172; replace q1172 := eq_true q1172; obtain ⟨Ao109, co109, eo109⟩ := rS_ HO_10.out; subst eo109; have p1173 : 0 ≤ (x96_4 : Int) := dT_ as_; have q1173 : x96_4 < (t1157.length : Int) := dT_ as_; obtain ⟨ad1173, e1173, hx1173_0⟩ := Kd.at_int (rR_ HO_10.out).2.2 x96_4 p1173 q1173; cases e1173
                   replace p1173 := eq_true p1173; replace q1173 := eq_true q1173; go_wp2; repeat (go_quiet (fail); try go_wp2)
                   go_meet
                   case rel => exact ⟨_, (decide ((rd l1 x96_4) < (rd t1157 x96_4))), rf_, H', ⟨by have := HJ8.out; have := HJ38.out; have := HJ49.out; have := HK4.out; first | omega | exact nR_ _⟩, ⟨rK_ HO_7.out⟩, ⟨rK_ HO_9.out⟩, ⟨rK_ HO_10.out⟩, ⟨bR_ BK1142.out⟩, ⟨hB_⟩⟩
                  rw [if_neg c107] at H; exact absurd H (by simp)
                 rw [if_neg c106] at H; obtain ⟨c106b0, c106b1⟩ := bn_ c106; have H' := Z_ H; clear H; obtain ⟨Ao110, co110, eo110⟩ := rS_ HO_7.out; subst eo110; have p1165 : 0 ≤ (x96_4 : Int) := dT_ as_; have q1165 : x96_4 < (t1148.length : Int) := dT_ as_; obtain ⟨ad1165, e1165, hx1165_0⟩ := Kd.at_int (rR_ HO_7.out).2.2 x96_4 p1165 q1165; cases e1165
                 replace p1165 := eq_true p1165; replace q1165 := eq_true q1165; have p1166 : 0 ≤ (x96_4 : Int) := dT_ as_; have q1166 : x96_4 < (l1.length : Int) := dT_ as_; obtain ⟨ad1166, e1166, hx1166_0⟩ := Kd.at_int HR1.out x96_4 p1166 q1166; cases e1166
                 replace hx1166_0 := (HB.out.cell (World.block_lt_of_cell? w _ hx1166_0)).trans hx1166_0; replace p1166 := eq_true p1166; replace q1166 := eq_true q1166; have p1167 : 0 ≤ (x96_4 : Int) := dT_ as_; have q1167 : x96_4 < (l2.length : Int) := dT_ as_; obtain ⟨ad1167, e1167, hx1167_0⟩ := Kd.at_int HR2.out x96_4 p1167 q1167; cases e1167
                 replace hx1167_0 := (HB.out.cell (World.block_lt_of_cell? w _ hx1167_0)).trans hx1167_0; replace p1167 := eq_true p1167; replace q1167 := eq_true q1167; go_wp2; repeat (go_quiet (fail); try go_wp2)
                 go_meet
                 case rel => exact ⟨_, (false), rf_, H', ⟨by have := HJ8.out; have := HJ38.out; have := HJ49.out; have := HK4.out; first | omega | exact nR_ _⟩, ⟨rK_ HO_7.out⟩, ⟨rK_ HO_9.out⟩, ⟨rK_ HO_10.out⟩, ⟨bR_ BK1142.out⟩, ⟨hB_⟩⟩
                rw [if_neg c93] at H; obtain ⟨c93b0, c93b1⟩ := bn_ c93; have H' := Z_ H; clear H; obtain ⟨Ao111, co111, eo111⟩ := rS_ HO_7.out; subst eo111; have p1165 : 0 ≤ (x96_4 : Int) := dT_ as_; have q1165 : x96_4 < (t1148.length : Int) := dT_ as_; obtain ⟨ad1165, e1165, hx1165_0⟩ := Kd.at_int (rR_ HO_7.out).2.2 x96_4 p1165 q1165; cases e1165
                replace p1165 := eq_true p1165; replace q1165 := eq_true q1165; have p1166 : 0 ≤ (x96_4 : Int) := dT_ as_; have q1166 : x96_4 < (l1.length : Int) := dT_ as_; obtain ⟨ad1166, e1166, hx1166_0⟩ := Kd.at_int HR1.out x96_4 p1166 q1166; cases e1166
                replace hx1166_0 := (HB.out.cell (World.block_lt_of_cell? w _ hx1166_0)).trans hx1166_0; replace p1166 := eq_true p1166; replace q1166 := eq_true q1166; have p1167 : 0 ≤ (x96_4 : Int) := dT_ as_; have q1167 : x96_4 < (l2.length : Int) := dT_ as_; obtain ⟨ad1167, e1167, hx1167_0⟩ := Kd.at_int HR2.out x96_4 p1167 q1167; cases e1167
                replace hx1167_0 := (HB.out.cell (World.block_lt_of_cell? w _ hx1167_0)).trans hx1167_0; replace p1167 := eq_true p1167; replace q1167 := eq_true q1167; go_wp2; repeat (go_quiet (fail); try go_wp2)
                go_meet
                case rel => exact ⟨_, (true), rf_, H', ⟨by have := HJ8.out; have := HJ38.out; have := HJ49.out; have := HK4.out; first | omega | exact nR_ _⟩, ⟨rK_ HO_7.out⟩, ⟨rK_ HO_9.out⟩, ⟨rK_ HO_10.out⟩, ⟨bR_ BK1142.out⟩, ⟨hB_⟩⟩
               rw [if_neg c91] at H; exact absurd H (by simp)
              rw [if_neg c90] at H; exact absurd H (by simp)
             rw [if_neg c89] at H; exact absurd H (by simp)
            rw [if_neg c88] at H; exact absurd H (by simp)
           case rest =>
            clear HC87; (try clear c1); (try clear p1); (try clear q1); (try clear hx1); (try clear c2); (try clear p2); (try clear c3); (try clear c4); (try clear c5); (try clear c6); (try clear c7); (try clear c8); (try clear c9); (try clear c10); (try clear c11); (try clear c11b0); (try clear c11b1); (try clear p11); (try clear q11); (try clear hx11); (try clear c13); (try clear c15); (try clear c37); (try clear c42); (try clear c42b0); (try clear c42b1); (try clear c47); (try clear c55); (try clear c55b0); (try clear c55b1); (try clear c56); (try clear c56b0); (try clear c56b1); (try clear c58); (try clear c69); (try clear c69b0); (try clear c69b1); (try clear c71); (try clear c78); (try clear c78b0); (try clear c78b1); (try clear c79); (try clear c79b0); (try clear c79b1); (try clear c84); (try clear c84b0); (try clear c84b1); (try clear c85); (try clear c86); (try clear c86b0); (try clear c88); (try clear c88b0); (try clear c89); (try clear c89b0); (try clear c90); (try clear c90b0); (try clear c91); (try clear c91b0); (try clear c93); (try clear c93b0); (try clear c93b1); (try clear c94); (try clear c94b0); (try clear c94b1); (try clear c95); (try clear c95b0); (try clear c96); (try clear c96b0); (try clear c99); (try clear c99b0); (try clear c99b1); (try clear c100); (try clear c100b0); (try clear c106); (try clear c106b0); (try clear c106b1); (try clear c107); (try clear c107b0); (try clear hcz17_0); (try clear hcz17_1); (try clear hcz19_0); (try clear hcz19_1); (try clear hcz21_0); (try clear hcz21_1); (try clear hcz23_0); (try clear hcz23_1); (try clear hcz25_0); (try clear hcz25_1); (try clear hcz27_0); (try clear hcz27_1); (try clear hcz29_0); (try clear hcz29_1); (try clear hcz31_0); (try clear hcz31_1); (try clear hcz33_0); (try clear hcz33_1); (try clear hcz35_0); (try clear hcz35_1); (try clear hcz40_0); (try clear hcz40_1); (try clear hcz44_0); (try clear hcz44_1); (try clear hcz51_0); (try clear hcz51_1); (try clear hcz53_0); (try clear hcz53_1); (try clear hcz60_0); (try clear hcz60_1); (try clear hcz63_0); (try clear hcz63_1); (try clear hcz66_0); (try clear hcz66_1); (try clear hcz72_0); (try clear hcz72_1); (try clear hcz75_0); (try clear hcz75_1); (try clear hcz81_0); (try clear hcz81_1); (try clear hfz17_0); (try clear hfz17_1); (try clear hfz19_0); (try clear hfz19_1); (try clear hfz21_0); (try clear hfz21_1); (try clear hfz23_0); (try clear hfz23_1); (try clear hfz25_0); (try clear hfz25_1); (try clear hfz27_0); (try clear hfz27_1); (try clear hfz29_0); (try clear hfz29_1); (try clear hfz31_0); (try clear hfz31_1); (try clear hfz33_0); (try clear hfz33_1); (try clear hfz35_0); (try clear hfz35_1); (try clear hfz40_0); (try clear hfz40_1); (try clear hfz44_0); (try clear hfz44_1); (try clear hfz51_0); (try clear hfz51_1); (try clear hfz53_0); (try clear hfz53_1); (try clear hfz60_0); (try clear hfz60_1); (try clear hfz63_0); (try clear hfz63_1); (try clear hfz66_0); (try clear hfz66_1); (try clear hfz72_0); (try clear hfz72_1); (try clear hfz75_0); (try clear hfz75_1); (try clear hfz81_0); (try clear hfz81_1); (try clear hx1165_0); (try clear hx1166_0); (try clear hx1167_0); (try clear hx1168_0); (try clear hx1169_0); (try clear hx1170_0); (try clear hx1171_0); (try clear hx1172_0); (try clear hx1173_0); (try clear p1165); (try clear p1166); (try clear p1167); (try clear p1168); (try clear p1169); (try clear p1170); (try clear p1171); (try clear p1172); (try clear p1173); (try clear p2); (try clear q1165); (try clear q1166); (try clear q1167); (try clear q1168); (try clear q1169); (try clear q1170); (try clear q1171); (try clear q1172); (try clear q1173)
            obtain ⟨kq, x142_86, rfl, HA, HJ86, HO_7, HO_9, HO_10, BK1142, HB⟩ := hcut
            cases kq with
            | zero => exact absurd HA.out (by simp [snowlinelaw04_DiffsLattice.j4])
            | succ kj86 =>
             have H := HA.out; clear HA; simp only [snowlinelaw04_DiffsLattice.j4] at H; by_cases c112 : x142_86 = true
             ·subst c112
              rw [if_pos rfl] at H; obtain rfl := oI_ H; go_wp2; repeat (go_quiet (fail); try go_wp2)
              go_ret; exact ⟨eW_, hB_⟩
             replace c112 := bE_.mpr c112; subst c112; have H1 : (snowlinelaw04_DiffsLattice.l0 kj86 l1 l2 t1148 t1156 t1153 t1157 t1160 (l1.length : Int) (wrap64 (x96_4 + 1))) = some r := by rw [if_neg (show ¬ (false = true) by decide)] at H; exact H
             clear H; have H := H1; clear H1; have H' := Z_ H; clear H; go_wp2; repeat (go_quiet (fail); try go_wp2)
             go_roundg kj86
             case measure => have := HJ8.out; have := HJ38.out; have := HJ49.out; have := HK4.out; have := HJ86.out; omega
             case rel => exact ⟨(wrap64 (x96_4 + 1)), rf_, H', ⟨by have := HJ8.out; have := HJ38.out; have := HJ49.out; have := HK4.out; have := HJ86.out; omega⟩, ⟨rK_ HO_7.out⟩, ⟨rK_ HO_9.out⟩, ⟨rK_ HO_10.out⟩, ⟨bR_ BK1142.out⟩, ⟨hB_⟩⟩
          rw [if_neg c86] at H; have c86b0 : decide (x96_4 < (l1.length : Int)) = false := eF_ c86; clear c86; obtain rfl := oI_ H; go_wp2; repeat (go_quiet (fail); try go_wp2)
          go_ret; exact ⟨eW_, hB_⟩
 replace c8 := bE_.mpr c8; subst c8; have H1 : (some false) = some r := by rw [if_neg (show ¬ (false = true) by decide)] at H; exact H
 clear H; have H := H1; clear H1; obtain rfl := oI_ H; go_wp2; repeat (go_quiet (fail); try go_wp2)
 go_ret; exact ⟨eW_, hB_⟩
end Go.Proofs.Ytpolojoeabmhdaa.A
/- DiffsLattice, over numbers and lists alone. -/
namespace Go.Proofs.Ytpolojoeabmhdaa.A
open Go.RowKit Go.Proofs.YtpolojoeabmhdaaW.PrintWords Go.Proofs.YtpolojoeabmhdaaW.PrintLast Go.Proofs.YtpolojoeabmhdaaW.PrintMore
theorem small_some (n : Int) (L : List S39) : snowlinelaw04_small.f n L = some (decide (n ≤ 16 ∧ L.length ≤ 60)) := by
  unfold snowlinelaw04_small.f
  by_cases h : n ≤ 16
  · rw [if_pos h]
    congr 1
    exact decide_eq_decide.2 (by omega)
  · rw [if_neg h]
    congr 1
    rw [decide_eq_false]
    omega
theorem Short.self {L : List S39} {i a : Int} {p : Bool} (h : Short L i i a p) (hs : Solv L) : p = true ∧ a = 0 := by
  have w : Wk L i [] i 0 := ⟨rfl, rfl⟩
  cases p with
  | true =>
    obtain ⟨⟨l, w1⟩, h2⟩ := h.yes rfl
    have := h2 _ _ w
    obtain ⟨x, hx⟩ := hs
    have := hx.walk w1
    exact ⟨rfl, by omega⟩
  | false => exact absurd w ((h.no rfl).2 _ _)
theorem ext_rd {a b : List Int} (hl : a.length = b.length) (h : ∀ v : Int, 0 ≤ v → v < (a.length : Int) → rd a v = rd b v) : a = b :=
  List.ext_getElem hl (fun i h1 h2 => by
    have p := h i (by omega) (by omega)
    unfold rd at p
    rw [List.getD_eq_getElem?_getD, List.getD_eq_getElem?_getD, Int.toNat_natCast, List.getElem?_eq_getElem h1, List.getElem?_eq_getElem h2] at p
    exact p)
/-- A net with all differences turned round. -/
def turnN (L : List S39) : List S39 := L.map fun d => ⟨d.f1, d.f0, d.f2⟩
theorem turn_valid (n : Int) (L : List S39) : validB n (turnN L) = validB n L := by
  unfold validB turnN
  rw [List.length_map, List.all_map]
  congr 2
  funext d
  simp only [Function.comp_apply, edgeB]
  rw [Bool.eq_iff_iff]
  simp only [Bool.and_eq_true, decide_eq_true_eq]
  omega
theorem map_take_rd (L : List S39) (g : S39 → S39) (i : Nat) (hi : i < L.length) : (L.map g).take i ++ [g (rd_T39 L i)] = (L.map g).take (i + 1) := by
  rw [List.take_succ_eq_append_getElem (by simpa using hi), List.getElem_map]
  congr 2
  unfold rd_T39
  rw [List.getD_eq_getElem?_getD, Int.toNat_natCast, List.getElem?_eq_getElem hi]; rfl
theorem turned_l0 (n : Int) (L : List S39) (hl : L.length ≤ 5864062014700) : ∀ (q i f : Nat), q + i = L.length →
    diffs_turned.l0 (f + q + 1) L L.length i n ((turnN L).take i) = some (n, turnN L)
  | 0, i, f, hq => by
    rw [diffs_turned.l0, if_neg (by omega), List.take_of_length_le (by unfold turnN; simp; omega)]
  | q + 1, i, f, hq => by
    rw [show f + (q + 1) + 1 = (f + q + 1) + 1 from by omega, diffs_turned.l0, if_pos (by omega), if_pos (by omega), if_pos (by omega), if_pos (by unfold turnN; simp; omega), wrap_id (by omega) (by omega)]
    have := turned_l0 n L hl q (i + 1) f (by omega)
    rw [turnN, ← map_take_rd L _ i (by omega)] at this
    exact this
theorem turned_ev (n : Int) (L : List S39) (hl : L.length ≤ 5864062014700) : Ev (fun k => diffs_turned.f k n L) (n, turnN L) :=
  Ev.shift (L.length + 1) (h := fun _ => some _) (fun f => by
    unfold diffs_turned.f
    have := turned_l0 n L hl L.length 0 f (by omega)
    rw [List.take_zero, show ((0 : Nat) : Int) = 0 from rfl] at this
    exact this) (Ev.now _)
theorem bottom_l0 (l : List Int) (e : Int) (hl : l.length ≤ 65536) : ∀ (q : Nat) (i : Int) (x : List Int) (f : Nat), (q : Int) + i = l.length → 0 ≤ i → x.length = l.length → (∀ v, 0 ≤ v → v < (l.length : Int) → rd x v = if v < i then wrap64 (-(rd l v)) else rd l v) →
    diffs_Bottom.l0 (f + q + 1) x e l.length i = some (l.map fun a => wrap64 (-a), e)
  | 0, i, x, f, hq, hi, hx, hv => by
    rw [diffs_Bottom.l0, if_neg (by omega)]
    congr 2
    refine ext_rd (by simpa using hx) (fun v h0 h1 => ?_)
    rw [hv v h0 (by omega), if_pos (by omega)]
    unfold rd
    rw [List.getD_eq_getElem?_getD, List.getD_eq_getElem?_getD, List.getElem?_map, List.getElem?_eq_getElem (show v.toNat < l.length by omega)]; rfl
  | q + 1, i, x, f, hq, hi, hx, hv => by
    have hlt : i < (l.length : Int) := by omega
    have e1 : rd x i = rd l i := by rw [hv i hi hlt, if_neg (by omega)]
    rw [show f + (q + 1) + 1 = (f + q + 1) + 1 from by omega, diffs_Bottom.l0, if_pos hlt, if_pos hi, if_pos (by omega), e1, wrap_id (x := i + 1) (by omega) (by omega)]
    refine bottom_l0 l e hl q (i + 1) _ f (by omega) (by omega) (by rw [List.length_set]; exact hx) (fun v h0 h1 => ?_)
    rw [rd_set _ _ _ _ hi (by omega) h0]
    by_cases ev : v = i
    · rw [if_pos ev, if_pos (by omega), ev]
    · rw [if_neg ev, hv v h0 h1]
      by_cases h2 : v < i
      · rw [if_pos h2, if_pos (by omega)]
      · rw [if_neg h2, if_neg (by omega)]
section
variable {n : Nat} {L : List S39}
structure EndsIs (n : Nat) (L : List S39) (r : List Int) : Prop where
  l : r.length = n
  z : rd r 0 = 0
  p : Pot L (rd r)
  b : ∀ v, 0 ≤ v → v < (n : Int) → -1099511627776 ≤ rd r v ∧ rd r v ≤ 1099511627776
  m : ∀ x : Int → Int, x 0 = 0 → Pot L x → ∀ v, 0 ≤ v → v < (n : Int) → x v ≤ rd r v
theorem ends_ev (hV : Valid n L) (hs : Solv L) : ∃ r e, Ev (fun k => diffs_ends.f k n L) (r, e) ∧ ((e = 42 ∧ r = []) ∨ (e = 0 ∧ EndsIs n L r)) := by
  have hn0 : 0 < n := by have := hV.n1; omega
  have hn : n ≤ 256 := by have := hV.n2; omega
  obtain ⟨s, k1, k2, hf, k3⟩ := reach_yes hn0 (by omega) hV.e (hmul hV) hs (i := 0) (by omega) (by omega)
  obtain ⟨bb, T, hb0, hb2, hB⟩ := k2.bf
  have l2 := hB.l2
  have l1 := hB.l1
  unfold diffs_ends.f
  by_cases hh : false ∈ s.ha
  · exact ⟨[], 42, k3.bind (Ev.pos rfl ((contains_ev s.ha (by omega)).bind (Ev.pos (List.contains_iff_mem.2 hh) (Ev.now _)))), Or.inl ⟨rfl, rfl⟩⟩
  have hall : ∀ v, 0 ≤ v → v < (n : Int) → hasN s v := fun v v0 v1 => by
    unfold hasN
    apply Classical.byContradiction
    intro h
    have : rdOf false s.ha v ∈ s.ha := by
      unfold rdOf
      rw [List.getD_eq_getElem?_getD, List.getElem?_eq_getElem (by omega)]; exact List.getElem_mem _
    rw [Bool.eq_false_iff.2 h] at this
    exact hh this
  have hsh := fun v v0 v1 => tree_short hV.e (by omega) (by omega) k2 hf (i := 0) (j := v) v0 v1
  have h0 := (hsh 0 (by omega) (by omega)).self hs
  refine ⟨s.lo, 0, k3.bind (Ev.pos rfl ((contains_ev s.ha (by omega)).bind (Ev.neg (fun h => hh (List.contains_iff_mem.1 h)) (Ev.now _)))), Or.inr ⟨rfl, by omega, h0.2, fun k k0 k1 => ?_, fun v v0 v1 => ?_, fun x x0 hx v v0 v1 => ?_⟩⟩
  · have he := hV.e k k0 k1
    have := (hf.edge k0 k1 (hall _ he.a he.b)).2
    omega
  · obtain ⟨c, hc⟩ := k2.tree hV.e hf v0 v1 (hall v v0 v1)
    have := wk_bound hV.e hc.walk
    rw [List.length_reverse, chain_len'] at this
    have := hc.few
    omega
  · obtain ⟨⟨l, hl⟩, _⟩ := (hsh v v0 v1).yes (hall v v0 v1)
    have := hx.walk hl
    omega
theorem Pot.turn {x : Int → Int} : Pot (turnN L) x ↔ Pot L (fun v => -(x v)) := by
  have key : ∀ i : Int, 0 ≤ i → i < L.length → rd_T39 (turnN L) i = ⟨(rd_T39 L i).f1, (rd_T39 L i).f0, (rd_T39 L i).f2⟩ := fun i i0 i1 => by
    unfold turnN rd_T39
    rw [List.getD_eq_getElem?_getD, List.getD_eq_getElem?_getD, List.getElem?_map, List.getElem?_eq_getElem (by omega)]
    rfl
  have hl : (turnN L).length = L.length := by unfold turnN; simp
  constructor
  · intro h i i0 i1
    have := h i i0 (by omega)
    rw [key i i0 i1] at this
    simp only at this ⊢
    omega
  · intro h i i0 i1
    have := h i i0 (by omega)
    rw [key i i0 (by omega)]
    simp only at this ⊢
    omega
theorem Solv.turn (h : Solv L) : Solv (turnN L) := by
  obtain ⟨x, hx⟩ := h
  refine ⟨fun v => -(x v), Pot.turn.2 ?_⟩
  simp only [Int.neg_neg]
  exact hx
theorem EndsIs.ful {r : List Int} (hV : Valid n L) (h : EndsIs n L r) : Ful n L r := ⟨by have := h.l; omega, by have := hV.n1; omega, h.z, h.b, fun k k0 k1 => by
  have he := hV.e k k0 k1
  have := h.p k k0 k1
  exact ⟨he.a, he.b, he.c, he.g, by omega⟩⟩
/-- Top and Bottom of the program. -/
theorem topbot_ev (hV : Valid n L) (hs : Solv L) : ∃ r e q f, Ev (fun k => diffs_Top.f k n L) (r, e) ∧ Ev (fun k => diffs_Bottom.f k n L) (q, f) ∧ ((e = 42 ∧ r = []) ∨ (e = 0 ∧ Ful n L r ∧ ∀ x, Ful n L x → ∀ v, 0 ≤ v → v < (n : Int) → rd x v ≤ rd r v)) ∧ ((f = 42 ∧ q = []) ∨ (f = 0 ∧ Ful n L q ∧ ∀ x, Ful n L x → ∀ v, 0 ≤ v → v < (n : Int) → rd q v ≤ rd x v)) := by
  have hc := check_ev n L
  rw [if_pos (validB_iff.2 hV)] at hc
  have hn : n ≤ 256 := by have := hV.n2; omega
  have hn1 := hV.n1
  have hVt : Valid n (turnN L) := validB_iff.1 (by rw [turn_valid]; exact validB_iff.2 hV)
  obtain ⟨r, e, r1, r2⟩ := ends_ev hV hs
  obtain ⟨q, f, q1, q2⟩ := ends_ev hVt hs.turn
  have hq3 : q.length ≤ 65536 := by
    rcases q2 with ⟨_, rfl⟩ | ⟨_, h⟩
    · simp
    · have := h.l; omega
  have hb := Ev.shift (g := fun k => diffs_Bottom.l0 k q f q.length 0) (q.length + 1) (h := fun _ => some (q.map fun a => wrap64 (-a), f)) (fun g => bottom_l0 q f hq3 q.length 0 q g (by omega) (by omega) rfl (fun v h0 h1 => by rw [if_neg (by omega)])) (Ev.now _)
  refine ⟨r, e, q.map fun a => wrap64 (-a), f, ?_, ?_, ?_, ?_⟩
  · unfold diffs_Top.f
    exact hc.bind (Ev.pos rfl (r1.bind (Ev.now _)))
  · unfold diffs_Bottom.f
    exact hc.bind (Ev.pos rfl ((turned_ev n L (by have := hV.l; omega)).bind (q1.bind hb)))
  · rcases r2 with h | ⟨rfl, h⟩
    · exact Or.inl h
    · exact Or.inr ⟨rfl, h.ful hV, fun x hx v v0 v1 => h.m (rd x) hx.z hx.asg.p v v0 v1⟩
  · rcases q2 with ⟨rfl, rfl⟩ | ⟨rfl, h⟩
    · exact Or.inl ⟨rfl, rfl⟩
    · have hl := h.l
      have hrd : ∀ v, 0 ≤ v → v < (n : Int) → rd (q.map fun a => wrap64 (-a)) v = -(rd q v) := fun v v0 v1 => by
        have := h.b v v0 v1
        have e1 : rd (q.map fun a => wrap64 (-a)) v = wrap64 (-(rd q v)) := by
          unfold rd
          rw [List.getD_eq_getElem?_getD, List.getD_eq_getElem?_getD, List.getElem?_map, List.getElem?_eq_getElem (show v.toNat < q.length by omega)]; rfl
        rw [e1, wrap_id (by omega) (by omega)]
      refine Or.inr ⟨rfl, ⟨by rw [List.length_map]; omega, by omega, ?_, fun v v0 v1 => ?_, fun k k0 k1 => ?_⟩, fun x hx v v0 v1 => ?_⟩
      · rw [hrd 0 (by omega) (by omega), h.z]; rfl
      · have := h.b v v0 v1
        rw [hrd v v0 v1]; omega
      · have he := hV.e k k0 k1
        have := Pot.turn.1 h.p k k0 k1
        refine ⟨he.a, he.b, he.c, he.g, ?_⟩
        rw [hrd _ he.c he.g, hrd _ he.a he.b]
        exact this
      · have := h.m (fun v => -(rd x v)) (by simp only [hx.z]; rfl) (Pot.turn.2 (by simp only [Int.neg_neg]; exact hx.asg.p)) v v0 v1
        rw [hrd v v0 v1]
        omega
end
theorem lattice_l0 {n : Nat} {x y z r q : List Int} {e f : Int} (hn : n ≤ 256) (hx : x.length = n) (hy : y.length = n) (hz : z.length = n) (hzm : ∀ v, 0 ≤ v → v < (n : Int) → rd z v = mx (rd x v) (rd y v)) (hr : e = 0 → r.length = n ∧ ∀ v, 0 ≤ v → v < (n : Int) → rd z v ≤ rd r v) (hq : f = 0 → q.length = n ∧ ∀ v, 0 ≤ v → v < (n : Int) → rd q v ≤ rd x v) : ∀ (m : Nat) (i : Int), (m : Int) + i = n → 0 ≤ i →
    Ev (fun k => snowlinelaw04_DiffsLattice.l0 k x y z e r q f x.length i) true := by
  intro m
  induction m with
  | zero =>
    intro i hm h0
    exact Ev.step (f := fun _ => some true) (fun k => by rw [snowlinelaw04_DiffsLattice.l0, if_neg (by omega)]) (Ev.now _)
  | succ m ih =>
    intro i hm h0
    have hlt : i < (n : Int) := by omega
    have hj : Ev (fun k => snowlinelaw04_DiffsLattice.j4 k x y z e r q f x.length i false) true := by
      refine Ev.step (f := fun k => snowlinelaw04_DiffsLattice.l0 k x y z e r q f x.length (i + 1)) (fun k => ?_) (ih (i + 1) (by omega) (by omega))
      rw [snowlinelaw04_DiffsLattice.j4, if_neg (by decide), wrap_id (x := i + 1) (by omega) (by omega)]
    have hj2 : Ev (fun k => if f = 0 then (if i < (q.length : Int) then (snowlinelaw04_DiffsLattice.j4 k x y z e r q f x.length i (decide ((rd x i) < (rd q i)))) else (none)) else (snowlinelaw04_DiffsLattice.j4 k x y z e r q f x.length i false)) true := by
      by_cases hf : f = 0
      · obtain ⟨q1, q2⟩ := hq hf
        have := q2 i h0 hlt
        refine Ev.pos hf (Ev.pos (by omega) ?_)
        rw [decide_eq_false (by omega)]
        exact hj
      · exact Ev.neg hf hj
    have hin : ∀ {b}, Ev (fun k => if e = 0 then (if i < (r.length : Int) then (if (rd z i) > (rd r i) then (snowlinelaw04_DiffsLattice.j4 k x y z e r q f x.length i true) else (if f = 0 then (if i < (q.length : Int) then (snowlinelaw04_DiffsLattice.j4 k x y z e r q f x.length i (decide ((rd x i) < (rd q i)))) else (none)) else (snowlinelaw04_DiffsLattice.j4 k x y z e r q f x.length i false))) else (none)) else (if f = 0 then (if i < (q.length : Int) then (snowlinelaw04_DiffsLattice.j4 k x y z e r q f x.length i (decide ((rd x i) < (rd q i)))) else (none)) else (snowlinelaw04_DiffsLattice.j4 k x y z e r q f x.length i false))) b → Ev (fun k => snowlinelaw04_DiffsLattice.l0 k x y z e r q f x.length i) b := fun h =>
      Ev.step (fun k => by rw [snowlinelaw04_DiffsLattice.l0, if_pos (by omega), if_pos h0, if_pos (by omega), if_pos (by omega), if_pos (by omega), if_pos (hzm i h0 hlt)]) h
    refine hin ?_
    by_cases he : e = 0
    · obtain ⟨r1, r2⟩ := hr he
      have := r2 i h0 hlt
      exact Ev.pos he (Ev.pos (by omega) (Ev.neg (by omega) hj2))
    · exact Ev.neg he hj2
theorem lattice_ev (n : Int) (L : List S39) (x y : List Int) : Ev (fun k => snowlinelaw04_DiffsLattice.f k n L x y) true := by
  unfold snowlinelaw04_DiffsLattice.f snowlinelaw04_sane.f
  simp only [Option.bind_some, if_true]
  have hquit : Ev (fun k => snowlinelaw04_DiffsLattice.j0 k x y true n L) true :=
    Ev.step (f := fun _ => some true) (fun q => by rw [snowlinelaw04_DiffsLattice.j0]; rfl) (Ev.now _)
  refine (check_ev n L).bind ?_
  by_cases hv : validB n L = true
  case neg =>
    rw [if_neg hv]
    exact Ev.neg (by decide) hquit
  rw [if_pos hv]
  refine Ev.pos rfl ?_
  rw [small_some]
  simp only [Option.bind_some]
  by_cases hsm : n ≤ 16 ∧ L.length ≤ 60
  case neg =>
    rw [decide_eq_false hsm]
    exact Ev.neg (by decide) hquit
  rw [decide_eq_true hsm]
  refine Ev.pos rfl ?_
  have hV := validB_iff.1 hv
  obtain ⟨N, rfl⟩ : ∃ N : Nat, n = N := ⟨n.toNat, by have := hV.n1; omega⟩
  obtain ⟨p, p1, p2⟩ := fulfils_ev N L x (by omega) (by omega)
  obtain ⟨p', p3, p4⟩ := fulfils_ev N L y (by omega) (by omega)
  refine p1.bind ?_
  cases p with
  | false => exact Ev.neg (by decide) hquit
  | true =>
  refine Ev.pos rfl (p3.bind ?_)
  cases p' with
  | false => exact hquit
  | true =>
  have hx := p2.1 rfl
  have hy := p4.1 rfl
  have hs := hx.solv
  obtain ⟨z, e, z1, z2⟩ := higher_ev hV x y
  obtain ⟨rfl, hzl, hzm⟩ := z2.yes ⟨hx, hy⟩
  have hz := z2.ful hV hx hy
  obtain ⟨p5, p6, p7⟩ := fulfils_ev N L z (by omega) (by omega)
  obtain rfl := p7.2 hz
  obtain ⟨r, e, q, f, r1, q1, r2, q2⟩ := topbot_ev hV hs
  have hlx := hx.l
  have hly := hy.l
  refine Ev.step (f := fun q => _) (fun q => by rw [snowlinelaw04_DiffsLattice.j0, if_neg (by decide)]) ?_
  refine z1.bind (Ev.pos rfl (p6.bind ?_))
  refine Ev.step (f := fun q => _) (fun q => by rw [snowlinelaw04_DiffsLattice.j1, if_neg (by decide)]) ?_
  refine r1.bind (q1.bind ?_)
  have hj2 : Ev (fun k => snowlinelaw04_DiffsLattice.j2 k x y z e r q f false) true := by
    refine Ev.step (f := fun q' => snowlinelaw04_DiffsLattice.l0 q' x y z e r q f x.length 0) (fun q' => by rw [snowlinelaw04_DiffsLattice.j2, if_neg (by decide)]) ?_
    refine lattice_l0 (n := N) (by omega) (by omega) (by omega) (by omega) hzm (fun he => ?_) (fun hf => ?_) N 0 (by omega) (by omega)
    · rcases r2 with ⟨h, _⟩ | ⟨_, h1, h2⟩
      · omega
      · have := h1.l
        exact ⟨by omega, fun v v0 v1 => h2 z hz v v0 v1⟩
    · rcases q2 with ⟨h, _⟩ | ⟨_, h1, h2⟩
      · omega
      · have := h1.l
        exact ⟨by omega, fun v v0 v1 => h2 x hx v v0 v1⟩
  have hfr : e = 0 → Ev (fun k => snowlinelaw04_fulfils.f k N L r) true := fun he => by
    obtain ⟨b, b1, b2⟩ := fulfils_ev N L r (by omega) (by omega)
    rcases r2 with ⟨h, _⟩ | ⟨_, h1, h2⟩
    · omega
    · rw [b2.2 h1] at b1; exact b1
  have hfq : f = 0 → Ev (fun k => snowlinelaw04_fulfils.f k N L q) true := fun hf => by
    obtain ⟨b, b1, b2⟩ := fulfils_ev N L q (by omega) (by omega)
    rcases q2 with ⟨h, _⟩ | ⟨_, h1, h2⟩
    · omega
    · rw [b2.2 h1] at b1; exact b1
  have hq42 : ¬ f = 0 → f = 42 := fun h => q2.elim (fun a => a.1) (fun a => absurd a.1 h)
  have hr42 : ¬ e = 0 → e = 42 := fun h => r2.elim (fun a => a.1) (fun a => absurd a.1 h)
  by_cases he : e = 0
  · refine Ev.pos he ?_
    by_cases hf : f = 0
    · exact Ev.pos hf ((hfr he).bind (Ev.pos rfl ((hfq hf).bind hj2)))
    · exact Ev.neg hf (Ev.pos (hq42 hf) ((hfr he).bind (Ev.pos rfl hj2)))
  · refine Ev.neg he (Ev.pos (hr42 he) ?_)
    by_cases hf : f = 0
    · exact Ev.pos hf ((hfq hf).bind hj2)
    · exact Ev.neg hf (Ev.pos (hq42 hf) hj2)
end Go.Proofs.Ytpolojoeabmhdaa.A
/- DiffsLattice: for every input the law answers true, and what came in reads as it did. No conditions. -/
namespace Go.Proofs.Ytpolojoeabmhdaa.diffsLattice
open Go.ChangeShapes Go.WideShapes Go.ChangeAt Go.RowKit
open Go.Proofs.Ytpolojoeabmhdaa.A
open Go.Proofs.YtpolojoeabmhdaaW.PrintWords
set_option maxRecDepth 100000 in
theorem lifted (os : Os) (started : os.Started) (H : Type) (enc : TypeId × Value → H) :
    ReturnsInHanded {} Try.checked os 15 .any (Rows.diffsLatticeSpec.pre6 enc Try.prog Try.f15 Rows.diffsLatticeRow.domain false) (Rows.diffsLatticeSpec.post enc Try.prog Try.f15 false true false false) := by
  refine returnsInHanded_of_change_sized (C := Try.checked) own started (by kernel_rfl) Try.func15
    (ChangeSpec.witness6 (enc := enc) (C := Try.checked) false ⟨#[], #[.agg #[.int .i64 0, .slice none 0 0], .slice none 0 0, .slice none 0 0], []⟩ 8 (by kernel_rfl) (by kernel_rfl) (by kernel_rfl) (by kernel_rfl)) ?_
  intro W base args ds gs before hval0 hW hcnd hsz0 _
  have hsz : (DataW.weightsEach Try.prog (Try.f15.params.toList ++ Rows.diffsLatticeSpec.plain.varTypes Try.prog) (ds ++ gs)).all (· ≤ reachBytes) = true := hsz0
  have hval : ∀ (j : Nat) t v, Try.f15.params[j]? = some t → args[j]? = some v → Value.okWide Try.prog W .any base t v := hval0
  have hW' := hW
  obtain ⟨p, q, hA0, hV, rfl, hfz, hnd⟩ := hW
  have hA : DataW.TrodAll enc Try.prog W 0 (fun _ => true) true Try.f15.params.toList args.toList ds p := hA0
  rw [Try.params15] at hA hval hsz
  obtain ⟨v0, vs0, d0, ds0, p0, q0, hargs, rfl, rfl, h0, r0⟩ := trodAll_cons hA
  obtain ⟨v1, vs1, d1, ds1, p1, q1, rfl, rfl, rfl, h1, r1⟩ := trodAll_cons r0
  obtain ⟨v2, vs2, d2, ds2, p2, q2, rfl, rfl, rfl, h2, r2⟩ := trodAll_cons r1
  obtain ⟨rfl, rfl, rfl⟩ := trodAll_nil r2
  obtain rfl : args = #[v0, v1, v2] := by cases args; simp_all
  obtain ⟨rfl, rfl⟩ := trodVars_none hV
  have k0 := h0
  have lt0 : ∀ x ∈ p0, x.block < W.heap.size := by obtain ⟨m, hm⟩ := k0; exact DataW.trod_lt m _ _ _ hm
  obtain ⟨n0, A0, l0, c0, rfl, hC0, hc0, wz0, sz0⟩ := open_net (hval 0 24 v0 rfl rfl) h0
  have k1 := h1
  have lt1 : ∀ x ∈ p1, x.block < W.heap.size := by obtain ⟨m, hm⟩ := k1; exact DataW.trod_lt m _ _ _ hm
  obtain ⟨A1, l1, c1, rfl, hC1, hc1, wz1⟩ := open_list (hval 1 29 v1 rfl rfl) h1
  have k2 := h2
  have lt2 : ∀ x ∈ p2, x.block < W.heap.size := by obtain ⟨m, hm⟩ := k2; exact DataW.trod_lt m _ _ _ hm
  obtain ⟨A2, l2, c2, rfl, hC2, hc2, wz2⟩ := open_list (hval 2 29 v2 rfl rfl) h2
  obtain ⟨rk, hk⟩ := Ev.rounds (lattice_ev n0 l0 l1 l2)
  clear hA0 hval0 hsz0 hsz
  refine (snowlinelaw04_DiffsLattice.calls rk n0 A0 c0 l0 A1 c1 l1 A2 c2 l2 true W hC0 hc0 hC1 hc1 hC2 hc2 hk).mono fun e W' ⟨he, bel⟩ => ?_
  subst he
  exact ⟨_, rfl, _, _, _, [], _, [], hW', trodAll_mk1 (shut_bool Try.underlying4 _), (trodAll_cons_mk (Below.trod laidOut (by kernel_rfl) (of_decide_eq_true (by kernel_rfl)) k0 bel lt0) (trodAll_cons_mk (Below.trod laidOut (by kernel_rfl) (of_decide_eq_true (by kernel_rfl)) k1 bel lt1) (trodAll_cons_mk (Below.trod laidOut (by kernel_rfl) (of_decide_eq_true (by kernel_rfl)) k2 bel lt2) trodAll_mk0))), rfl, bel.frame _, fun h => by cases h⟩
theorem joined : joinedFacts Try.prog 15 Try.f15 Rows.diffsLatticeSpec Rows.diffsLatticeRow = true := (andB (andB (andB (andB (andB (andB (andB (andB (andB (andB (andB (andB (andB (andB (andB (andB (andB (andB (andB (andB (andB (andB (andB (andB (andB (andB (andB (andB (andB (andB (andB (by kernel_rfl) laidOut) pMapsRowed) (by kernel_rfl)) (by kernel_rfl)) (by kernel_rfl)) pStops) (by kernel_rfl)) pKnobs) (by kernel_rfl)) (by kernel_rfl)) (by kernel_rfl)) (by kernel_rfl)) (by kernel_rfl)) (by kernel_rfl)) (by kernel_rfl)) (by kernel_rfl)) (by kernel_rfl)) (by kernel_rfl)) (by kernel_rfl)) (by kernel_rfl)) (by kernel_rfl)) pPlain) (by kernel_rfl)) pHeard) pEnter) pLifted) pMake) (by kernel_rfl)) (by kernel_rfl)) (by kernel_rfl)) (by kernel_rfl))
theorem over : Rows.diffsLatticeRow.holds Try.pinned (OpenSpec.ofChange Rows.diffsLatticeSpec) :=
  OpenClaim.holds_of_wide 15 Try.f15 rfl rfl rfl rfl rfl rfl rfl ⟨rfl, rfl, rfl, rfl, rfl⟩ rfl rfl rfl rfl rfl (by kernel_rfl) Try.func15 joined
    (of_decide_eq_true (by kernel_rfl)) (by unfold Func.isWrapper; first | (rw [if_pos (by decide +kernel)]; kernel_rfl) | (rw [if_neg (by decide +kernel)]; exact ⟨rfl, rfl⟩))
    (fun os started H enc _ => lifted os started H enc)
theorem proved : Rows.DiffsLatticeSaid := over
#print axioms proved
end Go.Proofs.Ytpolojoeabmhdaa.diffsLattice
namespace Go.Proofs.Ytpolojoeabmhdaa
/-- The row, under a short name, for the claim. -/
theorem diffsLattice_holds : Rows.DiffsLatticeSaid := diffsLattice.proved
end Go.Proofs.Ytpolojoeabmhdaa
