import Derived.Test.YtpolojoeabmhdaaMRMostSpeca
import Derived.Test.YtpolojoeabmhdaaMYcoreb
import Derived.Test.YtpolojoeabmhdaaMYcoref
import Derived.Test.YtpolojoeabmhdaaMYflowa
set_option linter.unusedVariables false
set_option linter.unusedSimpArgs false
namespace Go.Proofs.Ytpolojoeabmhdaa.A
open Go.RowKit Go.Proofs.YtpolojoeabmhdaaW.PrintWords Go.Proofs.YtpolojoeabmhdaaW.PrintLast Go.Proofs.YtpolojoeabmhdaaW.PrintMore
attribute [local go_sem] max2_int min2_int max_two min_two max_three min_three max_four min_four
mutual
def r_CheckFlow.j0 : Nat -> List Int -> Int -> List Int -> Bool -> Int -> List (S39) -> Option (Int)
 | 0, _, _, _, _, _, _ => none
 | k + 1, x1, x2, x3, x27, pG, nC => if x27 = true then (some 1) else (r_CheckFlow.l0 k x1 x2 x3 0 pG nC)
def r_CheckFlow.l0 : Nat -> List Int -> Int -> List Int -> Int -> Int -> List (S39) -> Option (Int)
 | 0, _, _, _, _, _, _ => none
 | k + 1, x1, x2, x3, x9, pG, nC => if x9 < (x3.length : Int) then (if 0 <= x9 then (if (rd x3 x9) < 0 then (r_CheckFlow.j2 k x1 x2 x3 x9 true pG nC) else (r_CheckFlow.j2 k x1 x2 x3 x9 (decide ((rd x3 x9) > 1048576)) pG nC)) else (none)) else (r_CheckFlow.l1 k x1 x2 x3 1 pG nC)
def r_CheckFlow.j2 : Nat -> List Int -> Int -> List Int -> Int -> Bool -> Int -> List (S39) -> Option (Int)
 | 0, _, _, _, _, _, _, _ => none
 | k + 1, x1, x2, x3, x9, x45, pG, nC => if x45 = true then (some 1) else (r_CheckFlow.l0 k x1 x2 x3 (wrap64 (x9 + 1)) pG nC)
def r_CheckFlow.l1 : Nat -> List Int -> Int -> List Int -> Int -> Int -> List (S39) -> Option (Int)
 | 0, _, _, _, _, _, _ => none
 | k + 1, x1, x2, x3, x10, pG, nC => if x10 < pG then (r_CheckFlow.l2 k x1 x2 x3 x10 0 0 pG nC) else ((r_Cost.f k pG nC x3).bind fun an2 => (if an2 > x2 then (some 43) else (some 0)))
def r_CheckFlow.l2 : Nat -> List Int -> Int -> List Int -> Int -> Int -> Int -> Int -> List (S39) -> Option (Int)
 | 0, _, _, _, _, _, _, _, _ => none
 | k + 1, x1, x2, x3, x10, x11, x12, pG, nC => if x12 < (x3.length : Int) then (if 0 <= x12 then (if x12 < (nC.length : Int) then (if ((rT39 nC x12).f1) = x10 then (r_CheckFlow.j5 k x1 x2 x3 x10 (wrap64 (x11 + (rd x3 x12))) x12 pG nC) else (r_CheckFlow.j5 k x1 x2 x3 x10 x11 x12 pG nC)) else (none)) else (none)) else (if 0 <= x10 then (if x10 < (x1.length : Int) then (if x11 = (rd x1 x10) then (r_CheckFlow.l1 k x1 x2 x3 (wrap64 (x10 + 1)) pG nC) else (some 43)) else (none)) else (none))
def r_CheckFlow.j5 : Nat -> List Int -> Int -> List Int -> Int -> Int -> Int -> Int -> List (S39) -> Option (Int)
 | 0, _, _, _, _, _, _, _, _ => none
 | k + 1, x1, x2, x3, x10, x11, x12, pG, nC => if 0 <= x12 then (if x12 < (nC.length : Int) then (if ((rT39 nC x12).f0) = x10 then (if x12 < (x3.length : Int) then (r_CheckFlow.l2 k x1 x2 x3 x10 (wrap64 (x11 - (rd x3 x12))) (wrap64 (x12 + 1)) pG nC) else (none)) else (r_CheckFlow.l2 k x1 x2 x3 x10 x11 (wrap64 (x12 + 1)) pG nC)) else (none)) else (none)
end
def r_CheckFlow.f (k : Nat) (ae : Int) (ac : List (S39)) (l1 : List Int) (a2 : Int) (l3 : List Int) : Option (Int) := (r_Check.f k ae ac).bind fun an3 => (if an3 = 0 then ((r_Weights.f k ae ac l1).bind fun apz => (if apz = true then (r_CheckFlow.j0 k l1 a2 l3 ((l3.length : Int) != (ac.length : Int)) ae ac) else (r_CheckFlow.j0 k l1 a2 l3 true ae ac))) else (some 40))
theorem r_CheckFlow.mono_l : ∀ k, (∀ y0 y1 y2 y3 y4 y5, LeO (r_CheckFlow.j0 k y0 y1 y2 y3 y4 y5) (r_CheckFlow.j0 (k + 1) y0 y1 y2 y3 y4 y5)) /\ (∀ y0 y1 y2 y3 y4 y5, LeO (r_CheckFlow.l0 k y0 y1 y2 y3 y4 y5) (r_CheckFlow.l0 (k + 1) y0 y1 y2 y3 y4 y5)) /\ (∀ y0 y1 y2 y3 y4 y5 y6, LeO (r_CheckFlow.j2 k y0 y1 y2 y3 y4 y5 y6) (r_CheckFlow.j2 (k + 1) y0 y1 y2 y3 y4 y5 y6)) /\ (∀ y0 y1 y2 y3 y4 y5, LeO (r_CheckFlow.l1 k y0 y1 y2 y3 y4 y5) (r_CheckFlow.l1 (k + 1) y0 y1 y2 y3 y4 y5)) /\ (∀ y0 y1 y2 y3 y4 y5 y6 y7, LeO (r_CheckFlow.l2 k y0 y1 y2 y3 y4 y5 y6 y7) (r_CheckFlow.l2 (k + 1) y0 y1 y2 y3 y4 y5 y6 y7)) /\ (∀ y0 y1 y2 y3 y4 y5 y6 y7, LeO (r_CheckFlow.j5 k y0 y1 y2 y3 y4 y5 y6 y7) (r_CheckFlow.j5 (k + 1) y0 y1 y2 y3 y4 y5 y6 y7))
 | 0 => ⟨fun _ _ _ _ _ _ r h => by simp [r_CheckFlow.j0] at h, fun _ _ _ _ _ _ r h => by simp [r_CheckFlow.l0] at h, fun _ _ _ _ _ _ _ r h => by simp [r_CheckFlow.j2] at h, fun _ _ _ _ _ _ r h => by simp [r_CheckFlow.l1] at h, fun _ _ _ _ _ _ _ _ r h => by simp [r_CheckFlow.l2] at h, fun _ _ _ _ _ _ _ _ r h => by simp [r_CheckFlow.j5] at h⟩
 | k + 1 => by
  obtain ⟨ih0, ih1, ih2, ih3, ih4, ih5⟩ := r_CheckFlow.mono_l k; refine ⟨?_, ?_, ?_, ?_, ?_, ?_⟩ <;> intros <;> (first | unfold r_CheckFlow.j0 | unfold r_CheckFlow.l0 | unfold r_CheckFlow.j2 | unfold r_CheckFlow.l1 | unfold r_CheckFlow.l2 | unfold r_CheckFlow.j5) <;> repeat' first | (with_reducible first | exact ih0 _ _ _ _ _ _ | exact ih1 _ _ _ _ _ _ | exact ih2 _ _ _ _ _ _ _ | exact ih3 _ _ _ _ _ _ | exact ih4 _ _ _ _ _ _ _ _ | exact ih5 _ _ _ _ _ _ _ _ | exact r_Check.mono _ _ _ | exact r_Cost.mono _ _ _ _ | exact r_Weights.mono _ _ _ _ | exact LeO.refl _ | exact LeO.none _ | refine LeO.ite ?_ ?_ | refine LeO.bind ?_ (fun _ => ?_))
theorem r_CheckFlow.mono : ∀ a0 a1 a2 a3 a4 k, LeO (r_CheckFlow.f k a0 a1 a2 a3 a4) (r_CheckFlow.f (k + 1) a0 a1 a2 a3 a4) := by
 intro a0 a1 a2 a3 a4 k; obtain ⟨ih0, ih1, ih2, ih3, ih4, ih5⟩ := r_CheckFlow.mono_l k; unfold r_CheckFlow.f; repeat' first | (with_reducible first | exact ih0 _ _ _ _ _ _ | exact ih1 _ _ _ _ _ _ | exact ih2 _ _ _ _ _ _ _ | exact ih3 _ _ _ _ _ _ | exact ih4 _ _ _ _ _ _ _ _ | exact ih5 _ _ _ _ _ _ _ _ | exact r_Check.mono _ _ _ | exact r_Cost.mono _ _ _ _ | exact r_Weights.mono _ _ _ _ | exact LeO.refl _ | exact LeO.none _ | refine LeO.ite ?_ ?_ | refine LeO.bind ?_ (fun _ => ?_))
set_option maxHeartbeats 8000000
set_option maxRecDepth 100000
theorem r_CheckFlow.calls (k : Nat) (ae : Int) (ag : Option Addr) (af : Nat) (ac : List (S39)) (A1 : Option Addr) (c1 : Nat) (l1 : List Int) (a2 : Int) (A3 : Option Addr) (c3 : Nat) (l3 : List Int) (r : Int) (w : World) (aA : Kd.C k39 w ag ac.length ac) (aC : ac.length <= af) (hr1 : Kd.C (Kd.int .i64) w A1 l1.length l1) (hc1 : l1.length <= c1) (hr3 : Kd.C (Kd.int .i64) w A3 l3.length l3) (hc3 : l3.length <= c3) (h : r_CheckFlow.f k ae ac l1 a2 l3 = some r) :
  Calls Try.prog 50 #[.agg #[.int .i64 ae, .slice ag ac.length af], .slice A1 l1.length c1, .int .i64 a2, .slice A3 l3.length c3] w fun e w' => e = .returned (.int .i64 r) /\ Below w.heap.size w w' := by
 have ja := Try.underlying24; have ah := Z_ aA; have ai := Z_ aC; clear aA aC; have HR1 := Z_ hr1; have HC1 := Z_ hc1; clear hr1 hc1; have HR3 := Z_ hr3; have HC3 := Z_ hc3; clear hr3 hc3; have HB := Z_ (Below.refl w.heap.size w); have H : ((r_Check.f k ae ac).bind fun an3 => (if an3 = 0 then ((r_Weights.f k ae ac l1).bind fun apz => (if apz = true then (r_CheckFlow.j0 k l1 a2 l3 ((l3.length : Int) != (ac.length : Int)) ae ac) else (r_CheckFlow.j0 k l1 a2 l3 true ae ac))) else (some 40))) = some r := h; clear h; obtain ⟨an3, A5, H⟩ := oZ_ H; have HF6 := Z_ H; clear H; go_enter Try.func50, Try.ntmps50; go_upto_if 15 with (first | ((with_reducible refine gate_dst (N := 4) rfl ?_); (try (refine gate_guard (by rfl) ?_; dsimp only)); refine bX_ 4 #[.int .i64 ae, .slice ag ac.length af] 24 ?_; intro Qi hg w7 hbox hb; have ny := Z_ (hbox); have bcr := Z_ ((by rw [hg]; exact (fZ_ hB_) : w.heap.size <= Qi)); have bdS := Z_ ((by rw [hg]; exact (fZ_ hB_) : w.heap.size <= Qi)); replace HB := Z_ (fS_ hB_ hb); clear hb hbox hg; obtain ⟨⟨AR, AQ⟩, AP, AO⟩ := f2_ ny.out) | ((with_reducible refine gate_callee (f := 22) rfl ?_); refine gL_ (some 14) Try.func22 #[.agg #[.int .i64 ae, .slice ag ac.length af]] ?_; (with_reducible refine (r_Check.calls k ae _ _ ac an3 _ ?side1 ?side2 A5.out).mono ?_); (case side1 => exact cS_ (cB_ ah.out HB.out)); (case side2 => exact ai.out); rintro e w9 ⟨rfl, hb⟩; refine ⟨_, rfl, ?_⟩; replace ny := Z_ (bS_ ny.out hb); replace HB := Z_ (fS_ hB_ hb); (try clear hb))); (try simp only [Act.put, sT_, sZ_, sS_])
 have H := HF6.out; clear HF6; by_cases c10 : an3 = 0
 .rw [if_pos c10] at H
  obtain ⟨jC, FJ⟩ := be_ c10; clear c10; (try rw [jC])
  have WM := Z_ H; clear H; go_upto_region 3 with (fail); go_cut [27] (fun v27 wc => ∃ (kq : Nat) (Z0 : Bool), v27 = .bool Z0 /\ Aside0 (r_CheckFlow.j0 kq l1 a2 l3 Z0 ae ac = some r) /\ Aside0 (kq <= k) /\ Aside0 (wc.heap[Qi]? = some (.cells #[.int .i64 ae, (.slice ag ac.length af)] 24 (0, 0))) /\ Aside0 (Below w.heap.size w wc))
  case first =>
   have H := WM.out; clear WM; obtain ⟨apz, A12, H⟩ := oZ_ H; by_cases c13 : apz = true
   .subst c13
    rw [if_pos rfl] at H; have H' := Z_ H; clear H; obtain ⟨⟨lQ, lP⟩, lM, lL⟩ := f2_ ny.out; go_wp2_with (first | ((with_reducible refine gate_callee (f := 101) rfl ?_); refine gL_ (some 18) Try.func101 #[.agg #[.int .i64 ae, .slice ag ac.length af], .slice A1 l1.length c1] ?_; (with_reducible refine (r_Weights.calls k ae _ _ ac _ _ l1 true _ ?side1 ?side2 ?side3 ?side4 A12.out).mono ?_); (case side1 => exact cS_ (cB_ ah.out HB.out)); (case side2 => exact ai.out); (case side3 => exact cS_ (cB_ HR1.out HB.out)); (case side4 => exact HC1.out); rintro e w15 ⟨rfl, hb⟩; refine ⟨_, rfl, ?_⟩; replace ny := Z_ (bS_ ny.out hb); replace HB := Z_ (fS_ hB_ hb); (try clear hb); obtain ⟨⟨gG, gE⟩, gB, gA⟩ := f2_ ny.out)); go_meet
    case rel => exact ⟨_, (((l3.length : Int) != (ac.length : Int))), rf_, H', ⟨oL_⟩, ⟨bR_ ny.out⟩, ⟨hB_⟩⟩
   replace c13 := bE_.mpr c13; subst c13; have H1 : (r_CheckFlow.j0 k l1 a2 l3 true ae ac) = some r := by rw [if_neg (show ¬ (false = true) by decide)] at H; exact H
   clear H; have H := H1; clear H1; have H' := Z_ H; clear H; obtain ⟨⟨fM, fK⟩, fJ, fI⟩ := f2_ ny.out; go_wp2_with (first | ((with_reducible refine gate_callee (f := 101) rfl ?_); refine gL_ (some 18) Try.func101 #[.agg #[.int .i64 ae, .slice ag ac.length af], .slice A1 l1.length c1] ?_; (with_reducible refine (r_Weights.calls k ae _ _ ac _ _ l1 false _ ?side1 ?side2 ?side3 ?side4 A12.out).mono ?_); (case side1 => exact cS_ (cB_ ah.out HB.out)); (case side2 => exact ai.out); (case side3 => exact cS_ (cB_ HR1.out HB.out)); (case side4 => exact HC1.out); rintro e w18 ⟨rfl, hb⟩; refine ⟨_, rfl, ?_⟩; replace ny := Z_ (bS_ ny.out hb); replace HB := Z_ (fS_ hB_ hb); (try clear hb))); go_meet
   case rel => exact ⟨_, (true), rf_, H', ⟨oL_⟩, ⟨bR_ ny.out⟩, ⟨hB_⟩⟩
  case rest =>
   clear WM; obtain ⟨kq, Z0, rfl, HA, IR, ny, HB⟩ := hcut
   cases kq with
   | zero => exact absurd HA.out (by simp [r_CheckFlow.j0])
   | succ n3 =>
    have H := HA.out; clear HA; simp only [r_CheckFlow.j0] at H; by_cases c19 : Z0 = true
    .subst c19
     rw [if_pos rfl] at H; obtain rfl := oI_ H; go_wp2; go_ret; exact ⟨eW_, hB_⟩
    replace c19 := bE_.mpr c19; subst c19; have H1 : (r_CheckFlow.l0 n3 l1 a2 l3 0 ae ac) = some r := by rw [if_neg (show ¬ (false = true) by decide)] at H; exact H
    clear H; have H := H1; clear H1; have H' := Z_ H; clear H; go_wp2; go_loopg [9] n3 (fun kq v9 w' => ∃ (iI : Int), v9 = .int .i64 iI /\ Aside0 (r_CheckFlow.l0 kq l1 a2 l3 iI ae ac = some r) /\ Aside0 (kq <= n3) /\ Aside0 (w'.heap[Qi]? = some (.cells #[.int .i64 ae, (.slice ag ac.length af)] 24 (0, 0))) /\ Aside0 (Below w.heap.size w w'))
    case atStart => exact ⟨(0), rf_, H', ⟨nR_ _⟩, ⟨bR_ ny.out⟩, ⟨hB_⟩⟩
    case round =>
     clear H'; obtain ⟨iI, rfl, HA, HK2, ny, HB⟩ := hrel
     cases gk with
     | zero => exact absurd HA.out (by simp [r_CheckFlow.l0])
     | succ k2 =>
      have H := HA.out; clear HA; simp only [r_CheckFlow.l0] at H; by_cases c20 : iI < (l3.length : Int)
      .rw [if_pos c20] at H
       replace c20 := eT_ c20; have WK := Z_ H; clear H; go_upto_region 8 with (fail); go_cut [45] (fun v45 wc => ∃ (kq : Nat) (ZM : Bool), v45 = .bool ZM /\ Aside0 (r_CheckFlow.j2 kq l1 a2 l3 iI ZM ae ac = some r) /\ Aside0 (kq <= k2) /\ Aside0 (wc.heap[Qi]? = some (.cells #[.int .i64 ae, (.slice ag ac.length af)] 24 (0, 0))) /\ Aside0 (Below w.heap.size w wc))
       case first =>
        have H := WK.out; clear WK; by_cases c22 : 0 <= iI
        .rw [if_pos c22] at H
         replace c22 := eT_ c22; (try rw [c22])
         by_cases c23 : (rd l3 iI) < 0
         .rw [if_pos c23] at H
          replace c23 := eT_ c23; have H' := Z_ H; clear H; have ah0 : 0 <= (iI : Int) := dT_ as_; have ahC : iI < (l3.length : Int) := dT_ as_; obtain ⟨aC2, aIT, M9⟩ := Kd.at_int HR3.out iI ah0 ahC; cases aIT
          replace M9 := pw_cell_below HB.out M9; replace ah0 := eq_true ah0; replace ahC := eq_true ahC; go_wp2; go_meet
          case rel => exact ⟨_, (true), rf_, H', ⟨by have := IR.out; have := HK2.out; first | omega | exact nR_ _⟩, ⟨bR_ ny.out⟩, ⟨hB_⟩⟩
         rw [if_neg c23] at H; replace c23 := eF_ c23; have H' := Z_ H; clear H; have ah0 : 0 <= (iI : Int) := dT_ as_; have ahC : iI < (l3.length : Int) := dT_ as_; obtain ⟨aC2, aIT, M9⟩ := Kd.at_int HR3.out iI ah0 ahC; cases aIT
         replace M9 := pw_cell_below HB.out M9; replace ah0 := eq_true ah0; replace ahC := eq_true ahC; have aGy : 0 <= (iI : Int) := dT_ as_; have aFt : iI < (l3.length : Int) := dT_ as_; obtain ⟨aVr, a7m, akQ⟩ := Kd.at_int HR3.out iI aGy aFt; obtain rfl : aC2 = aVr := (by injection a7m); replace akQ := pw_cell_below HB.out akQ; replace aGy := eq_true aGy; replace aFt := eq_true aFt; go_wp2; go_meet
         case rel => exact ⟨_, (decide ((rd l3 iI) > 1048576)), rf_, H', ⟨by have := IR.out; have := HK2.out; first | omega | exact nR_ _⟩, ⟨bR_ ny.out⟩, ⟨hB_⟩⟩
        exact nN_ c22 H
       case rest =>
        clear WK; obtain ⟨kq, ZM, rfl, HA, ape, ny, HB⟩ := hcut
        cases kq with
        | zero => exact absurd HA.out (by simp [r_CheckFlow.j2])
        | succ Aa =>
         have H := HA.out; clear HA; simp only [r_CheckFlow.j2] at H; by_cases c24 : ZM = true
         .subst c24
          rw [if_pos rfl] at H; obtain rfl := oI_ H; go_wp2; go_ret; exact ⟨eW_, hB_⟩
         replace c24 := bE_.mpr c24; subst c24; have H1 : (r_CheckFlow.l0 Aa l1 a2 l3 (wrap64 (iI + 1)) ae ac) = some r := by rw [if_neg (show ¬ (false = true) by decide)] at H; exact H
         clear H; have H := H1; clear H1; have H' := Z_ H; clear H; go_wp2; go_roundg Aa
         case measure => have := IR.out; have := HK2.out; have := ape.out; omega
         case rel => exact ⟨(wrap64 (iI + 1)), rf_, H', ⟨by have := IR.out; have := HK2.out; have := ape.out; omega⟩, ⟨bR_ ny.out⟩, ⟨hB_⟩⟩
      rw [if_neg c20] at H; replace c20 := eF_ c20; have H' := Z_ H; clear H; go_wp2; go_loopg [10] k2 (fun kq v10 w' => ∃ (ax : Int), v10 = .int .i64 ax /\ Aside0 (r_CheckFlow.l1 kq l1 a2 l3 ax ae ac = some r) /\ Aside0 (kq <= k2) /\ Aside0 (w'.heap[Qi]? = some (.cells #[.int .i64 ae, (.slice ag ac.length af)] 24 (0, 0))) /\ Aside0 (Below w.heap.size w w'))
      case atStart => exact ⟨(1), rf_, H', ⟨nR_ _⟩, ⟨bR_ ny.out⟩, ⟨hB_⟩⟩
      case round =>
       clear H'; obtain ⟨ax, rfl, HA, HK3, ny, HB⟩ := hrel
       cases gk with
       | zero => exact absurd HA.out (by simp [r_CheckFlow.l1])
       | succ k3 =>
        have H := HA.out; clear HA; simp only [r_CheckFlow.l1] at H; by_cases c25 : ax < ae
        .rw [if_pos c25] at H
         replace c25 := eT_ c25; have H' := Z_ H; clear H; obtain ⟨⟨oh, og⟩, oc, ob⟩ := f2_ ny.out; go_wp2; go_loopg [11, 12] k3 (fun kq v11 v12 w' => ∃ (XD : Int) (pr : Int), v11 = .int .i64 XD /\ v12 = .int .i64 pr /\ Aside0 (r_CheckFlow.l2 kq l1 a2 l3 ax XD pr ae ac = some r) /\ Aside0 (kq <= k3) /\ Aside0 (w'.heap[Qi]? = some (.cells #[.int .i64 ae, (.slice ag ac.length af)] 24 (0, 0))) /\ Aside0 (Below w.heap.size w w'))
         case atStart => exact ⟨(0), (0), rf_, rf_, H', ⟨nR_ _⟩, ⟨bR_ ny.out⟩, ⟨hB_⟩⟩
         case round =>
          clear H'; obtain ⟨XD, pr, rfl, rfl, HA, HK4, ny, HB⟩ := hrel
          cases gk with
          | zero => exact absurd HA.out (by simp [r_CheckFlow.l2])
          | succ k4 =>
           have H := HA.out; clear HA; simp only [r_CheckFlow.l2] at H; by_cases c27 : pr < (l3.length : Int)
           .rw [if_pos c27] at H
            replace c27 := eT_ c27; by_cases c28 : 0 <= pr
            .rw [if_pos c28] at H
             replace c28 := eT_ c28; by_cases c29 : pr < (ac.length : Int)
             .rw [if_pos c29] at H
              replace c29 := eT_ c29; have aKK := Z_ H; clear H; obtain ⟨⟨jr, jq⟩, jp, jo⟩ := f2_ ny.out; have aGx : 0 <= (pr : Int) := dT_ as_; have aFs : pr < (ac.length : Int) := dT_ as_; obtain ⟨awo, a7l, akP, akO, akN⟩ := at_T39 ah.out pr aGx aFs; cases a7l
              replace akP := pw_cell_below HB.out akP; replace akO := pw_cell_below HB.out akO; replace akN := pw_cell_below HB.out akN; replace aGx := eq_true aGx; replace aFs := eq_true aFs; go_upto_if 65 with (fail); go_cut [11] (fun v11 wc => ∃ (kq : Nat) (Tu : Int), v11 = .int .i64 Tu /\ Aside0 (r_CheckFlow.j5 kq l1 a2 l3 ax Tu pr ae ac = some r) /\ Aside0 (kq <= k4) /\ Aside0 (wc.heap[Qi]? = some (.cells #[.int .i64 ae, (.slice (some awo) ac.length af)] 24 (0, 0))) /\ Aside0 (Below w.heap.size w wc))
              case first =>
               have H := aKK.out; clear aKK; by_cases c32 : ((rT39 ac pr).f1) = ax
               .rw [if_pos c32] at H
                obtain ⟨FF, av3⟩ := be_ c32; clear c32; (try rw [FF])
                have H' := Z_ H; clear H; have aGw : 0 <= (pr : Int) := dT_ as_; have aFr : pr < (l3.length : Int) := dT_ as_; obtain ⟨bbV, a7k, akM⟩ := Kd.at_int HR3.out pr aGw aFr; cases a7k
                replace akM := pw_cell_below HB.out akM; replace aGw := eq_true aGw; replace aFr := eq_true aFr; go_wp2; go_meet
                case rel => exact ⟨_, (wrap64 (XD + (rd l3 pr))), rf_, H', ⟨by have := IR.out; have := HK2.out; have := HK3.out; have := HK4.out; first | omega | exact nR_ _⟩, ⟨bR_ ny.out⟩, ⟨hB_⟩⟩
               rw [if_neg c32] at H; obtain ⟨FF, av3⟩ := bn_ c32; (try rw [FF])
               have H' := Z_ H; clear H; go_wp2; go_meet
               case rel => exact ⟨_, (XD), rf_, H', ⟨by have := IR.out; have := HK2.out; have := HK3.out; have := HK4.out; first | omega | exact nR_ _⟩, ⟨bR_ ny.out⟩, ⟨hB_⟩⟩
              case rest =>
               clear aKK; obtain ⟨kq, Tu, rfl, HA, aBd, ny, HB⟩ := hcut
               cases kq with
               | zero => exact absurd HA.out (by simp [r_CheckFlow.j5])
               | succ aL9 =>
                have H := HA.out; clear HA; simp only [r_CheckFlow.j5] at H; by_cases c33 : 0 <= pr
                .rw [if_pos c33] at H
                 replace c33 := eT_ c33; by_cases c34 : pr < (ac.length : Int)
                 .rw [if_pos c34] at H
                  replace c34 := eT_ c34; by_cases c35 : ((rT39 ac pr).f0) = ax
                  .rw [if_pos c35] at H
                   obtain ⟨LK, aU1⟩ := be_ c35; clear c35; by_cases c36 : pr < (l3.length : Int)
                   .rw [if_pos c36] at H
                    replace c36 := eT_ c36; have H' := Z_ H; clear H; obtain ⟨⟨oe, od⟩, oa, n9⟩ := f2_ ny.out; have ahZ : 0 <= (pr : Int) := dT_ as_; have ahB : pr < (ac.length : Int) := dT_ as_; obtain ⟨awn, aIS, M8, M7, M6⟩ := at_T39 ah.out pr ahZ ahB; obtain rfl : awo = awn := (by injection aIS); replace M8 := pw_cell_below HB.out M8; replace M7 := pw_cell_below HB.out M7; replace M6 := pw_cell_below HB.out M6; replace ahZ := eq_true ahZ; replace ahB := eq_true ahB; have aGv : 0 <= (pr : Int) := dT_ as_; have aFq : pr < (l3.length : Int) := dT_ as_; obtain ⟨bbU, a7j, akL⟩ := Kd.at_int HR3.out pr aGv aFq; cases a7j
                    replace akL := pw_cell_below HB.out akL; replace aGv := eq_true aGv; replace aFq := eq_true aFq; go_wp2; go_roundg aL9
                    case measure => have := IR.out; have := HK2.out; have := HK3.out; have := HK4.out; have := aBd.out; omega
                    case rel => exact ⟨(wrap64 (Tu - (rd l3 pr))), (wrap64 (pr + 1)), rf_, rf_, H', ⟨by have := IR.out; have := HK2.out; have := HK3.out; have := HK4.out; have := aBd.out; omega⟩, ⟨bR_ ny.out⟩, ⟨hB_⟩⟩
                   exact nN_ c36 H
                  rw [if_neg c35] at H; obtain ⟨LK, aU1⟩ := bn_ c35; have H' := Z_ H; clear H; obtain ⟨⟨uy, ux⟩, uo, un⟩ := f2_ ny.out; have ahZ : 0 <= (pr : Int) := dT_ as_; have ahB : pr < (ac.length : Int) := dT_ as_; obtain ⟨awn, aIS, M8, M7, M6⟩ := at_T39 ah.out pr ahZ ahB; obtain rfl : awo = awn := (by injection aIS); replace M8 := pw_cell_below HB.out M8; replace M7 := pw_cell_below HB.out M7; replace M6 := pw_cell_below HB.out M6; replace ahZ := eq_true ahZ; replace ahB := eq_true ahB; go_wp2; go_roundg aL9
                  case measure => have := IR.out; have := HK2.out; have := HK3.out; have := HK4.out; have := aBd.out; omega
                  case rel => exact ⟨(Tu), (wrap64 (pr + 1)), rf_, rf_, H', ⟨by have := IR.out; have := HK2.out; have := HK3.out; have := HK4.out; have := aBd.out; omega⟩, ⟨bR_ ny.out⟩, ⟨hB_⟩⟩
                 exact nN_ c34 H
                exact nN_ c33 H
             exact nN_ c29 H
            exact nN_ c28 H
           rw [if_neg c27] at H; replace c27 := eF_ c27; by_cases c39 : 0 <= ax
           .rw [if_pos c39] at H
            replace c39 := eT_ c39; by_cases c40 : ax < (l1.length : Int)
            .rw [if_pos c40] at H
             replace c40 := eT_ c40; by_cases c41 : XD = (rd l1 ax)
             .rw [if_pos c41] at H
              obtain ⟨uD, FE⟩ := be_ c41; clear c41; have H' := Z_ H; clear H; have ahY : 0 <= (ax : Int) := dT_ as_; have ahA : ax < (l1.length : Int) := dT_ as_; obtain ⟨aVq, aIR, M5⟩ := Kd.at_int HR1.out ax ahY ahA; cases aIR
              replace M5 := pw_cell_below HB.out M5; replace ahY := eq_true ahY; replace ahA := eq_true ahA; go_wp2; go_roundg k4
              case measure => have := IR.out; have := HK2.out; have := HK3.out; have := HK4.out; omega
              case rel => exact ⟨(wrap64 (ax + 1)), rf_, H', ⟨by have := IR.out; have := HK2.out; have := HK3.out; have := HK4.out; omega⟩, ⟨bR_ ny.out⟩, ⟨hB_⟩⟩
             rw [if_neg c41] at H; obtain ⟨uD, FE⟩ := bn_ c41; obtain rfl := oI_ H; have ahY : 0 <= (ax : Int) := dT_ as_; have ahA : ax < (l1.length : Int) := dT_ as_; obtain ⟨aVq, aIR, M5⟩ := Kd.at_int HR1.out ax ahY ahA; cases aIR
             replace M5 := pw_cell_below HB.out M5; replace ahY := eq_true ahY; replace ahA := eq_true ahA; go_wp2; go_ret; exact ⟨eW_, hB_⟩
            exact nN_ c40 H
           exact nN_ c39 H
        rw [if_neg c25] at H; replace c25 := eF_ c25; obtain ⟨an2, A42, H⟩ := oZ_ H; have aXF := Z_ H; clear H; obtain ⟨⟨pN, pM⟩, pL, pK⟩ := f2_ ny.out; go_upto_if 96 with (first | ((with_reducible refine gate_callee (f := 102) rfl ?_); refine gL_ (some 94) Try.func102 #[.agg #[.int .i64 ae, .slice ag ac.length af], .slice A3 l3.length c3] ?_; (with_reducible refine (r_Cost.calls k3 ae _ _ ac _ _ l3 an2 _ ?side1 ?side2 ?side3 ?side4 A42.out).mono ?_); (case side1 => exact cS_ (cB_ ah.out HB.out)); (case side2 => exact ai.out); (case side3 => exact cS_ (cB_ HR3.out HB.out)); (case side4 => exact HC3.out); rintro e w45 ⟨rfl, hb⟩; refine ⟨_, rfl, ?_⟩; replace ny := Z_ (bS_ ny.out hb); replace HB := Z_ (fS_ hB_ hb); (try clear hb))); (try simp only [Act.put, sT_, sZ_, sS_])
        have H := aXF.out; clear aXF; by_cases c46 : an2 > a2
        .rw [if_pos c46] at H
         replace c46 : decide (a2 < an2) = true := eT_ c46; (try rw [c46])
         obtain rfl := oI_ H; go_wp2; go_ret; exact ⟨eW_, hB_⟩
        rw [if_neg c46] at H; replace c46 : decide (a2 < an2) = false := eF_ c46; (try rw [c46])
        obtain rfl := oI_ H; go_wp2; go_ret; exact ⟨eW_, hB_⟩
 rw [if_neg c10] at H; obtain ⟨jC, FJ⟩ := bn_ c10; (try rw [jC])
 obtain rfl := oI_ H; go_wp2; go_ret; exact ⟨eW_, hB_⟩
end Go.Proofs.Ytpolojoeabmhdaa.A
/- The reference: Weights, Cost, CheckFlow. -/
namespace Go.Proofs.Ytpolojoeabmhdaa.A
open Go.RowKit Go.Proofs.YtpolojoeabmhdaaW.PrintWords Go.Proofs.YtpolojoeabmhdaaW.PrintLast Go.Proofs.YtpolojoeabmhdaaW.PrintMore
theorem rweights_l0 (x : List Int) (hl : x.length <= 65536) : ∀ (q : Nat) (i : Int), (q : Int) + i = x.length -> 0 <= i -> (∀ v, 0 <= v -> v < i -> -4096 <= rd x v /\ rd x v <= 4096) ->
  ∃ b, Ev (fun k => r_Weights.l0 k x i) b /\ (b = true <-> ∀ v, 0 <= v -> v < (x.length : Int) -> -4096 <= rd x v /\ rd x v <= 4096) := by
 intro q
 induction q with
 | zero =>
  intro i hq h0 hb
  exact ⟨true, Ev.step (f := fun _ => some true) (fun k => by rw [r_Weights.l0, if_neg (by omega)]) (Ev.now _), fun _ v v0 v1 => hb v v0 (by omega), fun _ => rfl⟩
 | succ q ih =>
  intro i hq h0 hb
  have hlt : i < (x.length : Int) := by omega
  have hT : Ev (fun k => r_Weights.j1 k x i true) false := Ev.step (f := fun _ => some false) (fun k => by rw [r_Weights.j1]; rfl) (Ev.now _)
  by_cases c1 : rd x i < -4096
  .exact ⟨false, Ev.step (f := fun k => r_Weights.j1 k x i true) (fun k => by rw [r_Weights.l0, if_pos hlt, if_pos h0, if_pos c1]) hT, fun h => (by cases h), fun h => by have := h i h0 hlt; omega⟩
  have hin : ∀ {b}, Ev (fun k => r_Weights.j1 k x i (decide (rd x i > 4096))) b -> Ev (fun k => r_Weights.l0 k x i) b := fun h =>
   Ev.step (fun k => by rw [r_Weights.l0, if_pos hlt, if_pos h0, if_neg c1]) h
  by_cases c2 : rd x i > 4096
  .rw [decide_eq_true c2] at hin
   exact ⟨false, hin hT, fun h => (by cases h), fun h => by have := h i h0 hlt; omega⟩
  rw [decide_eq_false c2] at hin
  obtain ⟨b, g1, g2⟩ := ih (i + 1) (by omega) (by omega) (fun v v0 v1 => by
   by_cases e : v = i
   .rw [e]; omega
   .exact hb v v0 (by omega))
  exact ⟨b, hin (Ev.step (f := fun k => r_Weights.l0 k x (i + 1)) (fun k => by rw [r_Weights.j1, if_neg (by decide), wrap_id (x := i + 1) (by omega) (by omega)]) g1), g2⟩
theorem rweights_ev (n : Int) (hn : n <= 256) (N : List S39) (x : List Int) : ∃ b, Ev (fun k => r_Weights.f k n N x) b /\ (b = true <-> Weighty n x) := by
 unfold r_Weights.f
 by_cases c : (x.length : Int) = n
 .obtain ⟨b, g1, g2⟩ := rweights_l0 x (by omega) x.length 0 (by omega) (by omega) (fun v a b => by omega)
  exact ⟨b, Ev.pos c g1, fun h => ⟨c, fun v v0 v1 => (g2.1 h) v v0 (by omega)⟩, fun h => g2.2 (fun v v0 v1 => h.b v v0 (by omega))⟩
 .exact ⟨false, Ev.neg c (Ev.now _), fun h => (by cases h), fun h => absurd h.l c⟩
section
variable {n : Nat} {D : List S39} {w F : List Int}
theorem rcost_l0 {N : Int} (m : Int) (D : List S39) (F : List Int) (hE : EdgesOk N D) (hl : F.length = D.length) (hD : D.length <= 4096) (hF : ∀ k, 0 <= k -> k < (D.length : Int) -> 0 <= rd F k /\ rd F k <= 1048576) : ∀ (q : Nat) (i acc : Int), (q : Int) + i = D.length -> 0 <= i -> -(i * 1125899906842624) <= acc -> acc <= i * 1125899906842624 ->
  Ev (fun k => r_Cost.l0 k F acc i m D) (acc + costF (D.drop i.toNat) (F.drop i.toNat)) := by
 intro q
 induction q with
 | zero =>
  intro i acc hq hi h1 h2
  refine Ev.step (f := fun _ => some acc) (fun k => by rw [r_Cost.l0, if_neg (by omega)]) ?_
  rw [List.drop_eq_nil_of_le (by omega)]
  simp only [costF, Int.add_zero]
  exact Ev.now _
 | succ q ih =>
  intro i acc hq hi h1 h2
  have hlt : i < (D.length : Int) := by omega
  have he := hE i hi hlt
  have e1 := he.e
  have e2 := he.f
  obtain ⟨f0, f1⟩ := hF i hi hlt
  have key : ∀ p r : Int, 0 <= p -> p <= 1048576 -> 0 <= r -> r <= 1073741824 -> 0 <= p * r /\ p * r <= 1125899906842624 := fun p r p0 p1 r0 r1 => ⟨Int.mul_nonneg p0 r0, Int.mul_le_mul p1 r1 r0 (by omega)⟩
  have bp : -1125899906842624 <= rd F i * (rT39 D i).f2 /\ rd F i * (rT39 D i).f2 <= 1125899906842624 := by
   by_cases hp : 0 <= (rT39 D i).f2
   .have := key _ _ f0 f1 hp e2; omega
   .have := key (rd F i) (-(rT39 D i).f2) f0 f1 (by omega) (by omega)
    rw [Int.mul_neg] at this; omega
  have g := ih (i + 1) (acc + rd F i * (rT39 D i).f2) (by omega) (by omega) (by omega) (by omega)
  have d2 : F.drop i.toNat = rd F i :: F.drop (i + 1).toNat := drop_rd F i hi (by omega)
  rw [rT39_drop D i hi hlt, d2, costF, <- Int.add_assoc]
  refine Ev.step (fun k => ?_) g
  rw [r_Cost.l0, if_pos (by omega), if_pos hi, if_pos hlt, wrap_id (x := rd F i * _) (by omega) (by omega), wrap_id (by omega) (by omega), wrap_id (x := i + 1) (by omega) (by omega)]
theorem rcost_ev {N : Int} (hE : EdgesOk N D) (hl : F.length = D.length) (hD : D.length <= 4096) (hF : ∀ k, 0 <= k -> k < (D.length : Int) -> 0 <= rd F k /\ rd F k <= 1048576) (m : Int) : Ev (fun k => r_Cost.f k m D F) (costF D F) := by
 have := rcost_l0 m D F hE hl hD hF D.length 0 0 (by omega) (by omega) (by omega) (by omega)
 rw [Int.zero_add] at this
 exact this
theorem rcf_l2 (hV : Valid n D) (hl : F.length = D.length) (hF : ∀ k, 0 <= k -> k < (D.length : Int) -> 0 <= rd F k /\ rd F k <= 1048576) (a : Int) {v : Int} {r : Int} (hgo : Ev (fun k => if 0 <= v then (if v < (w.length : Int) then (if netF D F v = (rd w v) then (r_CheckFlow.l1 k w a F (wrap64 (v + 1)) n D) else (some 43)) else (none)) else (none)) r) : ∀ (q : Nat) (i s : Int), (q : Int) + i = D.length -> 0 <= i -> s = netF (D.take i.toNat) (F.take i.toNat) v -> -(i * 1048576) <= s -> s <= i * 1048576 ->
  Ev (fun k => r_CheckFlow.l2 k w a F v s i n D) r := by
 have hD := hV.l
 intro q
 induction q with
 | zero =>
  intro i s hq hi hs h1 h2
  rw [List.take_of_length_le (by omega), List.take_of_length_le (by omega)] at hs
  subst hs
  exact Ev.step (fun k => by rw [r_CheckFlow.l2, if_neg (by omega)]) hgo
 | succ q ih =>
  intro i s hq hi hs h1 h2
  have hlt : i < (D.length : Int) := by omega
  obtain ⟨f0, f1⟩ := hF i hi hlt
  have hT := netF_take hl hi hlt v
  rw [<- hs] at hT
  have hstep : ∀ s', s' = s + (if (rT39 D i).f1 = v then rd F i else 0) -> Ev (fun k => r_CheckFlow.j5 k w a F v s' i n D) r -> Ev (fun k => r_CheckFlow.l2 k w a F v s i n D) r := fun s' hs' h => by
   by_cases e : (rT39 D i).f1 = v
   .rw [if_pos e] at hs'
    subst hs'
    exact Ev.step (fun k => by rw [r_CheckFlow.l2, if_pos (by omega), if_pos hi, if_pos hlt, if_pos e, wrap_id (by omega) (by omega)]) h
   .rw [if_neg e, Int.add_zero] at hs'
    subst hs'
    exact Ev.step (fun k => by rw [r_CheckFlow.l2, if_pos (by omega), if_pos hi, if_pos hlt, if_neg e]) h
  refine hstep _ rfl ?_
  by_cases e : (rT39 D i).f0 = v
  .refine Ev.step (f := fun k => r_CheckFlow.l2 k w a F v (s + (if (rT39 D i).f1 = v then rd F i else 0) - rd F i) (i + 1) n D) (fun k => ?_) (ih (i + 1) _ (by omega) (by omega) ?_ ?_ ?_)
   .rw [r_CheckFlow.j5, if_pos hi, if_pos hlt, if_pos e, if_pos (by omega), wrap_id (x := i + 1) (by omega) (by omega), wrap_id (by split <;> omega) (by split <;> omega)]
   .rw [hT]; unfold ind; rw [if_pos e]; split <;> omega
   .split <;> omega
   .split <;> omega
  .refine Ev.step (f := fun k => r_CheckFlow.l2 k w a F v (s + (if (rT39 D i).f1 = v then rd F i else 0)) (i + 1) n D) (fun k => ?_) (ih (i + 1) _ (by omega) (by omega) ?_ ?_ ?_)
   .rw [r_CheckFlow.j5, if_pos hi, if_pos hlt, if_neg e, wrap_id (x := i + 1) (by omega) (by omega)]
   .rw [hT]; unfold ind; rw [if_neg e]; split <;> omega
   .split <;> omega
   .split <;> omega
theorem rcf_l1 (hV : Valid n D) (hw : Weighty n w) (hl : F.length = D.length) (hF : ∀ k, 0 <= k -> k < (D.length : Int) -> 0 <= rd F k /\ rd F k <= 1048576) (a : Int) : ∀ (q : Nat) (v : Int), (q : Int) + v = n -> 1 <= v -> (∀ u, 1 <= u -> u < v -> netF D F u = rd w u) ->
  ∃ e, Ev (fun k => r_CheckFlow.l1 k w a F v n D) e /\ (FlowIs n D w F a -> e = 0) /\ (¬ FlowIs n D w F a -> e = 43) := by
 have hD := hV.l
 have hn2 := hV.n2
 have hwl := hw.l
 intro q
 induction q with
 | zero =>
  intro v hq hv hb
  have hfe : Feas n D w F := ⟨hl, fun k k0 k1 => (hF k k0 k1).1, fun u u0 u1 => hb u u0 (by omega)⟩
  have hc := rcost_ev hV.e hl hD hF (n : Int)
  have hin : ∀ {e}, Ev (fun _ => if costF D F > a then some 43 else some 0) e -> Ev (fun k => r_CheckFlow.l1 k w a F v n D) e := fun h =>
   Ev.step (f := fun k => (r_Cost.f k n D F).bind fun t => if t > a then some 43 else some 0) (fun k => by rw [r_CheckFlow.l1, if_neg (by omega)]) (hc.bind h)
  by_cases c : costF D F > a
  .exact ⟨43, hin (Ev.pos c (Ev.now _)), fun h => by have := h.c; omega, fun _ => rfl⟩
  .exact ⟨0, hin (Ev.neg c (Ev.now _)), fun _ => rfl, fun h => absurd ⟨hw, hfe, fun k k0 k1 => (hF k k0 k1).2, by omega⟩ h⟩
 | succ q ih =>
  intro v hq hv hb
  have hgo : ∀ {r}, Ev (fun k => if 0 <= v then (if v < (w.length : Int) then (if netF D F v = (rd w v) then (r_CheckFlow.l1 k w a F (wrap64 (v + 1)) n D) else (some 43)) else (none)) else (none)) r -> Ev (fun k => r_CheckFlow.l1 k w a F v n D) r := fun h =>
   Ev.step (f := fun k => r_CheckFlow.l2 k w a F v 0 0 n D) (fun k => by rw [r_CheckFlow.l1, if_pos (by omega)]) (rcf_l2 hV hl hF a h D.length 0 0 (by omega) (by omega) (by simp [netF]) (by omega) (by omega))
  by_cases c : netF D F v = rd w v
  .obtain ⟨e, g1, g2⟩ := ih (v + 1) (by omega) (by omega) (fun u u0 u1 => by
    by_cases e : u = v
    .rw [e]; exact c
    .exact hb u u0 (by omega))
   refine ⟨e, hgo (Ev.pos (by omega) (Ev.pos (by omega) (Ev.pos c ?_))), g2⟩
   rw [wrap_id (x := v + 1) (by omega) (by omega)]
   exact g1
  .exact ⟨43, hgo (Ev.pos (by omega) (Ev.pos (by omega) (Ev.neg c (Ev.now _)))), fun h => absurd (h.f.bal v hv (by omega)) c, fun _ => rfl⟩
theorem rcf_l0 (hV : Valid n D) (hw : Weighty n w) (hl : F.length = D.length) (a : Int) : ∀ (q : Nat) (i : Int), (q : Int) + i = D.length -> 0 <= i -> (∀ k, 0 <= k -> k < i -> 0 <= rd F k /\ rd F k <= 1048576) ->
  ∃ e, Ev (fun k => r_CheckFlow.l0 k w a F i n D) e /\ (FlowIs n D w F a -> e = 0) /\ (FlowArg n D w F -> ¬ FlowIs n D w F a -> e = 43) /\ (¬ FlowArg n D w F -> e = 1) := by
 have hD := hV.l
 have hn1 := hV.n1
 intro q
 induction q with
 | zero =>
  intro i hq hi hb
  have hF : ∀ k, 0 <= k -> k < (D.length : Int) -> 0 <= rd F k /\ rd F k <= 1048576 := fun k k0 k1 => hb k k0 (by omega)
  obtain ⟨e, g1, g2, g3⟩ := rcf_l1 hV hw hl hF a (n - 1) 1 (by omega) (by omega) (fun u u0 u1 => by omega)
  exact ⟨e, Ev.step (fun k => by rw [r_CheckFlow.l0, if_neg (by omega)]) g1, g2, fun _ => g3, fun h => absurd ⟨hw, hl, hF⟩ h⟩
 | succ q ih =>
  intro i hq hi hb
  have hlt : i < (D.length : Int) := by omega
  have hT : Ev (fun k => r_CheckFlow.j2 k w a F i true n D) 1 := Ev.step (f := fun _ => some 1) (fun k => by rw [r_CheckFlow.j2]; rfl) (Ev.now _)
  have no : ¬ (0 <= rd F i /\ rd F i <= 1048576) -> (FlowIs n D w F a -> (1 : Int) = 0) /\ (FlowArg n D w F -> ¬ FlowIs n D w F a -> (1 : Int) = 43) /\ (¬ FlowArg n D w F -> (1 : Int) = 1) := fun h => ⟨fun h2 => absurd (h2.arg.b i hi hlt) h, fun h2 => absurd (h2.b i hi hlt) h, fun _ => rfl⟩
  by_cases c1 : rd F i < 0
  .exact ⟨1, Ev.step (f := fun k => r_CheckFlow.j2 k w a F i true n D) (fun k => by rw [r_CheckFlow.l0, if_pos (by omega), if_pos hi, if_pos c1]) hT, no (by omega)⟩
  have hin : ∀ {b}, Ev (fun k => r_CheckFlow.j2 k w a F i (decide (rd F i > 1048576)) n D) b -> Ev (fun k => r_CheckFlow.l0 k w a F i n D) b := fun h =>
   Ev.step (fun k => by rw [r_CheckFlow.l0, if_pos (by omega), if_pos hi, if_neg c1]) h
  by_cases c2 : rd F i > 1048576
  .rw [decide_eq_true c2] at hin
   exact ⟨1, hin hT, no (by omega)⟩
  rw [decide_eq_false c2] at hin
  obtain ⟨e, g1, g2⟩ := ih (i + 1) (by omega) (by omega) (fun k k0 k1 => by
   by_cases e : k = i
   .rw [e]; omega
   .exact hb k k0 (by omega))
  exact ⟨e, hin (Ev.step (f := fun k => r_CheckFlow.l0 k w a F (i + 1) n D) (fun k => by rw [r_CheckFlow.j2, if_neg (by decide), wrap_id (x := i + 1) (by omega) (by omega)]) g1), g2⟩
theorem rcflow_ev (hV : Valid n D) (w F : List Int) (a : Int) : ∃ e, Ev (fun k => r_CheckFlow.f k n D w a F) e /\ (FlowIs n D w F a -> e = 0) /\ (FlowArg n D w F -> ¬ FlowIs n D w F a -> e = 43) /\ (¬ FlowArg n D w F -> e = 1) := by
 have hn2 := hV.n2
 have hc := rcheck_ev n D
 rw [if_pos (validB_iff.2 hV)] at hc
 obtain ⟨p, p1, p2⟩ := rweights_ev n (by omega) D w
 have hT : Ev (fun k => r_CheckFlow.j0 k w a F true n D) 1 := Ev.step (f := fun _ => some 1) (fun k => by rw [r_CheckFlow.j0]; rfl) (Ev.now _)
 unfold r_CheckFlow.f
 cases p with
 | false =>
  have hno : ¬ Weighty n w := fun h => absurd (p2.2 h) (by decide)
  exact ⟨1, hc.bind (Ev.pos rfl (p1.bind (Ev.neg (by decide) hT))), fun h => absurd h.hw hno, fun h => absurd h.w hno, fun _ => rfl⟩
 | true =>
  have hw := p2.1 rfl
  by_cases hl : (F.length : Int) = (D.length : Int)
  .obtain ⟨e, g1, g2⟩ := rcf_l0 (F := F) hV hw (by omega) a D.length 0 (by omega) (by omega) (fun k a b => by omega)
   refine ⟨e, hc.bind (Ev.pos rfl (p1.bind (Ev.pos rfl ?_))), g2⟩
   rw [show ((F.length : Int) != (D.length : Int)) = false from bne_eq_false_iff_eq.mpr hl]
   exact Ev.step (fun k => by rw [r_CheckFlow.j0, if_neg (by decide)]) g1
  .have hno : ¬ FlowArg n D w F := fun h => hl (by rw [h.l])
   refine ⟨1, hc.bind (Ev.pos rfl (p1.bind (Ev.pos rfl ?_))), fun h => absurd h.arg hno, fun h => absurd h hno, fun _ => rfl⟩
   rw [show ((F.length : Int) != (D.length : Int)) = true from bne_iff_ne.mpr hl]
   exact hT
end
end Go.Proofs.Ytpolojoeabmhdaa.A
/- Rows of indices, walks, a list turned round. -/
namespace Go.Proofs.Ytpolojoeabmhdaa.A
open Go.RowKit Go.Proofs.YtpolojoeabmhdaaW.PrintWords Go.Proofs.YtpolojoeabmhdaaW.PrintLast Go.Proofs.YtpolojoeabmhdaaW.PrintMore
section
variable {n : Nat} {L : List S39}
def Idx (L : List S39) (l : List Int) : Prop := ∀ i, 0 <= i -> i < (l.length : Int) -> 0 <= rd l i /\ rd l i < (L.length : Int)
theorem Wk.unique : ∀ {l : List Int} {u v W W' : Int}, Wk L u l v W -> Wk L u l v W' -> W = W'
 | [], u, v, W, W', h, h' => by rw [h.2, h'.2]
 | i :: is, u, v, W, W', h, h' => by
  have := Wk.unique h.2.2 h'.2.2
  omega
end
structure Code (A P : Prop) (e : Int) : Prop where
 arg : ¬ A -> e = 1
 no : A -> ¬ P -> e = 43
 yes : A -> P -> e = 0
theorem Code.unique {A P : Prop} {e e' : Int} (h : Code A P e) (h' : Code A P e') : e = e' := by
 by_cases a : A
 .by_cases p : P
  .rw [h.yes a p, h'.yes a p]
  .rw [h.no a p, h'.no a p]
 .rw [h.arg a, h'.arg a]
theorem Code.zero {A P : Prop} {e : Int} (h : Code A P e) (hp : P -> A) : e = 0 <-> P := by
 constructor
 .intro he
  apply Classical.byContradiction
  intro p
  by_cases a : A
  .have := h.no a p; omega
  .have := h.arg a; omega
 .intro p
  exact h.yes (hp p) p
end Go.Proofs.Ytpolojoeabmhdaa.A
/- Clash and CheckClash: what they answer. -/
namespace Go.Proofs.Ytpolojoeabmhdaa.A
open Go.RowKit Go.Proofs.YtpolojoeabmhdaaW.PrintWords Go.Proofs.YtpolojoeabmhdaaW.PrintLast Go.Proofs.YtpolojoeabmhdaaW.PrintMore
theorem chain_snoc (L : List S39) (la : List Int) : ∀ (c : Nat) (v : Int), chain L la (c + 1) v = chain L la c v ++ [rd la (it L la c v)]
 | 0, v => rfl
 | c + 1, v => by
  rw [chain, chain_snoc L la c (bk L la v)]
  rfl
theorem it_succ (L : List S39) (la : List Int) (c : Nat) (v : Int) : it L la (c + 1) v = bk L la (it L la c v) := by
 rw [it_add L la c 1 v]; rfl
section
variable {n : Nat} {L : List S39}
abbrev st (L : List S39) (l : List Int) (i : Int) : Int := (rT39 L (rd l i)).f0
structure ClashIs (n : Nat) (L : List S39) (l : List Int) : Prop where
 i : Idx L l
 n0 : 0 < l.length
 n1 : (l.length : Int) <= n
 d : ∀ i j : Int, 0 <= i -> i < j -> j < l.length -> st L l i ≠ st L l j
 w : ∃ W, W < 0 /\ Wk L (st L l 0) l (st L l 0) W
theorem ClashIs.no {l : List Int} (h : ClashIs n L l) : ¬ Solv L := fun ⟨x, hx⟩ => by
 obtain ⟨W, w1, w2⟩ := h.w
 have := hx.walk w2
 omega
end
end Go.Proofs.Ytpolojoeabmhdaa.A
namespace Go.Proofs.Ytpolojoeabmhdaa.A
open Go.RowKit Go.Proofs.YtpolojoeabmhdaaW.PrintWords Go.Proofs.YtpolojoeabmhdaaW.PrintLast Go.Proofs.YtpolojoeabmhdaaW.PrintMore
attribute [local go_sem] max2_int min2_int max_two min_two max_three min_three max_four min_four
mutual
def r_residual.l0 : Nat -> List Int -> Int -> Int -> List (S39) -> Int -> List (S39) -> Option (Int × (List (S39)))
 | 0, _, _, _, _, _, _ => none
 | k + 1, x1, x6, Mm, vn, Kf, E1 => if x6 < (vn.length : Int) then (if 0 <= x6 then (if E1.length < 5864062014805 then (r_residual.l0 k x1 (wrap64 (x6 + 1)) Mm vn Kf (E1 ++ [(⟨(rT39 vn x6).f0, (rT39 vn x6).f1, (rT39 vn x6).f2⟩ : S39)])) else (none)) else (none)) else (r_residual.l1 k x1 0 Mm vn Kf E1)
def r_residual.l1 : Nat -> List Int -> Int -> Int -> List (S39) -> Int -> List (S39) -> Option (Int × (List (S39)))
 | 0, _, _, _, _, _, _ => none
 | k + 1, x1, x7, Mm, vn, Kf, E1 => if x7 < (vn.length : Int) then (if 0 <= x7 then (if x7 < (x1.length : Int) then (if (rd x1 x7) > 0 then (if E1.length < 5864062014805 then (r_residual.l1 k x1 (wrap64 (x7 + 1)) Mm vn Kf (E1 ++ [(⟨(rT39 vn x7).f1, (rT39 vn x7).f0, wrap64 (-((rT39 vn x7).f2))⟩ : S39)])) else (none)) else (r_residual.l1 k x1 (wrap64 (x7 + 1)) Mm vn Kf E1)) else (none)) else (none)) else (some (Kf, E1))
end
def r_residual.f (k : Nat) (ae : Int) (ac : List (S39)) (l1 : List Int) : Option (Int × (List (S39))) := r_residual.l0 k l1 0 ae ac ae ([] : List (S39))
theorem r_residual.mono_l : ∀ k, (∀ y0 y1 y2 y3 y4 y5, LeO (r_residual.l0 k y0 y1 y2 y3 y4 y5) (r_residual.l0 (k + 1) y0 y1 y2 y3 y4 y5)) /\ (∀ y0 y1 y2 y3 y4 y5, LeO (r_residual.l1 k y0 y1 y2 y3 y4 y5) (r_residual.l1 (k + 1) y0 y1 y2 y3 y4 y5))
 | 0 => ⟨fun _ _ _ _ _ _ r h => by simp [r_residual.l0] at h, fun _ _ _ _ _ _ r h => by simp [r_residual.l1] at h⟩
 | k + 1 => by
  obtain ⟨ih0, ih1⟩ := r_residual.mono_l k; refine ⟨?_, ?_⟩ <;> intros <;> (first | unfold r_residual.l0 | unfold r_residual.l1) <;> repeat' first | (with_reducible first | exact ih0 _ _ _ _ _ _ | exact ih1 _ _ _ _ _ _ | exact LeO.refl _ | exact LeO.none _ | refine LeO.ite ?_ ?_ | refine LeO.bind ?_ (fun _ => ?_))
theorem r_residual.mono : ∀ a0 a1 a2 k, LeO (r_residual.f k a0 a1 a2) (r_residual.f (k + 1) a0 a1 a2) := by
 intro a0 a1 a2 k; obtain ⟨ih0, ih1⟩ := r_residual.mono_l k; unfold r_residual.f; repeat' first | (with_reducible first | exact ih0 _ _ _ _ _ _ | exact ih1 _ _ _ _ _ _ | exact LeO.refl _ | exact LeO.none _ | refine LeO.ite ?_ ?_ | refine LeO.bind ?_ (fun _ => ?_))
def r_residual.T5 : Bool × List (List Nat × List Nat) := (true, [([], []), ([0], [0]), ([], []), ([2], [2]), ([], []), ([3, 4], [3, 4]), ([5], [5]), ([6], [6]), ([1, 7], [1, 7]), ([0, 1, 2, 3, 4, 5, 6, 7, 8], []), ([9, 8, 8, 0, 1, 2, 3, 4, 5, 6, 7, 8], [8, 9])])
def r_residual.B5 : List Nat := [0, 1, 0, 4, 0, 28, 60, 124, 255, 511, 1023]
theorem r_residual.tab5 : rtab .any (opsOf Try.f119 5) = r_residual.T5 := by kernel_rfl
theorem r_residual.bits5 : waitsOk r_residual.T5.2 r_residual.B5 = true := by kernel_rfl
set_option maxHeartbeats 8000000
set_option maxRecDepth 100000
theorem r_residual.calls (k : Nat) (ae : Int) (ag : Option Addr) (af : Nat) (ac : List (S39)) (A1 : Option Addr) (c1 : Nat) (l1 : List Int) (r1 : Int) (r2 : List (S39)) (w : World) (aA : Kd.C k39 w ag ac.length ac) (aC : ac.length <= af) (hr1 : Kd.C (Kd.int .i64) w A1 l1.length l1) (hc1 : l1.length <= c1) (h : r_residual.f k ae ac l1 = some (r1, r2)) :
  Calls Try.prog 119 #[.agg #[.int .i64 ae, .slice ag ac.length af], .slice A1 l1.length c1] w fun e w' => ∃ v1_ : Value, e = .returned (.agg #[.int .i64 r1, v1_]) /\ Kd.R k39 39 w' w.heap.size (fun _ => True) v1_ r2 /\ Below w.heap.size w w' := by
 have ja := Try.underlying24; have zm := Try.underlying39; have ah := Z_ aA; have ai := Z_ aC; clear aA aC; have HR1 := Z_ hr1; have HC1 := Z_ hc1; clear hr1 hc1; have HB := Z_ (Below.refl w.heap.size w); have H : (r_residual.l0 k l1 0 ae ac ae ([] : List (S39))) = some (r1, r2) := h; clear h; have H' := Z_ H; clear H; go_enter Try.func119, Try.ntmps119; go_wp2_with (first | ((with_reducible refine gate_dst (N := 2) rfl ?_); refine bX_ 2 #[.int .i64 ae, .slice ag ac.length af] 24 ?_; intro Cq hg w3 hbox hb; have mS := Z_ (hbox); have bcq := Z_ ((by rw [hg]; exact (fZ_ hB_) : w.heap.size <= Cq)); have bdR := Z_ ((by rw [hg]; exact (fZ_ hB_) : w.heap.size <= Cq)); replace HB := Z_ (fS_ hB_ hb); clear hb hbox hg) | ((with_reducible refine gate_dst (N := 4) rfl ?_); refine bX_ 4 #[.int .i64 0, .slice none 0 0] 24 ?_; intro Cp hg w4 hbox hb; have sm := Z_ (hbox); have bcp := Z_ ((by rw [hg]; exact (fZ_ hB_) : w.heap.size <= Cp)); have bdQ := Z_ ((by rw [hg]; exact (fZ_ hB_) : w.heap.size <= Cp)); replace HB := Z_ (fS_ hB_ hb); have GL := Z_ ((nB_ hg mS.out : Cq ≠ Cp)); have GK := Z_ ((by rw [hg]; exact Nat.ne_of_gt (blk_lt (g := Cq) (o := .cells #[.int .i64 ae, .slice ag ac.length af] 24 (0, 0)) (bR_ mS.out)) : Cp ≠ Cq)); replace mS := Z_ (bS_ mS.out hb); clear hb hbox hg; have a5a := GL.out; have a3N := GK.out; obtain ⟨⟨rV, rU⟩, rT, rS⟩ := f2_ mS.out) | ((with_reducible refine gate_dst (N := 5) rfl ?_); refine bX_ 5 #[.int .i64 0, .slice none 0 0] 24 ?_; intro Ai hg w7 hbox hb; have oA := Z_ (hbox); have bco := Z_ ((by rw [hg]; exact (fZ_ hB_) : w.heap.size <= Ai)); have bdP := Z_ ((by rw [hg]; exact (fZ_ hB_) : w.heap.size <= Ai)); replace HB := Z_ (fS_ hB_ hb); have AY := Z_ ((nB_ hg mS.out : Cq ≠ Ai)); have AX := Z_ ((by rw [hg]; exact Nat.ne_of_gt (blk_lt (g := Cq) (o := .cells #[.int .i64 ae, .slice ag ac.length af] 24 (0, 0)) (bR_ mS.out)) : Ai ≠ Cq)); replace mS := Z_ (bS_ mS.out hb); have KZ := Z_ ((nB_ hg sm.out : Cp ≠ Ai)); have KY := Z_ ((by rw [hg]; exact Nat.ne_of_gt (blk_lt (g := Cp) (o := .cells #[.int .i64 0, .slice none 0 0] 24 (0, 0)) (bR_ sm.out)) : Ai ≠ Cp)); replace sm := Z_ (bS_ sm.out hb); clear hb hbox hg; have aaM := AX.out; have aaL := AY.out; have Xs := KY.out; have Xr := KZ.out; obtain ⟨⟨gP, gO⟩, gM, gK⟩ := f2_ oA.out)); go_loopg [6] k (fun kq v6 w' => ∃ (dt : Int) (Ax : List (S39)) (pH : Value), v6 = .int .i64 dt /\ Aside0 (r_residual.l0 kq l1 dt ae ac ae Ax = some (r1, r2)) /\ Aside0 (kq <= k) /\ Aside0 (Kd.R k39 39 w' w.heap.size (fun _ => True) pH Ax) /\ Aside0 (w'.heap[Cq]? = some (.cells #[.int .i64 ae, (.slice ag ac.length af)] 24 (0, 0))) /\ Aside0 (w'.heap[Cp]? = some (.cells #[.int .i64 0, (.slice none 0 0)] 24 (0, 0))) /\ Aside0 (w'.heap[Ai]? = some (.cells #[.int .i64 ae, pH] 24 (0, 0))) /\ Aside0 (Below w.heap.size w w'))
 case atStart => exact ⟨(0), (([] : List (S39))), (.slice none 0 0), rf_, H', ⟨nR_ _⟩, ⟨by first | exact Kd.R_nil _ _ _ _ _ | exact Kd.N_nil _ _ _ _ _ | exact Kd.V_nil _ _ _ _ _ | exact Kd.Q_nil _ _ _ _ _ | exact Kd.S_nil _ _ _ _ _⟩, ⟨bQ_ mS.out⟩, ⟨bQ_ sm.out⟩, ⟨by refine bM_ ?_; refine blk_put (cs := #[.int .i64 ae, .slice none 0 0]) ?_ 1 _ rfl; refine bM_ ?_; refine blk_put (cs := #[.int .i64 0, .slice none 0 0]) ?_ 0 _ rfl; exact bR_ oA.out⟩, ⟨hB_⟩⟩
 case round =>
  clear H'; obtain ⟨dt, Ax, pH, rfl, HA, HK1, jv, mS, sm, oA, HB⟩ := hrel
  cases gk with
  | zero => exact absurd HA.out (by simp [r_residual.l0])
  | succ k1 =>
   have H := HA.out; clear HA; simp only [r_residual.l0] at H; by_cases c11 : dt < (ac.length : Int)
   .rw [if_pos c11] at H
    replace c11 := eT_ c11; by_cases c12 : 0 <= dt
    .rw [if_pos c12] at H
     replace c12 := eT_ c12; by_cases c13 : Ax.length < 5864062014805
     .rw [if_pos c13] at H
      have awS := Z_ c13; clear c13; obtain ⟨ax2, adp⟩ : ∃ y_ : List (S39), y_ = (Ax ++ [(⟨(rT39 ac dt).f0, (rT39 ac dt).f1, (rT39 ac dt).f2⟩ : S39)]) := ⟨_, rfl⟩; replace H : (r_residual.l0 k1 l1 (wrap64 (dt + 1)) ae ac ae ax2) = some (r1, r2) := by first | (rw [adp]; with_reducible exact H) | (have H2_ := (oB_ _ _).symm.trans H; rw [adp]; with_reducible exact H2_) | (have H2_ := (oB_ _ _).symm.trans H; with_reducible exact H2_) | with_reducible exact H | (rw [adp]; exact H) | exact H
      have aWe := Z_ adp; clear adp; have H' := Z_ H; clear H; have Qe := GL.out; have Qa := GK.out; have X9 := AY.out; have X6 := AX.out; obtain ⟨⟨gG, gE⟩, gB, gA⟩ := f2_ mS.out; try go_wp2
      replace jv := Z_ (rD_ jv.out); replace mS := Z_ (bD_ mS.out); replace sm := Z_ (bD_ sm.out); replace oA := Z_ (bD_ oA.out); replace HB := Z_ (fD_ HB.out); have aGu : 0 <= (dt : Int) := dT_ as_; have aFp : dt < (ac.length : Int) := dT_ as_; obtain ⟨Wq, a7i, RJ, RI, RH⟩ := at_T39 ah.out dt aGu aFp; have Fi := RH; have Fj := RI; have Fk := RJ; cases a7i
      replace RJ := pw_cell_below HB.out RJ; replace RI := pw_cell_below HB.out RI; replace RH := pw_cell_below HB.out RH; replace aGu := eq_true aGu; replace aFp := eq_true aFp; refine start_ (n := 11) (S := fun w' => w'.cell? ⟨Ai, 0, none⟩ = some (.int .i64 ae) /\ w'.cell? ⟨Ai, 1, none⟩ = some (pH) /\ w'.cell? ⟨Cq, 0, none⟩ = some (.int .i64 ae) /\ w'.cell? ⟨Cq, 1, none⟩ = some (.slice (some Wq) ac.length af) /\ w'.cell? (Wq.add ((dt).toNat * 3)) = some (.int .i64 ((rT39 ac dt).f0)) /\ w'.cell? ⟨(Wq.add ((dt).toNat * 3)).block, (Wq.add ((dt).toNat * 3)).off + 1, none⟩ = some (.int .i64 ((rT39 ac dt).f1)) /\ w'.cell? ⟨(Wq.add ((dt).toNat * 3)).block, (Wq.add ((dt).toNat * 3)).off + 2, none⟩ = some (.int .i64 ((rT39 ac dt).f2))) (ds := [10]) _ (by kernel_rfl) rfl rfl ⟨(bC_ oA.out 0).trans rfl, (bC_ oA.out 1).trans rfl, (bC_ mS.out 0).trans rfl, (bC_ mS.out 1).trans rfl, ((HB.out.cell (World.block_lt_of_cell? w _ Fk)).trans Fk), ((HB.out.cell (World.block_lt_of_cell? w _ Fj)).trans Fj), ((HB.out.cell (World.block_lt_of_cell? w _ Fi)).trans Fi)⟩ (fun hHeld => ?_); refine with_tabW r_residual.tab5 r_residual.bits5 (fun HT_ HW_ => ?_); generalize wr.drew = w17 at jv mS sm oA HB RJ RI RH hHeld ⊢; refine pP_ 0 19 ?_; refine pP_ 2 21 ?_; refine pP_ 4 23 ?_; refine pT_ 1 20 ?_; refine pT_ 3 22 ?_; refine pP_ 5 24 ?_; refine pT_ 6 25 ?_; refine oN_ 7 (some 26) (fun K hK => ?_); refine value_ (w1 := ?_) (v := ?_) (by rfl) rfl ?_ ?_; rotate_left 2
      .go_simp
       constructor; ·rfl
       rfl
      refine hK.out _ _ ⟨(bC_ (bA_ oA.out _) 0).trans rfl, (bC_ (bA_ oA.out _) 1).trans rfl, (bC_ (bA_ mS.out _) 0).trans rfl, (bC_ (bA_ mS.out _) 1).trans rfl, (World.cell?_alloc_lt _ _ _ (World.block_lt_of_cell? _ _ (((HB.out.cell (World.block_lt_of_cell? w _ Fk)).trans Fk)))).trans (((HB.out.cell (World.block_lt_of_cell? w _ Fk)).trans Fk)), (World.cell?_alloc_lt _ _ _ (World.block_lt_of_cell? _ _ (((HB.out.cell (World.block_lt_of_cell? w _ Fj)).trans Fj)))).trans (((HB.out.cell (World.block_lt_of_cell? w _ Fj)).trans Fj)), (World.cell?_alloc_lt _ _ _ (World.block_lt_of_cell? _ _ (((HB.out.cell (World.block_lt_of_cell? w _ Fi)).trans Fi)))).trans (((HB.out.cell (World.block_lt_of_cell? w _ Fi)).trans Fi))⟩ (fun hHeld => ?_); clear hK K; refine nP_ 26 ?_; refine oN_ 8 (some 27) (fun K hK => ?_); refine Kd.R_append_step k39 (w0 := w) w.heap.size (by rfl) (.tmp 20) (.tmp 26) 22 39 (.agg #[(.int .i64 0), (.int .i64 0), (.int .i64 0)]) 24 rfl Try.underlying22 info39 rfl (by decide) (by omega) pH Ax (⟨(rT39 ac dt).f0, (rT39 ac dt).f1, (rT39 ac dt).f2⟩ : S39) [.int .i64 ((rT39 ac dt).f0), .int .i64 ((rT39 ac dt).f1), .int .i64 ((rT39 ac dt).f2)] (fun _ => True) (fun _ => False) rfl rfl ?aP (fun _ hk => hk.elim) ?aF ?aO ?aB ?aS ?aL ?_; (case aP => exact k39_mkM _ _ _ (⟨(rT39 ac dt).f0, (rT39 ac dt).f1, (rT39 ac dt).f2⟩ : S39))
      (case aB => exact hB_)
      (case aF => exact (fun _ _ => trivial))
      (case aO => exact (rK_ jv.out))
      (case aS => exact (fZ_ hB_))
      (case aL => have := awS.out; omega)
      intro bfM w18 ho hb hg hat; rw [<- aWe.out] at ho; replace mS := Z_ (blk_grown (g := Cq) (o := .cells #[.int .i64 ae, .slice (some Wq) ac.length af] 24 (0, 0)) (bR_ mS.out) hg (Kd.R_ne jv.out mS.out (by decide))); replace sm := Z_ (blk_grown (g := Cp) (o := .cells #[.int .i64 0, .slice none 0 0] 24 (0, 0)) (bR_ sm.out) hg (Kd.R_ne jv.out sm.out (by decide))); replace oA := Z_ (blk_grown (g := Ai) (o := .cells #[.int .i64 ae, pH] 24 (0, 0)) (bR_ oA.out) hg (Kd.R_ne jv.out oA.out (by decide))); replace HB := Z_ (hb); have aDz := Z_ (ho); clear jv; clear ho hb hg hat; obtain ⟨vj, uT, L7⟩ := rS_ aDz.out; (first | subst L7 | (injection L7 with f1_ f2_ f3_; have f4_ := f1_.symm; have f5_ := f3_.symm; clear f1_ f2_ f3_; subst f4_; subst f5_))
      refine hK.out _ _ ⟨(bC_ oA.out 0).trans rfl, (bC_ oA.out 1).trans rfl, (bC_ mS.out 0).trans rfl, (bC_ mS.out 1).trans rfl, ((HB.out.cell (World.block_lt_of_cell? w _ Fk)).trans Fk), ((HB.out.cell (World.block_lt_of_cell? w _ Fj)).trans Fj), ((HB.out.cell (World.block_lt_of_cell? w _ Fi)).trans Fi)⟩ (fun hHeld => ?_); clear hK K; refine nP_ 27 ?_; refine pP_ 9 28 ?_; refine lN_ 10 none (fun K hK => ?_); have a3H : w18.cell? ⟨Ai, 1, none⟩ = some (pH) := (bC_ oA.out 1).trans rfl; have aPU := bF_ oA.out 1; have azx := AY.out; have azw := KZ.out; have azI := AX.out; have azH := KY.out; refine skip_ (w1 := ?_) (by rfl) rfl ?_ ?_; rotate_left
      .go_simp
       rfl
      refine hK.out _ _ ?_; clear hK K; refine dN_ ?_; try go_wp2
      go_roundg k1
      case measure => have := HK1.out; omega
      case rel => exact ⟨(wrap64 (dt + 1)), (ax2), (.slice vj ax2.length uT), rf_, H', ⟨by have := HK1.out; omega⟩, ⟨by (with_reducible repeat (first | apply rN_ | apply rD_)); exact rM_ (rF_ (p := ⟨Ai, 1, none⟩) (Kd.R_types aDz.out oA.out (by decide)) (fun _ hk => hk.2) (.slice vj ax2.length uT)) (fun _ hk => trivial)⟩, ⟨bQ_ mS.out⟩, ⟨bQ_ sm.out⟩, ⟨by refine bM_ ?_; refine blk_put (cs := #[.int .i64 ae, pH]) ?_ 1 _ rfl; exact bR_ oA.out⟩, ⟨hB_⟩⟩
     exact nN_ c13 H
    exact nN_ c12 H
   rw [if_neg c11] at H; replace c11 := eF_ c11; have H' := Z_ H; clear H; have NH := GL.out; have NF := GK.out; have Qc := AY.out; have P8 := AX.out; obtain ⟨⟨jL, jK⟩, jJ, jI⟩ := f2_ mS.out; go_wp2; go_loopg [7] k1 (fun kq v7 w' => ∃ (gc : Int) (vm : List (S39)) (pH : Value), v7 = .int .i64 gc /\ Aside0 (r_residual.l1 kq l1 gc ae ac ae vm = some (r1, r2)) /\ Aside0 (kq <= k1) /\ Aside0 (Kd.R k39 39 w' w.heap.size (fun _ => True) pH vm) /\ Aside0 (w'.heap[Cq]? = some (.cells #[.int .i64 ae, (.slice ag ac.length af)] 24 (0, 0))) /\ Aside0 (w'.heap[Cp]? = some (.cells #[.int .i64 0, (.slice none 0 0)] 24 (0, 0))) /\ Aside0 (w'.heap[Ai]? = some (.cells #[.int .i64 ae, pH] 24 (0, 0))) /\ Aside0 (Below w.heap.size w w'))
   case atStart => exact ⟨(0), (Ax), (pH), rf_, H', ⟨nR_ _⟩, ⟨rK_ jv.out⟩, ⟨bR_ mS.out⟩, ⟨bR_ sm.out⟩, ⟨bR_ oA.out⟩, ⟨hB_⟩⟩
   case round =>
    clear H'; obtain ⟨gc, vm, pH, rfl, HA, HK2, jv, mS, sm, oA, HB⟩ := hrel
    cases gk with
    | zero => exact absurd HA.out (by simp [r_residual.l1])
    | succ k2 =>
     have H := HA.out; clear HA; simp only [r_residual.l1] at H; by_cases c24 : gc < (ac.length : Int)
     .rw [if_pos c24] at H
      replace c24 := eT_ c24; by_cases c25 : 0 <= gc
      .rw [if_pos c25] at H
       replace c25 := eT_ c25; by_cases c26 : gc < (l1.length : Int)
       .rw [if_pos c26] at H
        replace c26 := eT_ c26; have aXJ := Z_ H; clear H; have al2 := GL.out; have alU := GK.out; have aeU := AY.out; have aeM := AX.out; obtain ⟨⟨pP, pO⟩, rI, rH⟩ := f2_ mS.out; have aGt : 0 <= (gc : Int) := dT_ as_; have aFo : gc < (ac.length : Int) := dT_ as_; obtain ⟨aC1, a7h, akK, akJ, akI⟩ := at_T39 ah.out gc aGt aFo; cases a7h
        replace akK := pw_cell_below HB.out akK; replace akJ := pw_cell_below HB.out akJ; replace akI := pw_cell_below HB.out akI; replace aGt := eq_true aGt; replace aFo := eq_true aFo; go_upto_if 45 with (first | ((with_reducible refine gate_dst (N := 8) rfl ?_); refine bX_ 8 #[.int .i64 0, .int .i64 0, .int .i64 0] 39 ?_; intro ss hg w31 hbox hb; replace jv := Z_ (rB_ (Kd.R_elderB (rK_ jv.out) ss (Nat.le_of_eq hg.symm)) hb); have agM := Z_ (hbox); have axg := Z_ ((by rw [hg]; exact (fZ_ hB_) : w.heap.size <= ss)); have bdO := Z_ ((by rw [hg]; exact (fZ_ hB_) : w.heap.size <= ss)); replace HB := Z_ (fS_ hB_ hb); have YG := Z_ ((nB_ hg mS.out : Cq ≠ ss)); have YD := Z_ ((by rw [hg]; exact Nat.ne_of_gt (blk_lt (g := Cq) (o := .cells #[.int .i64 ae, .slice (some aC1) ac.length af] 24 (0, 0)) (bR_ mS.out)) : ss ≠ Cq)); replace mS := Z_ (bS_ mS.out hb); have YF := Z_ ((nB_ hg sm.out : Cp ≠ ss)); have YC := Z_ ((by rw [hg]; exact Nat.ne_of_gt (blk_lt (g := Cp) (o := .cells #[.int .i64 0, .slice none 0 0] 24 (0, 0)) (bR_ sm.out)) : ss ≠ Cp)); replace sm := Z_ (bS_ sm.out hb); have YE := Z_ ((nB_ hg oA.out : Ai ≠ ss)); have YB := Z_ ((by rw [hg]; exact Nat.ne_of_gt (blk_lt (g := Ai) (o := .cells #[.int .i64 ae, pH] 24 (0, 0)) (bR_ oA.out)) : ss ≠ Ai)); replace oA := Z_ (bS_ oA.out hb); clear hb hbox hg; have asc := YD.out; have arP := YG.out; have aeT := YC.out; have aeL := YF.out; have X8 := YB.out; have X5 := YE.out; obtain ⟨⟨ku, kt, aAK⟩, ko, kn, aAe⟩ := f3_ agM.out; have aGs : 0 <= (gc : Int) := dT_ as_; have aFn : gc < (l1.length : Int) := dT_ as_; obtain ⟨awm, a7g, zj⟩ := Kd.at_int HR1.out gc aGs aFn; cases a7g; have SD : awm.block ≠ ss := Nat.ne_of_lt (Nat.lt_of_lt_of_le (by have := World.block_lt_of_cell? _ _ zj; first | rwa [add_block] at this | exact this) axg.out); have SC : awm.block ≠ ss := Nat.ne_of_lt (Nat.lt_of_lt_of_le (by have := World.block_lt_of_cell? _ _ zj; first | rwa [add_block] at this | exact this) axg.out); have SB : awm.block ≠ ss := Nat.ne_of_lt (Nat.lt_of_lt_of_le (by have := World.block_lt_of_cell? _ _ zj; first | rwa [add_block] at this | exact this) axg.out); replace zj := pw_cell_below HB.out zj; replace zj := (cell_far (p := ⟨ss, 0, none⟩) (by first | (rw [add_block]; exact SD) | (show (Addr.add _ _).block ≠ _; rw [add_block]; exact SD) | exact SD) (.int .i64 ((rT39 ac gc).f0))).trans zj; replace zj := (cell_far (p := ⟨ss, 1, none⟩) (by first | (rw [add_block]; exact SC) | (show (Addr.add _ _).block ≠ _; rw [add_block]; exact SC) | exact SC) (.int .i64 ((rT39 ac gc).f1))).trans zj; replace zj := (cell_far (p := ⟨ss, 2, none⟩) (by first | (rw [add_block]; exact SB) | (show (Addr.add _ _).block ≠ _; rw [add_block]; exact SB) | exact SB) (.int .i64 ((rT39 ac gc).f2))).trans zj; clear SD; clear SC; clear SB; replace aGs := eq_true aGs; replace aFn := eq_true aFn)); (try simp only [Act.put, sT_, sZ_, sS_])
        have H := aXJ.out; clear aXJ; by_cases c36 : (rd l1 gc) > 0
        .rw [if_pos c36] at H
         replace c36 : decide (0 < (rd l1 gc)) = true := eT_ c36; (try rw [c36])
         by_cases c37 : vm.length < 5864062014805
         .rw [if_pos c37] at H
          have aWR := Z_ c37; clear c37; obtain ⟨ax1, ado⟩ : ∃ y_ : List (S39), y_ = (vm ++ [(⟨(rT39 ac gc).f1, (rT39 ac gc).f0, wrap64 (-((rT39 ac gc).f2))⟩ : S39)]) := ⟨_, rfl⟩; replace H : (r_residual.l1 k2 l1 (wrap64 (gc + 1)) ae ac ae ax1) = some (r1, r2) := by first | (rw [ado]; with_reducible exact H) | (have H2_ := (oB_ _ _).symm.trans H; rw [ado]; with_reducible exact H2_) | (have H2_ := (oB_ _ _).symm.trans H; with_reducible exact H2_) | with_reducible exact H | (rw [ado]; exact H) | exact H
          have aWd := Z_ ado; clear ado; have H' := Z_ H; clear H; have aMP := AX.out; have aMz := AY.out; have aCj := KY.out; have aBY := KZ.out; have aeS := YE.out; have aeK := YB.out; obtain ⟨⟨sU, sT⟩, sS, sR⟩ := f2_ oA.out; have Qb := YD.out; have P7 := YG.out; have X7 := YC.out; have X4 := YF.out; obtain ⟨⟨pN, pM, amC⟩, pL, pK, amn⟩ := f3_ agM.out; go_wp2_with (first | ((with_reducible refine gate_builtin (b := .append) (xs := #[.tmp 47, .tmp 56]) rfl ?_); at_builtin; refine Kd.R_append k39 (w0 := w) w.heap.size rfl (.tmp 47) (.tmp 56) 22 39 (.agg #[(.int .i64 0), (.int .i64 0), (.int .i64 0)]) 24 rfl Try.underlying22 info39 rfl (by decide) (by omega) pH vm (⟨(rT39 ac gc).f1, (rT39 ac gc).f0, wrap64 (-((rT39 ac gc).f2))⟩ : S39) [.int .i64 ((rT39 ac gc).f1), .int .i64 ((rT39 ac gc).f0), .int .i64 (wrap64 (-((rT39 ac gc).f2)))] (fun k_ => k_ ≠ ss) (fun _ => False) rfl (by first | (go_simp; done) | (go_simp; rfl)) ?aP (fun _ hk => hk.elim) ?aF ?aO ?aB ?aS ?aL ?_; (case aP => exact k39_mkM _ _ _ (⟨(rT39 ac gc).f1, (rT39 ac gc).f0, wrap64 (-((rT39 ac gc).f2))⟩ : S39)); (case aB => exact hB_); (case aF => exact (fun k_ hk => Kd.freshB (g := ss) (o := .cells #[.int .i64 ((rT39 ac gc).f0), .int .i64 ((rT39 ac gc).f1), .int .i64 ((rT39 ac gc).f2)] 39 (0, 0)) (by refine bM_ ?_; refine blk_put (cs := #[.int .i64 ((rT39 ac gc).f0), .int .i64 ((rT39 ac gc).f1), .int .i64 0]) ?_ 2 _ rfl; refine bM_ ?_; refine blk_put (cs := #[.int .i64 ((rT39 ac gc).f0), .int .i64 0, .int .i64 0]) ?_ 1 _ rfl; refine bM_ ?_; refine blk_put (cs := #[.int .i64 0, .int .i64 0, .int .i64 0]) ?_ 0 _ rfl; exact bR_ agM.out) k_ hk)); (case aO => exact (by (with_reducible repeat (first | apply rN_ | apply rD_)); exact rM_ (rF_ (p := ⟨ss, 2, none⟩) (rF_ (p := ⟨ss, 1, none⟩) (rF_ (p := ⟨ss, 0, none⟩) (rM_ jv.out (fun k_ hk => (⟨hk, hk.2⟩ : _ /\ k_ ≠ ss))) (fun _ hk => hk.2) (.int .i64 ((rT39 ac gc).f0))) (fun _ hk => hk.2) (.int .i64 ((rT39 ac gc).f1))) (fun _ hk => hk.2) (.int .i64 ((rT39 ac gc).f2))) (fun _ hk => hk.1.2))); (case aS => exact (fZ_ hB_)); (case aL => have := aWR.out; omega); intro bfL w45 ho hb hg hat; rw [<- aWd.out] at ho; replace mS := Z_ (blk_grown (g := Cq) (o := .cells #[.int .i64 ae, .slice (some aC1) ac.length af] 24 (0, 0)) (bQ_ mS.out) hg (Kd.R_ne jv.out mS.out (by decide))); replace sm := Z_ (blk_grown (g := Cp) (o := .cells #[.int .i64 0, .slice none 0 0] 24 (0, 0)) (bQ_ sm.out) hg (Kd.R_ne jv.out sm.out (by decide))); replace oA := Z_ (blk_grown (g := Ai) (o := .cells #[.int .i64 ae, pH] 24 (0, 0)) (bQ_ oA.out) hg (Kd.R_ne jv.out oA.out (by decide))); replace agM := Z_ (blk_grown (g := ss) (o := .cells #[.int .i64 ((rT39 ac gc).f0), .int .i64 ((rT39 ac gc).f1), .int .i64 ((rT39 ac gc).f2)] 39 (0, 0)) (by refine bM_ ?_; refine blk_put (cs := #[.int .i64 ((rT39 ac gc).f0), .int .i64 ((rT39 ac gc).f1), .int .i64 0]) ?_ 2 _ rfl; refine bM_ ?_; refine blk_put (cs := #[.int .i64 ((rT39 ac gc).f0), .int .i64 0, .int .i64 0]) ?_ 1 _ rfl; refine bM_ ?_; refine blk_put (cs := #[.int .i64 0, .int .i64 0, .int .i64 0]) ?_ 0 _ rfl; exact bR_ agM.out) hg (Kd.R_away jv.out (fun _ hk => hk.2))); replace HB := Z_ (hb); have aDy := Z_ (ho); clear jv; clear ho hb hg hat; obtain ⟨aKW, Xw, aiz⟩ := rS_ aDy.out; subst aiz; obtain ⟨⟨KR, KQ⟩, KD, KC⟩ := f2_ oA.out)); go_roundg k2
          case measure => have := HK1.out; have := HK2.out; omega
          case rel => exact ⟨(wrap64 (gc + 1)), (ax1), (.slice aKW ax1.length Xw), rf_, H', ⟨by have := HK1.out; have := HK2.out; omega⟩, ⟨by (with_reducible repeat (first | apply rN_ | apply rD_)); exact rM_ (rF_ (p := ⟨Ai, 1, none⟩) (Kd.R_types aDy.out oA.out (by decide)) (fun _ hk => hk.2) (.slice aKW ax1.length Xw)) (fun _ hk => trivial)⟩, ⟨bQ_ mS.out⟩, ⟨bQ_ sm.out⟩, ⟨by refine bM_ ?_; refine blk_put (cs := #[.int .i64 ae, pH]) ?_ 1 _ rfl; exact bR_ oA.out⟩, ⟨hB_⟩⟩
         exact nN_ c37 H
        rw [if_neg c36] at H; replace c36 : decide (0 < (rd l1 gc)) = false := eF_ c36; (try rw [c36])
        have H' := Z_ H; clear H; go_wp2; go_roundg k2
        case measure => have := HK1.out; have := HK2.out; omega
        case rel => exact ⟨(wrap64 (gc + 1)), (vm), (pH), rf_, H', ⟨by have := HK1.out; have := HK2.out; omega⟩, ⟨by (with_reducible repeat (first | apply rN_ | apply rD_)); exact rM_ (rF_ (p := ⟨ss, 2, none⟩) (rF_ (p := ⟨ss, 1, none⟩) (rF_ (p := ⟨ss, 0, none⟩) (rM_ jv.out (fun k_ hk => (⟨hk, hk.2⟩ : _ /\ k_ ≠ ss))) (fun _ hk => hk.2) (.int .i64 ((rT39 ac gc).f0))) (fun _ hk => hk.2) (.int .i64 ((rT39 ac gc).f1))) (fun _ hk => hk.2) (.int .i64 ((rT39 ac gc).f2))) (fun _ hk => trivial)⟩, ⟨bQ_ mS.out⟩, ⟨bQ_ sm.out⟩, ⟨bQ_ oA.out⟩, ⟨hB_⟩⟩
       exact nN_ c26 H
      exact nN_ c25 H
     rw [if_neg c24] at H; replace c24 := eF_ c24; simp only [oJ_, pI_] at H; obtain ⟨rfl, rfl⟩ := H; have aMN := GL.out; have aMx := GK.out; have alY := AY.out; have alQ := AX.out; obtain ⟨⟨abo, abn⟩, aa4, aa3⟩ := f2_ mS.out; have Vq := KY.out; have Vm := KZ.out; obtain ⟨⟨Tj, Ti⟩, S3, S1⟩ := f2_ oA.out; obtain ⟨⟨nf, nc⟩, nb, na⟩ := f2_ sm.out; obtain ⟨Id, EU, Og⟩ := rS_ jv.out; subst Og; go_wp2; refine bodyPost_ret (results_cell_row rfl _ _ Cp 24 #[.int .i64 ae, .slice Id vm.length EU] (0, 0) _ rfl (by refine bM_ ?_; refine blk_put (cs := #[.int .i64 ae, .slice none 0 0]) ?_ 1 _ rfl; refine bM_ ?_; refine blk_put (cs := #[.int .i64 0, .slice none 0 0]) ?_ 0 _ rfl; exact bR_ sm.out) Try.underlying24 rfl (by kernel_rfl)) rfl ?_; exact ⟨_, eW_, by (with_reducible repeat (first | apply rN_ | apply rD_)); exact rM_ (rF_ (p := ⟨Cp, 1, none⟩) (rF_ (p := ⟨Cp, 0, none⟩) (Kd.R_types jv.out sm.out (by decide)) (fun _ hk => hk.2) (.int .i64 ae)) (fun _ hk => hk.2) (.slice Id vm.length EU)) (fun _ hk => trivial), hB_⟩
def r_used.l0 : Nat -> List Int -> List Int -> Int -> Option (List Int)
 | 0, _, _, _ => none
 | k + 1, x0, x3, x4 => if x4 < (x0.length : Int) then (if 0 <= x4 then (if (rd x0 x4) > 0 then (if x3.length < 17592186044416 then (r_used.l0 k x0 (x3 ++ [x4]) (wrap64 (x4 + 1))) else (none)) else (r_used.l0 k x0 x3 (wrap64 (x4 + 1)))) else (none)) else (some x3)
def r_used.f (k : Nat) (l0 : List Int) : Option (List Int) := r_used.l0 k l0 ([] : List Int) 0
theorem r_used.mono_l : ∀ k, (∀ y0 y1 y2, LeO (r_used.l0 k y0 y1 y2) (r_used.l0 (k + 1) y0 y1 y2))
 | 0 => fun _ _ _ r h => by simp [r_used.l0] at h
 | k + 1 => by
  have ih0 := r_used.mono_l k; intro y0 y1 y2; unfold r_used.l0; repeat' first | (with_reducible first | exact ih0 _ _ _ | exact LeO.refl _ | exact LeO.none _ | refine LeO.ite ?_ ?_ | refine LeO.bind ?_ (fun _ => ?_))
theorem r_used.mono : ∀ a0 k, LeO (r_used.f k a0) (r_used.f (k + 1) a0) := by
 intro a0 k; have ih0 := r_used.mono_l k; unfold r_used.f; repeat' first | (with_reducible first | exact ih0 _ _ _ | exact LeO.refl _ | exact LeO.none _ | refine LeO.ite ?_ ?_ | refine LeO.bind ?_ (fun _ => ?_))
theorem r_used.calls (k : Nat) (A0 : Option Addr) (c0 : Nat) (l0 : List Int) (r : List Int) (w : World) (hr0 : Kd.C (Kd.int .i64) w A0 l0.length l0) (hc0 : l0.length <= c0) (h : r_used.f k l0 = some r) :
  Calls Try.prog 120 #[.slice A0 l0.length c0] w fun e w' => ∃ v0_ : Value, e = .returned (v0_) /\ Kd.R (Kd.int .i64) 3 w' w.heap.size (fun _ => True) v0_ r /\ Below w.heap.size w w' := by
 have HR0 := Z_ hr0; have HC0 := Z_ hc0; clear hr0 hc0; have HB := Z_ (Below.refl w.heap.size w); have H : (r_used.l0 k l0 ([] : List Int) 0) = some r := h; clear h; have H' := Z_ H; clear H; go_enter Try.func120, Try.ntmps120; go_wp2; go_loopg [3, 4] k (fun kq v3 v4 w' => ∃ (tG : List Int) (km : Int), v4 = .int .i64 km /\ Aside0 (r_used.l0 kq l0 tG km = some r) /\ Aside0 (kq <= k) /\ Aside0 (Kd.R (Kd.int .i64) 3 w' w.heap.size (fun _ => True) v3 tG) /\ Aside0 (Below w.heap.size w w'))
 case atStart => exact ⟨(([] : List Int)), (0), rf_, H', ⟨nR_ _⟩, ⟨by first | exact Kd.R_nil _ _ _ _ _ | exact Kd.N_nil _ _ _ _ _ | exact Kd.V_nil _ _ _ _ _ | exact Kd.Q_nil _ _ _ _ _ | exact Kd.S_nil _ _ _ _ _⟩, ⟨hB_⟩⟩
 case round =>
  clear H'; obtain ⟨tG, km, rfl, HA, HK1, agy, HB⟩ := hrel
  cases gk with
  | zero => exact absurd HA.out (by simp [r_used.l0])
  | succ k1 =>
   have H := HA.out; clear HA; simp only [r_used.l0] at H; by_cases c2 : km < (l0.length : Int)
   .rw [if_pos c2] at H
    replace c2 := eT_ c2; by_cases c3 : 0 <= km
    .rw [if_pos c3] at H
     replace c3 := eT_ c3; by_cases c4 : (rd l0 km) > 0
     .rw [if_pos c4] at H
      replace c4 : decide (0 < (rd l0 km)) = true := eT_ c4; by_cases c5 : tG.length < 17592186044416
      .rw [if_pos c5] at H
       have aiW := Z_ c5; clear c5; obtain ⟨aK5, adn⟩ : ∃ y_ : List Int, y_ = (tG ++ [km]) := ⟨_, rfl⟩; replace H : (r_used.l0 k1 l0 aK5 (wrap64 (km + 1))) = some r := by first | (rw [adn]; with_reducible exact H) | (have H2_ := (oB_ _ _).symm.trans H; rw [adn]; with_reducible exact H2_) | (have H2_ := (oB_ _ _).symm.trans H; with_reducible exact H2_) | with_reducible exact H | (rw [adn]; exact H) | exact H
       have aWc := Z_ adn; clear adn; have H' := Z_ H; clear H; have ahX : 0 <= (km : Int) := dT_ as_; have ahz : km < (l0.length : Int) := dT_ as_; obtain ⟨aVp, aIQ, M4⟩ := Kd.at_int HR0.out km ahX ahz; cases aIQ
       replace M4 := pw_cell_below HB.out M4; replace ahX := eq_true ahX; replace ahz := eq_true ahz; go_wp2_with (first | ((with_reducible refine gate_builtin (b := .append) (xs := #[.tmp 16, .tmp 18]) rfl ?_); at_builtin; refine Kd.R_append (Kd.int .i64) (w0 := w) w.heap.size rfl (.tmp 16) (.tmp 18) 29 3 (.int .i64 0) 8 rfl Try.underlying29 info3 rfl (by decide) (by omega) u3 tG km [.int .i64 km] (fun _ => True) (fun _ => False) rfl rfl ?aP (fun _ hk => hk.elim) ?aF ?aO ?aB ?aS ?aL ?_; (case aP => exact rfl); (case aB => exact hB_); (case aF => exact (fun _ _ => trivial)); (case aO => exact (rK_ agy.out)); (case aS => exact (fZ_ hB_)); (case aL => have := aiW.out; omega); intro bfK w6 ho hb hg hat; rw [<- aWc.out] at ho; replace HB := Z_ (hb); have aW6 := Z_ (ho); clear agy; clear ho hb hg hat)); go_roundg k1
       case measure => have := HK1.out; omega
       case rel => exact ⟨(aK5), (wrap64 (km + 1)), rf_, H', ⟨by have := HK1.out; omega⟩, ⟨rK_ aW6.out⟩, ⟨hB_⟩⟩
      exact nN_ c5 H
     rw [if_neg c4] at H; replace c4 : decide (0 < (rd l0 km)) = false := eF_ c4; have H' := Z_ H; clear H; have ahX : 0 <= (km : Int) := dT_ as_; have ahz : km < (l0.length : Int) := dT_ as_; obtain ⟨aVp, aIQ, M4⟩ := Kd.at_int HR0.out km ahX ahz; cases aIQ
     replace M4 := pw_cell_below HB.out M4; replace ahX := eq_true ahX; replace ahz := eq_true ahz; go_wp2; go_roundg k1
     case measure => have := HK1.out; omega
     case rel => exact ⟨(tG), (wrap64 (km + 1)), rf_, H', ⟨by have := HK1.out; omega⟩, ⟨rK_ agy.out⟩, ⟨hB_⟩⟩
    exact nN_ c3 H
   rw [if_neg c2] at H; replace c2 := eF_ c2; obtain rfl := oI_ H; go_wp2; go_ret; exact ⟨_, eW_, rK_ agy.out, hB_⟩
end Go.Proofs.Ytpolojoeabmhdaa.A
