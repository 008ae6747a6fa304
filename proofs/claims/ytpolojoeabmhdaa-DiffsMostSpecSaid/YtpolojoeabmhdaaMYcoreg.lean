import Derived.Test.YtpolojoeabmhdaaMYcoreb
import Derived.Test.YtpolojoeabmhdaaMYcored
import Derived.Test.YtpolojoeabmhdaaMYcoree
import Derived.Test.YtpolojoeabmhdaaMYcoref
set_option linter.unusedVariables false
set_option linter.unusedSimpArgs false
namespace Go.Proofs.Ytpolojoeabmhdaa.A
open Go.RowKit Go.Proofs.YtpolojoeabmhdaaW.PrintWords Go.Proofs.YtpolojoeabmhdaaW.PrintLast Go.Proofs.YtpolojoeabmhdaaW.PrintMore
attribute [local go_sem] max2_int min2_int max_two min_two max_three min_three max_four min_four
mutual
def d_CheckFlow.j0 : Nat -> List Int -> Int -> List Int -> Bool -> Int -> List (S39) -> Option (Int)
 | 0, _, _, _, _, _, _ => none
 | k + 1, x1, x2, x3, x9, Ko, E5 => (d_weighty.f Ko E5 x1).bind fun act => ((d_asked.f k Ko E5 (([act, x9] : List Bool))).bind fun MQ => (if MQ = 0 then ((s_Clone_int_int.f x1).bind fun Xi => (d_CheckFlow.l0 k x2 x3 Xi E5 (E5.length : Int) 0 Ko E5)) else (some MQ)))
def d_CheckFlow.l0 : Nat -> Int -> List Int -> List Int -> List (S39) -> Int -> Int -> Int -> List (S39) -> Option (Int)
 | 0, _, _, _, _, _, _, _, _ => none
 | k + 1, x2, x3, x11, x38, x39, x40, Ko, E5 => if x40 < x39 then (if 0 <= x40 then (if x40 < (x38.length : Int) then (if 0 <= ((rT39 x38 x40).f1) then (if ((rT39 x38 x40).f1) < (x11.length : Int) then (if x40 < (x3.length : Int) then ((some (x11.set (((rT39 x38 x40).f1) : Int).toNat (wrap64 ((rd x11 ((rT39 x38 x40).f1)) - (rd x3 x40))) : List Int)).bind fun Tp => (if 0 <= ((rT39 x38 x40).f0) then (if ((rT39 x38 x40).f0) < (x11.length : Int) then (d_CheckFlow.l0 k x2 x3 (Tp.set (((rT39 x38 x40).f0) : Int).toNat (wrap64 ((rd Tp ((rT39 x38 x40).f0)) + (rd x3 x40)))) x38 x39 (wrap64 (x40 + 1)) Ko E5) else (none)) else (none))) else (none)) else (none)) else (none)) else (none)) else (none)) else (if 0 < (x11.length : Int) then ((cf100.f (x11.set (0 : Int).toNat 0)).bind fun apW => (if apW = true then (d_CheckFlow.j2 k true) else ((d_cost.f k Ko E5 x3).bind fun Xh => (d_CheckFlow.j2 k (decide (Xh > x2)))))) else (none))
def d_CheckFlow.j2 : Nat -> Bool -> Option (Int)
 | 0, _ => none
 | k + 1, x78 => if x78 = true then (some 43) else (some 0)
end
def d_CheckFlow.f (k : Nat) (ae : Int) (ac : List (S39)) (l1 : List Int) (a2 : Int) (l3 : List Int) : Option (Int) := if (l3.length : Int) = (ac.length : Int) then ((cf97.f l3).bind fun aFc => (d_CheckFlow.j0 k l1 a2 l3 (!t294) ae ac)) else (d_CheckFlow.j0 k l1 a2 l3 false ae ac)
theorem d_CheckFlow.mono_l : ∀ k, (∀ y0 y1 y2 y3 y4 y5, LeO (d_CheckFlow.j0 k y0 y1 y2 y3 y4 y5) (d_CheckFlow.j0 (k + 1) y0 y1 y2 y3 y4 y5)) /\ (∀ y0 y1 y2 y3 y4 y5 y6 y7, LeO (d_CheckFlow.l0 k y0 y1 y2 y3 y4 y5 y6 y7) (d_CheckFlow.l0 (k + 1) y0 y1 y2 y3 y4 y5 y6 y7)) /\ (∀ y0, LeO (d_CheckFlow.j2 k y0) (d_CheckFlow.j2 (k + 1) y0))
 | 0 => ⟨fun _ _ _ _ _ _ r h => by simp [d_CheckFlow.j0] at h, fun _ _ _ _ _ _ _ _ r h => by simp [d_CheckFlow.l0] at h, fun _ r h => by simp [d_CheckFlow.j2] at h⟩
 | k + 1 => by
  obtain ⟨ih0, ih1, ih2⟩ := d_CheckFlow.mono_l k; refine ⟨?_, ?_, ?_⟩ <;> intros <;> (first | unfold d_CheckFlow.j0 | unfold d_CheckFlow.l0 | unfold d_CheckFlow.j2) <;> repeat' first | (with_reducible first | exact ih0 _ _ _ _ _ _ | exact ih1 _ _ _ _ _ _ _ _ | exact ih2 _ | exact d_asked.mono _ _ _ _ | exact d_cost.mono _ _ _ _ | exact LeO.refl _ | exact LeO.none _ | refine LeO.ite ?_ ?_ | refine LeO.bind ?_ (fun _ => ?_))
theorem d_CheckFlow.mono : ∀ a0 a1 a2 a3 a4 k, LeO (d_CheckFlow.f k a0 a1 a2 a3 a4) (d_CheckFlow.f (k + 1) a0 a1 a2 a3 a4) := by
 intro a0 a1 a2 a3 a4 k; obtain ⟨ih0, ih1, ih2⟩ := d_CheckFlow.mono_l k; unfold d_CheckFlow.f; repeat' first | (with_reducible first | exact ih0 _ _ _ _ _ _ | exact ih1 _ _ _ _ _ _ _ _ | exact ih2 _ | exact d_asked.mono _ _ _ _ | exact d_cost.mono _ _ _ _ | exact LeO.refl _ | exact LeO.none _ | refine LeO.ite ?_ ?_ | refine LeO.bind ?_ (fun _ => ?_))
def d_CheckFlow.T2 : Bool × List (List Nat × List Nat) := (true, [([], []), ([], []), ([], []), ([1, 2], [1, 2]), ([], []), ([3, 4], [3, 4]), ([0, 5, 3], [0, 5]), ([6, 6, 0, 1, 2, 3, 4, 5, 6], [6])])
def d_CheckFlow.B2 : List Nat := [0, 0, 0, 6, 0, 30, 63, 127]
theorem d_CheckFlow.tab2 : rtab .any (opsOf Try.f49 2) = d_CheckFlow.T2 := by kernel_rfl
theorem d_CheckFlow.bits2 : waitsOk d_CheckFlow.T2.2 d_CheckFlow.B2 = true := by kernel_rfl
def d_CheckFlow.T9 : Bool × List (List Nat × List Nat) := (true, [([], []), ([], []), ([1], [1]), ([0, 2], [0, 2]), ([3], [3]), ([], []), ([], []), ([5, 6], [5, 6]), ([7], [7]), ([4, 8], [4, 8]), ([0, 2, 0, 1, 2, 3, 4, 5, 6, 7, 8, 9], [0, 2]), ([10, 9, 0, 1, 2, 3, 4, 5, 6, 7, 8, 9], [9, 10])])
def d_CheckFlow.B9 : List Nat := [0, 0, 2, 7, 15, 0, 0, 96, 224, 511, 1023, 2047]
theorem d_CheckFlow.tab9 : rtab .any (opsOf Try.f49 9) = d_CheckFlow.T9 := by kernel_rfl
theorem d_CheckFlow.bits9 : waitsOk d_CheckFlow.T9.2 d_CheckFlow.B9 = true := by kernel_rfl
def d_CheckFlow.T10 : Bool × List (List Nat × List Nat) := (true, [([], []), ([], []), ([1], [1]), ([0, 2], [0, 2]), ([3], [3]), ([], []), ([], []), ([5, 6], [5, 6]), ([7], [7]), ([4, 8], [4, 8]), ([0, 2, 0, 1, 2, 3, 4, 5, 6, 7, 8, 9], [0, 2]), ([10, 9, 0, 1, 2, 3, 4, 5, 6, 7, 8, 9], [9, 10])])
def d_CheckFlow.B10 : List Nat := [0, 0, 2, 7, 15, 0, 0, 96, 224, 511, 1023, 2047]
theorem d_CheckFlow.tab10 : rtab .any (opsOf Try.f49 10) = d_CheckFlow.T10 := by kernel_rfl
theorem d_CheckFlow.bits10 : waitsOk d_CheckFlow.T10.2 d_CheckFlow.B10 = true := by kernel_rfl
set_option maxHeartbeats 8000000
set_option maxRecDepth 100000
theorem d_CheckFlow.calls (k : Nat) (ae : Int) (ag : Option Addr) (af : Nat) (ac : List (S39)) (A1 : Option Addr) (c1 : Nat) (l1 : List Int) (a2 : Int) (A3 : Option Addr) (c3 : Nat) (l3 : List Int) (r : Int) (w : World) (aA : Kd.C k39 w ag ac.length ac) (aC : ac.length <= af) (hr1 : Kd.C (Kd.int .i64) w A1 l1.length l1) (hc1 : l1.length <= c1) (hr3 : Kd.C (Kd.int .i64) w A3 l3.length l3) (hc3 : l3.length <= c3) (h : d_CheckFlow.f k ae ac l1 a2 l3 = some r) :
  Calls Try.prog 49 #[.agg #[.int .i64 ae, .slice ag ac.length af], .slice A1 l1.length c1, .int .i64 a2, .slice A3 l3.length c3] w fun e w' => e = .returned (.int .i64 r) /\ Below w.heap.size w w' := by
 have ja := Try.underlying24; have zm := Try.underlying39; have ah := Z_ aA; have ai := Z_ aC; clear aA aC; have HR1 := Z_ hr1; have HC1 := Z_ hc1; clear hr1 hc1; have HR3 := Z_ hr3; have HC3 := Z_ hc3; clear hr3 hc3; have HB := Z_ (Below.refl w.heap.size w); have H : (if (l3.length : Int) = (ac.length : Int) then ((cf97.f l3).bind fun aFc => (d_CheckFlow.j0 k l1 a2 l3 (!t294) ae ac)) else (d_CheckFlow.j0 k l1 a2 l3 false ae ac)) = some r := h; clear h; have HC5 := Z_ H; clear H; go_enter Try.func49, Try.ntmps49; go_upto_region 1 with (first | ((with_reducible refine gate_dst (N := 4) rfl ?_); refine bX_ 4 #[.int .i64 ae, .slice ag ac.length af] 24 ?_; intro Gz hg w6 hbox hb; have gX := Z_ (hbox); have bdl := Z_ ((by rw [hg]; exact (fZ_ hB_) : w.heap.size <= Gz)); have bew := Z_ ((by rw [hg]; exact (fZ_ hB_) : w.heap.size <= Gz)); replace HB := Z_ (fS_ hB_ hb); clear hb hbox hg)); (try simp only [Act.put, sT_, sZ_, sS_])
 go_cut [9] (fun v9 wc => ∃ (kq : Nat) (abU : Bool), v9 = .bool abU /\ Aside0 (d_CheckFlow.j0 kq l1 a2 l3 abU ae ac = some r) /\ Aside0 (kq <= k) /\ Aside0 (wc.heap[Gz]? = some (.cells #[.int .i64 ae, (.slice ag ac.length af)] 24 (0, 0))) /\ Aside0 (Below w.heap.size w wc))
 case first =>
  have H := HC5.out; clear HC5; by_cases c7 : (l3.length : Int) = (ac.length : Int)
  .rw [if_pos c7] at H
   have pw : ((l3.length : Int) == (ac.length : Int)) = true := beq_iff_eq.mpr c7; have IP : ((l3.length : Int) != (ac.length : Int)) = false := bne_eq_false_iff_eq.mpr c7; have a8K : (l3.length == ac.length) = true := by first | simpa using c7 | (simp at c7 ⊢; omega)
   clear c7; (try rw [pw])
   obtain ⟨aFc, A8, H⟩ := oZ_ H; have H' := Z_ H; clear H; obtain ⟨⟨lZ, lY⟩, lX, lW⟩ := f2_ gX.out; go_wp2_with (first | (go_at_call 57; (with_reducible refine (cf97.calls _ _ l3 aFc _ ?side1 ?side2 A8.out).mono ?_); (case side1 => exact cS_ (cB_ HR3.out HB.out)); (case side2 => exact HC3.out); rintro e w10 ⟨rfl, hb⟩; replace gX := Z_ (bS_ gX.out hb); replace HB := Z_ (fS_ hB_ hb); (try clear hb))); go_meet
   case rel => exact ⟨_, (!t294), rf_, H', ⟨oL_⟩, ⟨bR_ gX.out⟩, ⟨hB_⟩⟩
  rw [if_neg c7] at H; have pw : ((l3.length : Int) == (ac.length : Int)) = false := beq_eq_false_iff_ne.mpr c7; have IP : ((l3.length : Int) != (ac.length : Int)) = true := bne_iff_ne.mpr c7; have a8K : (l3.length == ac.length) = false := by first | simpa using c7 | (simp at c7 ⊢; omega)
  (try rw [pw])
  have H' := Z_ H; clear H; obtain ⟨⟨ls, lr⟩, ln, ll⟩ := f2_ gX.out; go_wp2; go_meet
  case rel => exact ⟨_, (false), rf_, H', ⟨oL_⟩, ⟨bR_ gX.out⟩, ⟨hB_⟩⟩
 case rest =>
  clear HC5; obtain ⟨kq, abU, rfl, HA, HJ4, gX, HB⟩ := hcut
  cases kq with
  | zero => exact absurd HA.out (by simp [d_CheckFlow.j0])
  | succ kj4 =>
   have H := HA.out; clear HA; simp only [d_CheckFlow.j0] at H; obtain ⟨act, A12, H⟩ := oZ_ H; obtain ⟨aEC, ad3⟩ : ∃ y_ : List Bool, y_ = (([act, abU] : List Bool)) := ⟨_, rfl⟩; replace H : ((d_asked.f kj4 ae ac aEC).bind fun MQ => (if MQ = 0 then ((s_Clone_int_int.f l1).bind fun Xi => (d_CheckFlow.l0 kj4 a2 l3 Xi ac (ac.length : Int) 0 ae ac)) else (some MQ))) = some r := by first | (rw [ad3]; with_reducible exact H) | (have H2_ := (oB_ _ _).symm.trans H; rw [ad3]; with_reducible exact H2_) | (have H2_ := (oB_ _ _).symm.trans H; with_reducible exact H2_) | with_reducible exact H | (rw [ad3]; exact H) | exact H
   have aDk := Z_ ad3; clear ad3; obtain ⟨MQ, A13, H⟩ := oZ_ H; have J5 := Z_ H; clear H; try go_wp2
   replace gX := Z_ (bD_ gX.out); replace HB := Z_ (fD_ HB.out); refine start_ (n := 8) (S := fun w' => w'.cell? ⟨Gz, 0, none⟩ = some (.int .i64 ae) /\ w'.cell? ⟨Gz, 1, none⟩ = some (.slice ag ac.length af)) (ds := []) _ (by kernel_rfl) rfl rfl ⟨(bC_ gX.out 0).trans rfl, (bC_ gX.out 1).trans rfl⟩ (fun hHeld => ?_); refine with_tabW d_CheckFlow.tab2 d_CheckFlow.bits2 (fun HT_ HW_ => ?_); generalize wc.drew = w15 at gX HB hHeld ⊢; refine pP_ 2 27 ?_; refine pP_ 4 29 ?_; refine pT_ 0 25 ?_; refine pT_ 1 26 ?_; refine oN_ 3 (some 28) (fun K hK => ?_); refine gO_ Try.func98 #[.agg #[.int .i64 ae, .slice ag ac.length af], .slice A1 l1.length c1] ?_; with_reducible refine (d_weighty.calls ae _ _ ac _ _ l1 act _ ?side1 ?side2 ?side3 ?side4 A12.out).mono ?_
   (case side1 => exact cS_ (cB_ ah.out HB.out))
   (case side2 => exact ai.out)
   (case side3 => exact cS_ (cB_ HR1.out HB.out))
   (case side4 => exact HC1.out)
   rintro e w16 ⟨rfl, hb⟩; refine ⟨_, rfl, ?_⟩; replace gX := Z_ (bS_ gX.out hb); replace HB := Z_ (fS_ hB_ hb); (try clear hb)
   refine hK.out _ _ ⟨(bC_ gX.out 0).trans rfl, (bC_ gX.out 1).trans rfl⟩ (fun hHeld => ?_); clear hK K; refine nP_ 28 ?_; refine oN_ 5 (some 30) (fun K hK => ?_); refine Kd.R_lit_step Kd.bool _ 4 ?hg (N := 30) ?hd (xs := ([act, abU] : List Bool)) (inner := [.bool act, .bool abU]) (ok := fun _ => True) (okp := fun _ => True) ?hr ?hp (fun _ hk => hk) trivial (Below.refl _ _) (nR_ _) (by simp) ?_; (case hd => rfl); (case hg => rfl); (case hr => first | (go_simp; done) | (go_simp; rfl)); (case hp => exact (Reps.one (show Kd.M Kd.bool _ _ _ act [.bool act] from rfl) (Reps.one (show Kd.M Kd.bool _ _ _ abU [.bool abU] from rfl) (Reps.none _ _)))); intro bgD w17 arz hb hg_ hnew_; clear hg_ hnew_; (first | rw [<- aDk.out] at arz | (simp only [Int.reduceToNat] at arz; rw [<- aDk.out] at arz))
   have WC := Z_ (rL_ arz (fZ_ hB_)); replace gX := Z_ (bS_ gX.out hb); replace HB := Z_ (fS_ hB_ hb); clear hb arz; obtain ⟨vj, uT, L7⟩ := rS_ WC.out; (first | subst L7 | (injection L7 with f1_ f2_ f3_; have f4_ := f1_.symm; have f5_ := f3_.symm; clear f1_ f2_ f3_; subst f4_; subst f5_))
   refine hK.out _ _ ⟨(bC_ gX.out 0).trans rfl, (bC_ gX.out 1).trans rfl⟩ (fun hHeld => ?_); clear hK K; refine nP_ 30 ?_; refine oN_ 6 (some 31) (fun K hK => ?_); refine gO_ Try.func77 #[.agg #[.int .i64 ae, .slice ag ac.length af], .slice vj aEC.length uT] ?_; with_reducible refine (d_asked.calls kj4 ae _ _ ac _ _ aEC MQ _ ?side1 ?side2 ?side3 ?side4 A13.out).mono ?_
   (case side1 => exact cS_ (cB_ ah.out HB.out))
   (case side2 => exact ai.out)
   (case side3 => exact cS_ (rR_ WC.out).2.2)
   (case side4 => exact (rR_ WC.out).2.1)
   rintro e w20 ⟨rfl, hb⟩; refine ⟨_, rfl, ?_⟩; replace WC := Z_ (rB_ (rK_ WC.out) hb); replace gX := Z_ (bS_ gX.out hb); replace HB := Z_ (fS_ hB_ hb); (try clear hb)
   refine hK.out _ _ ⟨(bC_ gX.out 0).trans rfl, (bC_ gX.out 1).trans rfl⟩ (fun hHeld => ?_); clear hK K; refine nP_ 31 ?_; refine pP_ 7 10 ?_; refine dN_ ?_; go_upto_if 33 with (fail); have H := J5.out; clear J5; by_cases c21 : MQ = 0
   .rw [if_pos c21] at H
    obtain ⟨GG, av6⟩ := be_ c21; clear c21; (try rw [GG])
    obtain ⟨Xi, A22, H⟩ := oZ_ H; have H' := Z_ H; clear H; go_wp2_with (first | ((with_reducible refine gate_callee (f := 99) rfl ?_); refine gL_ (some 36) Try.func99 #[.slice A1 l1.length c1] ?_; (with_reducible refine (s_Clone_int_int.calls _ _ l1 Xi _ ?side1 ?side2 A22.out).mono ?_); (case side1 => exact cS_ (cB_ HR1.out HB.out)); (case side2 => exact HC1.out); rintro e w23 ⟨aLx, rfl, ho0, hb⟩; refine ⟨_, rfl, ?_⟩; replace WC := Z_ (rB_ (rK_ WC.out) hb); have aXf := Z_ (rL_ ho0 (fZ_ hB_)); replace gX := Z_ (bS_ gX.out hb); replace HB := Z_ (fS_ hB_ hb); (try clear hb); (try clear ho0); obtain ⟨⟨iU, iT⟩, iS, iR⟩ := f2_ gX.out)); go_loopg [40] kj4 (fun kq v40 w' => ∃ (i7 : List Int) (bW : Int), v40 = .int .i64 bW /\ Aside0 (d_CheckFlow.l0 kq a2 l3 i7 ac (ac.length : Int) bW ae ac = some r) /\ Aside0 (kq <= kj4) /\ Aside0 (Kd.R (Kd.int .i64) 3 w' w.heap.size (fun _ => True) aLx i7) /\ Aside0 (w'.heap[Gz]? = some (.cells #[.int .i64 ae, (.slice ag ac.length af)] 24 (0, 0))) /\ Aside0 (Below w.heap.size w w'))
    case atStart => exact ⟨(Xi), (0), rf_, H', ⟨nR_ _⟩, ⟨rK_ aXf.out⟩, ⟨bR_ gX.out⟩, ⟨hB_⟩⟩
    case round =>
     clear H'; obtain ⟨i7, bW, rfl, HA, HK2, lu, gX, HB⟩ := hrel
     cases gk with
     | zero => exact absurd HA.out (by simp [d_CheckFlow.l0])
     | succ k2 =>
      have H := HA.out; clear HA; simp only [d_CheckFlow.l0] at H; by_cases c25 : bW < (ac.length : Int)
      .rw [if_pos c25] at H
       replace c25 := eT_ c25; by_cases c26 : 0 <= bW
       .rw [if_pos c26] at H
        replace c26 := eT_ c26; by_cases c27 : bW < (ac.length : Int)
        .rw [if_pos c27] at H
         replace c27 := eT_ c27; by_cases c28 : 0 <= ((rT39 ac bW).f1)
         .rw [if_pos c28] at H
          replace c28 := eT_ c28; by_cases c29 : ((rT39 ac bW).f1) < (i7.length : Int)
          .rw [if_pos c29] at H
           replace c29 := eT_ c29; by_cases c30 : bW < (l3.length : Int)
           .rw [if_pos c30] at H
            replace c30 := eT_ c30; obtain ⟨Tp, ad2⟩ : ∃ y_ : List Int, y_ = (i7.set (((rT39 ac bW).f1) : Int).toNat (wrap64 ((rd i7 ((rT39 ac bW).f1)) - (rd l3 bW)))) := ⟨_, rfl⟩; replace H : (if 0 <= ((rT39 ac bW).f0) then (if ((rT39 ac bW).f0) < (i7.length : Int) then (d_CheckFlow.l0 k2 a2 l3 (Tp.set (((rT39 ac bW).f0) : Int).toNat (wrap64 ((rd Tp ((rT39 ac bW).f0)) + (rd l3 bW)))) ac (ac.length : Int) (wrap64 (bW + 1)) ae ac) else (none)) else (none)) = some r := by first | (rw [ad2]; with_reducible exact H) | (have H2_ := (oB_ _ _).symm.trans H; rw [ad2]; with_reducible exact H2_) | (have H2_ := (oB_ _ _).symm.trans H; with_reducible exact H2_) | with_reducible exact H | (rw [ad2]; exact H) | exact H
            have aDj := Z_ ad2; clear ad2; by_cases c32 : 0 <= ((rT39 ac bW).f0)
            .rw [if_pos c32] at H
             replace c32 := eT_ c32; by_cases c33 : ((rT39 ac bW).f0) < (i7.length : Int)
             .rw [if_pos c33] at H
              replace c33 := eT_ c33; obtain ⟨aLg, adZ⟩ : ∃ y_ : List Int, y_ = (Tp.set (((rT39 ac bW).f0) : Int).toNat (wrap64 ((rd Tp ((rT39 ac bW).f0)) + (rd l3 bW)))) := ⟨_, rfl⟩; replace H : (d_CheckFlow.l0 k2 a2 l3 aLg ac (ac.length : Int) (wrap64 (bW + 1)) ae ac) = some r := by first | (rw [adZ]; with_reducible exact H) | (have H2_ := (oB_ _ _).symm.trans H; rw [adZ]; with_reducible exact H2_) | (have H2_ := (oB_ _ _).symm.trans H; with_reducible exact H2_) | with_reducible exact H | (rw [adZ]; exact H) | exact H
              have aWz := Z_ adZ; clear adZ; have H' := Z_ H; clear H; have aG4 : 0 <= (bW : Int) := dT_ as_; have aFZ : bW < (ac.length : Int) := dT_ as_; obtain ⟨awB, a8l, alb, ala, ak9⟩ := at_T39 ah.out bW aG4 aFZ; cases a8l
              replace alb := pw_cell_below HB.out alb; replace ala := pw_cell_below HB.out ala; replace ak9 := pw_cell_below HB.out ak9; replace aG4 := eq_true aG4; replace aFZ := eq_true aFZ; try go_wp2_with (first | ((with_reducible refine gate_dst (N := 13) rfl ?_); refine bX_ 13 #[.int .i64 0, .int .i64 0, .int .i64 0] 39 ?_; intro pV hg w35 hbox hb; replace lu := Z_ (rB_ (rK_ lu.out) hb); have xB := Z_ (hbox); have bdk := Z_ ((by rw [hg]; exact (fZ_ hB_) : w.heap.size <= pV)); have bev := Z_ ((by rw [hg]; exact (fZ_ hB_) : w.heap.size <= pV)); replace HB := Z_ (fS_ hB_ hb); have aoV := Z_ ((nB_ hg gX.out : Gz ≠ pV)); have aoU := Z_ ((by rw [hg]; exact Nat.ne_of_gt (blk_lt (g := Gz) (o := .cells #[.int .i64 ae, .slice (some awB) ac.length af] 24 (0, 0)) (bR_ gX.out)) : pV ≠ Gz)); replace gX := Z_ (bS_ gX.out hb); clear hb hbox hg; have aCk := aoU.out; have aBZ := aoV.out; obtain ⟨⟨oe, od, Tk⟩, oa, n9, S4⟩ := f3_ xB.out))
              have n0_ : Aside0 (Kd.R (Kd.int .i64) 3 (((w35.setCell ⟨pV, 0, none⟩ (.int .i64 ((rT39 ac bW).f0))).setCell ⟨pV, 1, none⟩ (.int .i64 ((rT39 ac bW).f1))).setCell ⟨pV, 2, none⟩ (.int .i64 ((rT39 ac bW).f2))) w.heap.size (fun _ => True) aLx i7) := ⟨by (with_reducible repeat (first | apply rN_ | apply rD_)); exact rM_ (rF_ (p := ⟨pV, 2, none⟩) (rF_ (p := ⟨pV, 1, none⟩) (rF_ (p := ⟨pV, 0, none⟩) (Kd.R_types lu.out xB.out (by decide)) (fun _ hk => hk.2) (.int .i64 ((rT39 ac bW).f0))) (fun _ hk => hk.2) (.int .i64 ((rT39 ac bW).f1))) (fun _ hk => hk.2) (.int .i64 ((rT39 ac bW).f2))) (fun _ hk => trivial)⟩; have n1_ : Aside0 ((((w35.setCell ⟨pV, 0, none⟩ (.int .i64 ((rT39 ac bW).f0))).setCell ⟨pV, 1, none⟩ (.int .i64 ((rT39 ac bW).f1))).setCell ⟨pV, 2, none⟩ (.int .i64 ((rT39 ac bW).f2))).heap[Gz]? = some (.cells #[.int .i64 ae, .slice (some awB) ac.length af] 24 (0, 0))) := ⟨bQ_ gX.out⟩; have n2_ : Aside0 ((((w35.setCell ⟨pV, 0, none⟩ (.int .i64 ((rT39 ac bW).f0))).setCell ⟨pV, 1, none⟩ (.int .i64 ((rT39 ac bW).f1))).setCell ⟨pV, 2, none⟩ (.int .i64 ((rT39 ac bW).f2))).heap[pV]? = some (.cells #[.int .i64 ((rT39 ac bW).f0), .int .i64 ((rT39 ac bW).f1), .int .i64 ((rT39 ac bW).f2)] 39 (0, 0))) := ⟨by refine bM_ ?_; refine blk_put (cs := #[.int .i64 ((rT39 ac bW).f0), .int .i64 ((rT39 ac bW).f1), .int .i64 0]) ?_ 2 _ rfl; refine bM_ ?_; refine blk_put (cs := #[.int .i64 ((rT39 ac bW).f0), .int .i64 0, .int .i64 0]) ?_ 1 _ rfl; refine bM_ ?_; refine blk_put (cs := #[.int .i64 0, .int .i64 0, .int .i64 0]) ?_ 0 _ rfl; exact bR_ xB.out⟩; have n3_ : Aside0 (Below w.heap.size w (((w35.setCell ⟨pV, 0, none⟩ (.int .i64 ((rT39 ac bW).f0))).setCell ⟨pV, 1, none⟩ (.int .i64 ((rT39 ac bW).f1))).setCell ⟨pV, 2, none⟩ (.int .i64 ((rT39 ac bW).f2)))) := ⟨hB_⟩; (try clear lu)
              (try clear gX)
              (try clear xB)
              (try clear HB)
              generalize (((w35.setCell ⟨pV, 0, none⟩ (.int .i64 ((rT39 ac bW).f0))).setCell ⟨pV, 1, none⟩ (.int .i64 ((rT39 ac bW).f1))).setCell ⟨pV, 2, none⟩ (.int .i64 ((rT39 ac bW).f2))) = w38 at n0_ n1_ n2_ n3_ ⊢; have lu := n0_; have gX := n1_; have xB := n2_; have HB := n3_; clear n0_ n1_ n2_ n3_; replace lu := Z_ (rD_ lu.out); replace gX := Z_ (bD_ gX.out); replace xB := Z_ (bD_ xB.out); replace HB := Z_ (fD_ HB.out); obtain ⟨XA, JC, Lt⟩ := rS_ lu.out; (first | subst Lt | (injection Lt with f1_ f2_ f3_; have f4_ := f1_.symm; have f5_ := f3_.symm; clear f1_ f2_ f3_; subst f4_; subst f5_))
              have aG3 : 0 <= (((rT39 ac bW).f1) : Int) := dT_ as_; have aFY : ((rT39 ac bW).f1) < (i7.length : Int) := dT_ as_; obtain ⟨bb9, a8k, aaG⟩ := Kd.at_int (rR_ lu.out).2.2 ((rT39 ac bW).f1) aG3 aFY; cases a8k
              replace aG3 := eq_true aG3; replace aFY := eq_true aFY; have aG2 : 0 <= (bW : Int) := dT_ as_; have aFX : bW < (l3.length : Int) := dT_ as_; obtain ⟨awA, a8j, Sm⟩ := Kd.at_int HR3.out bW aG2 aFX; have alJ := Sm; cases a8j
              replace Sm := pw_cell_below HB.out Sm; replace aG2 := eq_true aG2; replace aFX := eq_true aFX; have p31 : 0 <= (((rT39 ac bW).f1) : Int) := dT_ as_; have q31 : (((rT39 ac bW).f1) : Int) < ((i7.length : Int) : Int) := dT_ as_; obtain ⟨abw, EW, L6, aTj, a64, bh4, aXB⟩ := Kd.R_form lu.out (by omega); (first | cases L6 | (injection L6 with ea_ en_ ec_; (first | subst ea_ | (injection ea_ with ea_; subst ea_)); subst ec_; clear en_))
              have biq := Z_ aTj; have a9C := Z_ aXB; clear aTj a64 aXB; (first | simp only [add_plain] at aaG | skip)
              obtain ⟨aHF, aIw⟩ := Kd.R_celln 0 lu.out (((rT39 ac bW).f1) : Int) p31 q31; replace p31 := eq_true p31; replace q31 := eq_true q31; have aKj := Kd.R_putn lu.out (((rT39 ac bW).f1) : Int) (wrap64 ((rd i7 ((rT39 ac bW).f1)) - (rd l3 bW))); rw [<- aDj.out] at aKj; have aJ3 := Z_ aKj; clear aKj; refine start_ (n := 12) (S := fun w' => w'.cell? ⟨pV, 0, none⟩ = some (.int .i64 ((rT39 ac bW).f0)) /\ w'.cell? ⟨pV, 1, none⟩ = some (.int .i64 ((rT39 ac bW).f1)) /\ w'.cell? ⟨pV, 2, none⟩ = some (.int .i64 ((rT39 ac bW).f2)) /\ w'.cell? ⟨abw, (((rT39 ac bW).f1)).toNat, none⟩ = some (.int .i64 (rd i7 ((rT39 ac bW).f1))) /\ w'.cell? (awA.add (bW).toNat) = some (.int .i64 (rd l3 bW))) (ds := [11]) _ (by kernel_rfl) rfl rfl ⟨(bC_ xB.out 0).trans rfl, (bC_ xB.out 1).trans rfl, (bC_ xB.out 2).trans rfl, aaG, ((HB.out.cell (World.block_lt_of_cell? w _ alJ)).trans alJ)⟩ (fun hHeld => ?_); refine with_tabW d_CheckFlow.tab9 d_CheckFlow.bits9 (fun HT_ HW_ => ?_); generalize w38.drew = w39 at lu gX xB HB a9C aJ3 aIw aaG Sm aHF hHeld ⊢; refine pP_ 0 45 ?_; refine pP_ 1 46 ?_; refine pP_ 5 50 ?_; refine pP_ 6 51 ?_; refine pP_ 7 52 ?_; refine pT_ 2 47 ?_; refine pP_ 3 48 ?_; refine pT_ 4 49 ?_; refine pT_ 8 53 ?_; refine pP_ 9 54 ?_; refine pP_ 10 55 ?_; refine lN_ 11 none (fun K hK => ?_); refine skip_ (w1 := ?_) (by rfl) rfl ?_ ?_; rotate_left
              .go_simp
               rfl
              refine hK.out _ _ ?_; clear hK K; refine dN_ ?_; try go_wp2
              have n0_ : Aside0 (Kd.R (Kd.int .i64) 3 (w39.setCell ⟨abw, (((rT39 ac bW).f1) : Int).toNat, none⟩ (.int .i64 (wrap64 ((rd i7 ((rT39 ac bW).f1)) - (rd l3 bW))))) w.heap.size (fun _ => True) (.slice (some ⟨abw, 0, none⟩) i7.length JC) Tp) := ⟨rK_ aJ3.out⟩; have n1_ : Aside0 ((w39.setCell ⟨abw, (((rT39 ac bW).f1) : Int).toNat, none⟩ (.int .i64 (wrap64 ((rd i7 ((rT39 ac bW).f1)) - (rd l3 bW))))).heap[Gz]? = some (.cells #[.int .i64 ae, .slice (some awB) ac.length af] 24 (0, 0))) := ⟨by refine bM_ ?_; refine blk_far ?_ (by have h_ := Kd.R_ne lu.out gX.out (by decide); intro e_; exact h_ (by rw [e_]; rfl)) _; exact bR_ gX.out⟩; have n2_ : Aside0 ((w39.setCell ⟨abw, (((rT39 ac bW).f1) : Int).toNat, none⟩ (.int .i64 (wrap64 ((rd i7 ((rT39 ac bW).f1)) - (rd l3 bW))))).heap[pV]? = some (.cells #[.int .i64 ((rT39 ac bW).f0), .int .i64 ((rT39 ac bW).f1), .int .i64 ((rT39 ac bW).f2)] 39 (0, 0))) := ⟨by refine bM_ ?_; refine blk_far ?_ (by have h_ := Kd.R_ne lu.out xB.out (by decide); intro e_; exact h_ (by rw [e_]; rfl)) _; exact bR_ xB.out⟩; have n3_ : Aside0 (Below w.heap.size w (w39.setCell ⟨abw, (((rT39 ac bW).f1) : Int).toNat, none⟩ (.int .i64 (wrap64 ((rd i7 ((rT39 ac bW).f1)) - (rd l3 bW)))))) := ⟨hB_⟩; (try clear lu)
              (try clear gX)
              (try clear xB)
              (try clear HB)
              generalize (w39.setCell ⟨abw, (((rT39 ac bW).f1) : Int).toNat, none⟩ (.int .i64 (wrap64 ((rd i7 ((rT39 ac bW).f1)) - (rd l3 bW))))) = w42 at n0_ n1_ n2_ n3_ ⊢; have lu := n0_; have gX := n1_; have xB := n2_; have HB := n3_; clear n0_ n1_ n2_ n3_; replace lu := Z_ (rD_ lu.out); replace gX := Z_ (bD_ gX.out); replace xB := Z_ (bD_ xB.out); replace HB := Z_ (fD_ HB.out); have aG1 : 0 <= (((rT39 ac bW).f0) : Int) := dT_ as_; have aFW : ((rT39 ac bW).f0) < (Tp.length : Int) := (by have h_ : (((rT39 ac bW).f0) : Int) < ((i7.length : Int) : Int) := dT_ as_; first | (have e_ := (rR_ lu.out).1; omega) | simpa only [aDj.out, List.length_set] using h_); have baB : ((((rT39 ac bW).f0) : Int) < ((i7.length : Int) : Int)) = True := eq_true (dT_ as_); obtain ⟨aVX, a8i, Nr⟩ := Kd.at_int (rR_ lu.out).2.2 ((rT39 ac bW).f0) aG1 aFW; obtain rfl : (⟨abw, 0, none⟩ : Addr) = aVX := (by injection a8i); (first | simp only [add_plain] at Nr | simp only [add_at] at Nr | simp only [Addr.add, Nat.zero_add] at Nr | skip)
              replace aG1 := eq_true aG1; replace aFW := eq_true aFW; have aG0 : 0 <= (bW : Int) := dT_ as_; have aFV : bW < (l3.length : Int) := dT_ as_; obtain ⟨aVW, a8h, Sl⟩ := Kd.at_int HR3.out bW aG0 aFV; have alI := Sl; obtain rfl : awA = aVW := (by injection a8h); replace Sl := pw_cell_below HB.out Sl; replace aG0 := eq_true aG0; replace aFV := eq_true aFV; have p34 : 0 <= (((rT39 ac bW).f0) : Int) := dT_ as_; have q34 : (((rT39 ac bW).f0) : Int) < ((i7.length : Int) : Int) := dT_ as_; obtain ⟨arm, atB⟩ := Kd.R_celln 0 lu.out (((rT39 ac bW).f0) : Int) p34 q34; replace p34 := eq_true p34; replace q34 := eq_true q34; have aKh := Kd.R_putn lu.out (((rT39 ac bW).f0) : Int) (wrap64 ((rd Tp ((rT39 ac bW).f0)) + (rd l3 bW))); rw [<- aWz.out] at aKh; have aW2 := Z_ aKh; clear aKh; refine start_ (n := 12) (S := fun w' => w'.cell? ⟨pV, 0, none⟩ = some (.int .i64 ((rT39 ac bW).f0)) /\ w'.cell? ⟨pV, 1, none⟩ = some (.int .i64 ((rT39 ac bW).f1)) /\ w'.cell? ⟨pV, 2, none⟩ = some (.int .i64 ((rT39 ac bW).f2)) /\ w'.cell? ⟨abw, (((rT39 ac bW).f0)).toNat, none⟩ = some (.int .i64 (rd Tp ((rT39 ac bW).f0))) /\ w'.cell? (awA.add (bW).toNat) = some (.int .i64 (rd l3 bW))) (ds := [11]) _ (by kernel_rfl) rfl rfl ⟨(bC_ xB.out 0).trans rfl, (bC_ xB.out 1).trans rfl, (bC_ xB.out 2).trans rfl, Nr, ((HB.out.cell (World.block_lt_of_cell? w _ alI)).trans alI)⟩ (fun hHeld => ?_); refine with_tabW d_CheckFlow.tab10 d_CheckFlow.bits10 (fun HT_ HW_ => ?_); generalize w42.drew = w43 at lu gX xB HB aJ3 aW2 atB Nr Sl arm hHeld ⊢; refine pP_ 0 56 ?_; refine pP_ 1 57 ?_; refine pP_ 5 61 ?_; refine pP_ 6 62 ?_; refine pP_ 7 63 ?_; refine pT_ 2 58 ?_; refine pP_ 3 59 ?_; refine pT_ 4 60 ?_; refine pT_ 8 64 ?_; refine pP_ 9 65 ?_; refine pP_ 10 66 ?_; refine lN_ 11 none (fun K hK => ?_); refine skip_ (w1 := ?_) (by rfl) rfl ?_ ?_; rotate_left
              .go_simp
               rfl
              refine hK.out _ _ ?_; clear hK K; refine dN_ ?_; try go_wp2
              go_roundg k2
              case measure => have := HJ4.out; have := HK2.out; omega
              case rel => exact ⟨(aLg), (wrap64 (bW + 1)), rf_, H', ⟨by have := HJ4.out; have := HK2.out; omega⟩, ⟨rK_ aW2.out⟩, ⟨by refine bM_ ?_; refine blk_far ?_ (by have h_ := Kd.R_ne lu.out gX.out (by decide); intro e_; exact h_ (by rw [e_]; rfl)) _; exact bR_ gX.out⟩, ⟨hB_⟩⟩
             exact nN_ c33 H
            exact nN_ c32 H
           exact nN_ c30 H
          exact nN_ c29 H
         exact nN_ c28 H
        exact nN_ c27 H
       exact nN_ c26 H
      rw [if_neg c25] at H; replace c25 := eF_ c25; by_cases c45 : 0 < (i7.length : Int)
      .rw [if_pos c45] at H
       have En : decide (0 < (i7.length : Int)) = true := eT_ c45; have Qq : decide (0 < i7.length) = true := eT_ (by omega); clear c45; obtain ⟨WX, adY⟩ : ∃ y_ : List Int, y_ = (i7.set (0 : Int).toNat 0) := ⟨_, rfl⟩; replace H : ((cf100.f WX).bind fun apW => (if apW = true then (d_CheckFlow.j2 k2 true) else ((d_cost.f k2 ae ac l3).bind fun Xh => (d_CheckFlow.j2 k2 (decide (Xh > a2)))))) = some r := by first | (rw [adY]; with_reducible exact H) | (have H2_ := (oB_ _ _).symm.trans H; rw [adY]; with_reducible exact H2_) | (have H2_ := (oB_ _ _).symm.trans H; with_reducible exact H2_) | with_reducible exact H | (rw [adY]; exact H) | exact H
       have aWy := Z_ adY; clear adY; have aKG := Z_ H; clear H; have p46 : 0 <= (0 : Int) := (by omega); have q46 : (0 : Int) < ((i7.length : Int) : Int) := dT_ as_; have bha : (0 < i7.length) = True := eq_true (by omega); obtain ⟨auZ, Xw, aiz, aTe, a6Z, bhZ, aXw⟩ := Kd.R_form lu.out (by omega); (first | cases aiz | (injection aiz with ea_ en_ ec_; (first | subst ea_ | (injection ea_ with ea_; subst ea_)); subst ec_; clear en_))
       have a90 := Z_ aTe; have bii := Z_ aXw; clear aTe a6Z aXw; obtain ⟨arl, atA⟩ := Kd.R_celln 0 lu.out (0 : Int) p46 q46; (try rw [show ((0 : Int)).toNat = 0 from rfl] at arl)
       (try simp only [Nat.reduceMul, Nat.zero_mul, Nat.zero_add, Nat.reduceAdd] at arl)
       (try rw [show ((0 : Int)).toNat = 0 from rfl] at atA)
       (try simp only [Nat.reduceMul, Nat.zero_mul, Nat.zero_add, Nat.reduceAdd] at atA)
       replace p46 := eq_true p46; replace q46 := eq_true q46; have aKg := Kd.R_putg lu.out (0 : Int) 0; go_upto_region 13 with (first | ((with_reducible refine gate_store (t := 3) (p := 69) rfl ?_); refine store_event (t := 3) (p := 69) (v := ?vo_w49) (w1 := (wr.setCell ⟨auZ, (0 : Int).toNat, none⟩ (.int .i64 0))) ?hg ?ho ?hn ?hr ?_; (case ho => rfl); (case hg => rfl); (case hn => rfl); (case hr => first | (go_simp; done) | (go_simp; rfl)); intro w49 hw; have hg : wr.grownBy w49 (some auZ) := (by rw [hw]; exact aKg.2); have hp_ : Kd.R (Kd.int .i64) 3 w49 w.heap.size (fun _ => True) (.slice (some ⟨auZ, 0, none⟩) i7.length Xw) WX := (by rw [hw, aWy.out]; exact aKg.1); clear aKg; replace gX := Z_ (blk_grown (g := Gz) (o := .cells #[.int .i64 ae, .slice ag ac.length af] 24 (0, 0)) (bR_ gX.out) hg (Kd.R_ne lu.out gX.out (by decide))); replace lu := Z_ (hp_); replace HB := Z_ ((by rw [hw]; exact fE_ (HB.out) a90.out : Below w.heap.size w w49)); clear hg hw hp_)); (try simp only [Act.put, sT_, sZ_, sS_])
       go_cut [78] (fun v78 wc => ∃ (kq : Nat) (Zq : Bool), v78 = .bool Zq /\ Aside0 (d_CheckFlow.j2 kq Zq = some r) /\ Aside0 (kq <= k2) /\ Aside0 (wc.heap[Gz]? = some (.cells #[.int .i64 ae, (.slice ag ac.length af)] 24 (0, 0))) /\ Aside0 (Below w.heap.size w wc))
       case first =>
        have H := aKG.out; clear aKG; obtain ⟨apW, A50, H⟩ := oZ_ H; by_cases c51 : apW = true
        .subst c51
         rw [if_pos rfl] at H; have H' := Z_ H; clear H; go_wp2_with (first | ((with_reducible refine gate_callee (f := 57) rfl ?_); refine goesL_ (some 71) rfl rfl Try.func57 (by kernel_rfl) rfl #[.slice (some ⟨auZ, 0, none⟩) WX.length Xw, .func (.func 100) #[] #[]] rfl (by (try simp only [mT_, mC_, mN_]); first | done | (rw [show WX.length = i7.length from (rR_ lu.out).1.symm] <;> rfl) | rfl | (simp only [lD_, lT_]; rfl)) ?_; (with_reducible refine (cf100.calls _ _ WX true _ ?side1 ?side2 A50.out).mono ?_); (case side1 => exact cS_ (rR_ lu.out).2.2); (case side2 => rw [show WX.length = i7.length from (rR_ lu.out).1.symm]; exact (rR_ lu.out).2.1); rintro e w52 ⟨rfl, hb⟩; refine ⟨_, rfl, ?_⟩; replace lu := Z_ (rB_ (rK_ lu.out) hb); replace gX := Z_ (bS_ gX.out hb); replace HB := Z_ (fS_ hB_ hb); (try clear hb))); go_meet
         case rel => exact ⟨_, (true), rf_, H', ⟨by have := HJ4.out; have := HK2.out; first | omega | exact nR_ _⟩, ⟨bR_ gX.out⟩, ⟨hB_⟩⟩
        replace c51 := bE_.mpr c51; subst c51; have H1 : ((d_cost.f k2 ae ac l3).bind fun Xh => (d_CheckFlow.j2 k2 (decide (Xh > a2)))) = some r := by rw [if_neg (show ¬ (false = true) by decide)] at H; exact H
        clear H; have H := H1; clear H1; obtain ⟨Xh, A53, H⟩ := oZ_ H; have H' := Z_ H; clear H; go_wp2_with (first | ((with_reducible refine gate_callee (f := 57) rfl ?_); refine goesL_ (some 71) rfl rfl Try.func57 (by kernel_rfl) rfl #[.slice (some ⟨auZ, 0, none⟩) WX.length Xw, .func (.func 100) #[] #[]] rfl (by (try simp only [mT_, mC_, mN_]); first | done | (rw [show WX.length = i7.length from (rR_ lu.out).1.symm] <;> rfl) | rfl | (simp only [lD_, lT_]; rfl)) ?_; (with_reducible refine (cf100.calls _ _ WX false _ ?side1 ?side2 A50.out).mono ?_); (case side1 => exact cS_ (rR_ lu.out).2.2); (case side2 => rw [show WX.length = i7.length from (rR_ lu.out).1.symm]; exact (rR_ lu.out).2.1); rintro e w54 ⟨rfl, hb⟩; refine ⟨_, rfl, ?_⟩; replace lu := Z_ (rB_ (rK_ lu.out) hb); replace gX := Z_ (bS_ gX.out hb); replace HB := Z_ (fS_ hB_ hb); (try clear hb); obtain ⟨⟨BQ, BP⟩, BF, BE⟩ := f2_ gX.out) | (go_at_call 80; (with_reducible refine (d_cost.calls k2 ae _ _ ac _ _ l3 Xh _ ?side1 ?side2 ?side3 ?side4 A53.out).mono ?_); (case side1 => exact cS_ (cB_ ah.out HB.out)); (case side2 => exact ai.out); (case side3 => exact cS_ (cB_ HR3.out HB.out)); (case side4 => exact HC3.out); rintro e w56 ⟨rfl, hb⟩; replace lu := Z_ (rB_ (rK_ lu.out) hb); replace gX := Z_ (bS_ gX.out hb); replace HB := Z_ (fS_ hB_ hb); (try clear hb))); go_meet
        case rel => exact ⟨_, (decide (Xh > a2)), rf_, H', ⟨by have := HJ4.out; have := HK2.out; first | omega | exact nR_ _⟩, ⟨bR_ gX.out⟩, ⟨hB_⟩⟩
       case rest =>
        clear aKG; obtain ⟨kq, Zq, rfl, HA, bib, gX, HB⟩ := hcut
        cases kq with
        | zero => exact absurd HA.out (by simp [d_CheckFlow.j2])
        | succ bhb =>
         have H := HA.out; clear HA; simp only [d_CheckFlow.j2] at H; by_cases c57 : Zq = true
         .subst c57
          rw [if_pos rfl] at H; obtain rfl := oI_ H; go_wp2; go_ret; exact ⟨eW_, hB_⟩
         replace c57 := bE_.mpr c57; subst c57; have H1 : (some 0) = some r := by rw [if_neg (show ¬ (false = true) by decide)] at H; exact H
         clear H; have H := H1; clear H1; obtain rfl := oI_ H; go_wp2; go_ret; exact ⟨eW_, hB_⟩
      exact nN_ c45 H
   rw [if_neg c21] at H; obtain ⟨GG, av6⟩ := bn_ c21; (try rw [GG])
   obtain rfl := oI_ H; go_wp2; go_ret; exact ⟨eW_, hB_⟩
def d_Add.f (k : Nat) (ae : Int) (ac : List (S39)) (aj : Int) (ao : Int) (aw : Int) : Option (Int × (List (S39)) × Int) := (d_Check.f k ae ac).bind fun acs => (if acs = 0 then (if (ac.length : Int) = 4096 then (some (0, ([] : List (S39)), 2)) else ((d_right.f aj ao aw ae).bind fun aon => (if aon = true then ((y_62.f ac).bind fun LX => ((some (([(⟨aj, ao, aw⟩ : S39)] : List (S39)) : List (S39))).bind fun Ml => (if LX.length + Ml.length < 5864062014805 then (some (ae, (LX ++ Ml), 0)) else (none)))) else (some (0, ([] : List (S39)), 40))))) else (some (0, ([] : List (S39)), acs)))
theorem d_Add.mono : ∀ a0 a1 a2 a3 a4 k, LeO (d_Add.f k a0 a1 a2 a3 a4) (d_Add.f (k + 1) a0 a1 a2 a3 a4) := by
 intro a0 a1 a2 a3 a4 k; unfold d_Add.f; repeat' first | (with_reducible first | exact d_Check.mono _ _ _ | exact LeO.refl _ | exact LeO.none _ | refine LeO.ite ?_ ?_ | refine LeO.bind ?_ (fun _ => ?_))
def d_Add.T8 : Bool × List (List Nat × List Nat) := (true, [([], []), ([0], [0]), ([], []), ([2], [2]), ([3], [3]), ([], []), ([5], [5]), ([4, 6, 4], [4, 6]), ([1, 7], [1, 7]), ([8, 7, 0, 1, 2, 3, 4, 5, 6, 7, 8], [8]), ([9, 0, 1, 2, 3, 4, 5, 6, 7, 8, 9], [])])
def d_Add.B8 : List Nat := [0, 1, 0, 4, 12, 0, 32, 124, 255, 511, 1023]
theorem d_Add.tab8 : rtab .any (opsOf Try.f63 8) = d_Add.T8 := by kernel_rfl
theorem d_Add.bits8 : waitsOk d_Add.T8.2 d_Add.B8 = true := by kernel_rfl
theorem d_Add.calls (k : Nat) (ae : Int) (ag : Option Addr) (af : Nat) (ac : List (S39)) (aj : Int) (ao : Int) (aw : Int) (r1 : Int) (r2 : List (S39)) (r3 : Int) (w : World) (aA : Kd.C k39 w ag ac.length ac) (aC : ac.length <= af) (h : d_Add.f k ae ac aj ao aw = some (r1, r2, r3)) :
  Calls Try.prog 63 #[.agg #[.int .i64 ae, .slice ag ac.length af], .agg #[.int .i64 aj, .int .i64 ao, .int .i64 aw]] w fun e w' => ∃ v1_ : Value, e = .returned (.tuple #[.agg #[.int .i64 r1, v1_], .int .i64 r3]) /\ Kd.R k39 39 w' w.heap.size (fun _ => True) v1_ r2 /\ Below w.heap.size w w' := by
 have ja := Try.underlying24; have zm := Try.underlying39; have ah := Z_ aA; have ai := Z_ aC; clear aA aC; have HB := Z_ (Below.refl w.heap.size w); have H : ((d_Check.f k ae ac).bind fun acs => (if acs = 0 then (if (ac.length : Int) = 4096 then (some (0, ([] : List (S39)), 2)) else ((d_right.f aj ao aw ae).bind fun aon => (if aon = true then ((y_62.f ac).bind fun LX => ((some (([(⟨aj, ao, aw⟩ : S39)] : List (S39)) : List (S39))).bind fun Ml => (if LX.length + Ml.length < 5864062014805 then (some (ae, (LX ++ Ml), 0)) else (none)))) else (some (0, ([] : List (S39)), 40))))) else (some (0, ([] : List (S39)), acs)))) = some (r1, r2, r3) := h; clear h; obtain ⟨acs, A3, H⟩ := oZ_ H; have HF4 := Z_ H; clear H; go_enter Try.func63, Try.ntmps63; go_upto_if 10 with (first | ((with_reducible refine gate_dst (N := 2) rfl ?_); refine bX_ 2 #[.int .i64 ae, .slice ag ac.length af] 24 ?_; intro Cs hg w5 hbox hb; have lb := Z_ (hbox); have bdj := Z_ ((by rw [hg]; exact (fZ_ hB_) : w.heap.size <= Cs)); have beu := Z_ ((by rw [hg]; exact (fZ_ hB_) : w.heap.size <= Cs)); replace HB := Z_ (fS_ hB_ hb); clear hb hbox hg) | ((with_reducible refine gate_dst (N := 3) rfl ?_); refine bX_ 3 #[.int .i64 aj, .int .i64 ao, .int .i64 aw] 39 ?_; intro pU hg w6 hbox hb; have jN := Z_ (hbox); have bdi := Z_ ((by rw [hg]; exact (fZ_ hB_) : w.heap.size <= pU)); have bet := Z_ ((by rw [hg]; exact (fZ_ hB_) : w.heap.size <= pU)); replace HB := Z_ (fS_ hB_ hb); have Px := Z_ ((nB_ hg lb.out : Cs ≠ pU)); have Pw := Z_ ((by rw [hg]; exact Nat.ne_of_gt (blk_lt (g := Cs) (o := .cells #[.int .i64 ae, .slice ag ac.length af] 24 (0, 0)) (bR_ lb.out)) : pU ≠ Cs)); replace lb := Z_ (bS_ lb.out hb); clear hb hbox hg) | ((with_reducible refine gate_dst (N := 4) rfl ?_); refine bX_ 4 #[.int .i64 0, .slice none 0 0] 24 ?_; intro rW hg w7 hbox hb; have oB := Z_ (hbox); have bdh := Z_ ((by rw [hg]; exact (fZ_ hB_) : w.heap.size <= rW)); have bes := Z_ ((by rw [hg]; exact (fZ_ hB_) : w.heap.size <= rW)); replace HB := Z_ (fS_ hB_ hb); have si := Z_ ((nB_ hg lb.out : Cs ≠ rW)); have Bt := Z_ ((by rw [hg]; exact Nat.ne_of_gt (blk_lt (g := Cs) (o := .cells #[.int .i64 ae, .slice ag ac.length af] 24 (0, 0)) (bR_ lb.out)) : rW ≠ Cs)); replace lb := Z_ (bS_ lb.out hb); have qr := Z_ ((nB_ hg jN.out : pU ≠ rW)); have DH := Z_ ((by rw [hg]; exact Nat.ne_of_gt (blk_lt (g := pU) (o := .cells #[.int .i64 aj, .int .i64 ao, .int .i64 aw] 39 (0, 0)) (bR_ jN.out)) : rW ≠ pU)); replace jN := Z_ (bS_ jN.out hb); clear hb hbox hg; have aaM := Px.out; have aaL := Pw.out; have Xs := si.out; have Xr := Bt.out; obtain ⟨⟨gP, gO⟩, gM, gK⟩ := f2_ lb.out) | ((with_reducible refine gate_callee (f := 29) rfl ?_); refine gL_ (some 8) Try.func29 #[.agg #[.int .i64 ae, .slice ag ac.length af]] ?_; (with_reducible refine (d_Check.calls k ae _ _ ac acs _ ?side1 ?side2 A3.out).mono ?_); (case side1 => exact cS_ (cB_ ah.out HB.out)); (case side2 => exact ai.out); rintro e w11 ⟨rfl, hb⟩; refine ⟨_, rfl, ?_⟩; replace lb := Z_ (bS_ lb.out hb); replace jN := Z_ (bS_ jN.out hb); replace oB := Z_ (bS_ oB.out hb); replace HB := Z_ (fS_ hB_ hb); (try clear hb))); (try simp only [Act.put, sT_, sZ_, sS_])
 have H := HF4.out; clear HF4; by_cases c12 : acs = 0
 .rw [if_pos c12] at H
  obtain ⟨gh, pX⟩ := be_ c12; clear c12; (try rw [gh])
  by_cases c13 : (ac.length : Int) = 4096
  .rw [if_pos c13] at H
   have jM : ((ac.length : Int) == 4096) = true := beq_iff_eq.mpr c13; have xw : ((ac.length : Int) != 4096) = false := bne_eq_false_iff_eq.mpr c13; clear c13; simp only [oJ_, pI_] at H; obtain ⟨rfl, rfl, rfl⟩ := H; have Qe := Px.out; have Qa := Pw.out; have X9 := si.out; have X6 := Bt.out; obtain ⟨⟨gG, gE⟩, gB, gA⟩ := f2_ lb.out; have aeX := DH.out; have aeP := qr.out; obtain ⟨⟨kw, kv⟩, kr, kp⟩ := f2_ oB.out; go_wp2; refine bodyPost_ret (results_ct rfl _ _ rW 24 #[.int .i64 0, .slice none 0 0] (0, 0) _ rfl (by refine bM_ ?_; refine blk_put (cs := #[.int .i64 0, .slice none 0 0]) ?_ 1 _ rfl; refine bM_ ?_; refine blk_put (cs := #[.int .i64 0, .slice none 0 0]) ?_ 0 _ rfl; exact bR_ oB.out) Try.underlying24 rfl (by kernel_rfl)) rfl ?_; exact ⟨_, eW_, by first | exact Kd.R_nil _ _ _ _ _ | exact Kd.N_nil _ _ _ _ _ | exact Kd.V_nil _ _ _ _ _ | exact Kd.Q_nil _ _ _ _ _ | exact Kd.S_nil _ _ _ _ _, hB_⟩
  rw [if_neg c13] at H; have jM : ((ac.length : Int) == 4096) = false := beq_eq_false_iff_ne.mpr c13; have xw : ((ac.length : Int) != 4096) = true := bne_iff_ne.mpr c13; obtain ⟨aon, A19, H⟩ := oZ_ H; have agK := Z_ H; clear H; have NH := Px.out; have NF := Pw.out; have Qc := si.out; have P8 := Bt.out; obtain ⟨⟨jL, jK⟩, jJ, jI⟩ := f2_ lb.out; have Vs := qr.out; have Vo := DH.out; obtain ⟨⟨gD, gC, uz⟩, gz, gy, uq⟩ := f3_ jN.out; go_upto_if 22 with (first | ((with_reducible refine gate_callee (f := 76) rfl ?_); refine gL_ (some 21) Try.func76 #[.agg #[.int .i64 aj, .int .i64 ao, .int .i64 aw], .int .i64 ae] ?_; (with_reducible refine (d_right.calls aj ao aw ae aon _ A19.out).mono ?_); rintro e w26 ⟨rfl, hb⟩; refine ⟨_, rfl, ?_⟩; replace lb := Z_ (bS_ lb.out hb); replace jN := Z_ (bS_ jN.out hb); replace oB := Z_ (bS_ oB.out hb); replace HB := Z_ (fS_ hB_ hb); (try clear hb))); (try simp only [Act.put, sT_, sZ_, sS_])
  have H := agK.out; clear agK; by_cases c27 : aon = true
  .subst c27
   rw [if_pos rfl] at H; obtain ⟨LX, A28, H⟩ := oZ_ H; obtain ⟨Ml, adX⟩ : ∃ y_ : List (S39), y_ = (([(⟨aj, ao, aw⟩ : S39)] : List (S39))) := ⟨_, rfl⟩; replace H : (if LX.length + Ml.length < 5864062014805 then (some (ae, (LX ++ Ml), 0)) else (none)) = some (r1, r2, r3) := by first | (rw [adX]; with_reducible exact H) | (have H2_ := (oB_ _ _).symm.trans H; rw [adX]; with_reducible exact H2_) | (have H2_ := (oB_ _ _).symm.trans H; with_reducible exact H2_) | with_reducible exact H | (rw [adX]; exact H) | exact H
   have ana := Z_ adX; clear adX; by_cases c29 : LX.length + Ml.length < 5864062014805
   .rw [if_pos c29] at H
    have aWU := Z_ c29; clear c29; obtain ⟨aEB, adW⟩ : ∃ y_ : List (S39), y_ = (LX ++ Ml) := ⟨_, rfl⟩; replace H : (some (ae, aEB, 0)) = some (r1, r2, r3) := by first | (rw [adW]; with_reducible exact H) | (have H2_ := (oB_ _ _).symm.trans H; rw [adW]; with_reducible exact H2_) | (have H2_ := (oB_ _ _).symm.trans H; with_reducible exact H2_) | with_reducible exact H | (rw [adW]; exact H) | exact H
    have aWx := Z_ adW; clear adW; simp only [oJ_, pI_] at H; obtain ⟨rfl, rfl, rfl⟩ := H; try go_wp2
    replace lb := Z_ (bD_ lb.out); replace jN := Z_ (bD_ jN.out); replace oB := Z_ (bD_ oB.out); replace HB := Z_ (fD_ HB.out); refine start_ (n := 11) (S := fun w' => w'.cell? ⟨Cs, 0, none⟩ = some (.int .i64 ae) /\ w'.cell? ⟨Cs, 1, none⟩ = some (.slice ag ac.length af) /\ w'.cell? ⟨pU, 0, none⟩ = some (.int .i64 aj) /\ w'.cell? ⟨pU, 1, none⟩ = some (.int .i64 ao) /\ w'.cell? ⟨pU, 2, none⟩ = some (.int .i64 aw)) (ds := []) _ (by kernel_rfl) rfl rfl ⟨(bC_ lb.out 0).trans rfl, (bC_ lb.out 1).trans rfl, (bC_ jN.out 0).trans rfl, (bC_ jN.out 1).trans rfl, (bC_ jN.out 2).trans rfl⟩ (fun hHeld => ?_); refine with_tabW d_Add.tab8 d_Add.bits8 (fun HT_ HW_ => ?_); generalize w26.drew = w30 at lb jN oB HB hHeld ⊢; refine pP_ 0 24 ?_; refine pP_ 2 26 ?_; refine pT_ 1 25 ?_; refine pT_ 3 27 ?_; refine pT_ 5 29 ?_; refine join_ (σ := Value × Value) 4 #[true, true, true, true, true, true, true, false, false, false, false] (fun s_ => [(28, s_.1), (30, s_.2)]) (fun s_ w' => (w'.cell? ⟨Cs, 0, none⟩ = some (.int .i64 ae) /\ w'.cell? ⟨Cs, 1, none⟩ = some (.slice ag ac.length af) /\ w'.cell? ⟨pU, 0, none⟩ = some (.int .i64 aj) /\ w'.cell? ⟨pU, 1, none⟩ = some (.int .i64 ao) /\ w'.cell? ⟨pU, 2, none⟩ = some (.int .i64 aw)) /\ (Kd.R k39 39 w' w.heap.size (fun k_ => some k_ ≠ (s_.2 : Value).ownBlock /\ k_ ≠ pU) s_.1 LX) /\ (Kd.R k39 39 w' w.heap.size (fun k_ => some k_ ≠ (s_.1 : Value).ownBlock /\ k_ ≠ pU) s_.2 Ml) /\ (w'.heap[Cs]? = some (.cells #[.int .i64 ae, .slice ag ac.length af] 24 (0, 0))) /\ (w'.heap[pU]? = some (.cells #[.int .i64 aj, .int .i64 ao, .int .i64 aw] 39 (0, 0))) /\ (w'.heap[rW]? = some (.cells #[.int .i64 0, .slice none 0 0] 24 (0, 0))) /\ (Below w.heap.size w w')) ?_ ?_; rotate_left
    .intro hCont
     refine two_ (i := 4) (j := 6) (Ni := some 28) (Nj := some 30) #[true, true, true, true, true, true, false, false, false, false, false] #[true, true, true, true, false, true, true, false, false, false, false] rfl rfl rfl rfl (two_of HT_.out (by kernel_rfl)) (by decide) (by decide) (fun K hK => ?_) (fun K hK => ?_)
     .skip
      refine gO_ Try.func62 #[.slice ag ac.length af] ?_; with_reducible refine (y_62.calls _ _ ac LX _ ?side1 ?side2 A28.out).mono ?_
      (case side1 => exact cS_ (cB_ ah.out HB.out))
      (case side2 => exact ai.out)
      rintro e w31 ⟨aha, rfl, ho0, hb⟩; refine ⟨_, rfl, ?_⟩; have IB := Z_ (rL_ (Kd.R_newB ho0 (g := pU) (o := .cells #[.int .i64 aj, .int .i64 ao, .int .i64 aw] 39 (0, 0)) (bR_ jN.out)) (fZ_ hB_)); replace lb := Z_ (bS_ lb.out hb); replace jN := Z_ (bS_ jN.out hb); replace oB := Z_ (bS_ oB.out hb); replace HB := Z_ (fS_ hB_ hb); (try clear hb)
      (try clear ho0)
      refine hK.out _ _ ⟨(bC_ lb.out 0).trans rfl, (bC_ lb.out 1).trans rfl, (bC_ jN.out 0).trans rfl, (bC_ jN.out 1).trans rfl, (bC_ jN.out 2).trans rfl⟩ (fun hHeld => ?_); clear hK K; refine nP_ 28 ?_; refine oN_ 6 (some 30) (fun K hK => ?_); refine Kd.R_lit_step k39 _ 39 ?hg (N := 30) ?hd (xs := ([(⟨aj, ao, aw⟩ : S39)] : List (S39))) (inner := [.int .i64 aj, .int .i64 ao, .int .i64 aw]) (ok := fun _ => True) (okp := fun _ => True) ?hr ?hp (fun _ hk => hk) trivial (Below.refl _ _) (nR_ _) (by simp) ?_; (case hd => rfl); (case hg => rfl); (case hr => first | (go_simp; done) | (go_simp; rfl)); (case hp => exact (Reps.c3 (show Kd.M k39 _ _ _ (⟨aj, ao, aw⟩ : S39) [.int .i64 aj, .int .i64 ao, .int .i64 aw] from (k39_mkM _ _ _ (⟨aj, ao, aw⟩ : S39) )) (Reps.none _ _))); intro anK w32 aox hb hg_ hnew_; clear hg_ hnew_; (first | rw [<- ana.out] at aox | (simp only [Int.reduceToNat] at aox; rw [<- ana.out] at aox))
      have IA := Z_ (rL_ (Kd.R_newB (Kd.R_new' aox (Kd.R_lt (rK_ IB.out))) (g := pU) (o := .cells #[.int .i64 aj, .int .i64 ao, .int .i64 aw] 39 (0, 0)) (bR_ jN.out)) (fZ_ hB_)); replace IB := Z_ (Kd.R_elder' (rK_ IB.out) (Kd.R_base aox) hb); replace lb := Z_ (bS_ lb.out hb); replace jN := Z_ (bS_ jN.out hb); replace oB := Z_ (bS_ oB.out hb); replace HB := Z_ (fS_ hB_ hb); clear hb aox; refine hK.out _ _ ⟨(bC_ lb.out 0).trans rfl, (bC_ lb.out 1).trans rfl, (bC_ jN.out 0).trans rfl, (bC_ jN.out 1).trans rfl, (bC_ jN.out 2).trans rfl⟩ (fun hHeld => ?_); clear hK K; refine nP_ 30 ?_; exact norm_ (by simp only [putAll, Act.put, sT_, sZ_, sS_]) (hCont (aha, anK) _ ⟨hHeld, (by (with_reducible repeat (first | apply rN_ | apply rD_)); exact rM_ IB.out (fun _ hk => ⟨hk.2, hk.1.2⟩)), (by (with_reducible repeat (first | apply rN_ | apply rD_)); exact rM_ IA.out (fun _ hk => ⟨hk.1.2, hk.2⟩)), (bR_ lb.out), (bR_ jN.out), (bR_ oB.out), hB_⟩)
     skip
     refine Kd.R_lit_step k39 _ 39 ?hg (N := 30) ?hd (xs := ([(⟨aj, ao, aw⟩ : S39)] : List (S39))) (inner := [.int .i64 aj, .int .i64 ao, .int .i64 aw]) (ok := fun _ => True) (okp := fun _ => True) ?hr ?hp (fun _ hk => hk) trivial (Below.refl _ _) (nR_ _) (by simp) ?_; (case hd => rfl); (case hg => rfl); (case hr => first | (go_simp; done) | (go_simp; rfl)); (case hp => exact (Reps.c3 (show Kd.M k39 _ _ _ (⟨aj, ao, aw⟩ : S39) [.int .i64 aj, .int .i64 ao, .int .i64 aw] from (k39_mkM _ _ _ (⟨aj, ao, aw⟩ : S39) )) (Reps.none _ _))); intro anK w31 arx hb hg_ hnew_; clear hg_ hnew_; (first | rw [<- ana.out] at arx | (simp only [Int.reduceToNat] at arx; rw [<- ana.out] at arx))
     have IA := Z_ (rL_ (Kd.R_newB arx (g := pU) (o := .cells #[.int .i64 aj, .int .i64 ao, .int .i64 aw] 39 (0, 0)) (bR_ jN.out)) (fZ_ hB_)); replace lb := Z_ (bS_ lb.out hb); replace jN := Z_ (bS_ jN.out hb); replace oB := Z_ (bS_ oB.out hb); replace HB := Z_ (fS_ hB_ hb); clear hb arx; refine hK.out _ _ ⟨(bC_ lb.out 0).trans rfl, (bC_ lb.out 1).trans rfl, (bC_ jN.out 0).trans rfl, (bC_ jN.out 1).trans rfl, (bC_ jN.out 2).trans rfl⟩ (fun hHeld => ?_); clear hK K; refine nP_ 30 ?_; refine oN_ 4 (some 28) (fun K hK => ?_); refine gO_ Try.func62 #[.slice ag ac.length af] ?_; with_reducible refine (y_62.calls _ _ ac LX _ ?side1 ?side2 A28.out).mono ?_
     (case side1 => exact cS_ (cB_ ah.out HB.out))
     (case side2 => exact ai.out)
     rintro e w33 ⟨aha, rfl, ho0, hb⟩; refine ⟨_, rfl, ?_⟩; have IB := Z_ (rL_ (Kd.R_newB (Kd.R_new' ho0 (Kd.R_lt (rK_ IA.out))) (g := pU) (o := .cells #[.int .i64 aj, .int .i64 ao, .int .i64 aw] 39 (0, 0)) (bR_ jN.out)) (fZ_ hB_)); replace IA := Z_ (Kd.R_elder' (rK_ IA.out) (Kd.R_base ho0) hb); replace lb := Z_ (bS_ lb.out hb); replace jN := Z_ (bS_ jN.out hb); replace oB := Z_ (bS_ oB.out hb); replace HB := Z_ (fS_ hB_ hb); (try clear hb)
     (try clear ho0)
     refine hK.out _ _ ⟨(bC_ lb.out 0).trans rfl, (bC_ lb.out 1).trans rfl, (bC_ jN.out 0).trans rfl, (bC_ jN.out 1).trans rfl, (bC_ jN.out 2).trans rfl⟩ (fun hHeld => ?_); clear hK K; refine nP_ 28 ?_; exact norm_ (by simp only [putAll, Act.put, sT_, sZ_, sS_]) (hCont (aha, anK) _ ⟨hHeld, (by (with_reducible repeat (first | apply rN_ | apply rD_)); exact rM_ IB.out (fun _ hk => ⟨hk.1.2, hk.2⟩)), (by (with_reducible repeat (first | apply rN_ | apply rD_)); exact rM_ IA.out (fun _ hk => ⟨hk.2, hk.1.2⟩)), (bR_ lb.out), (bR_ jN.out), (bR_ oB.out), hB_⟩)
    rintro ⟨aha, anK⟩ w34 ⟨hS_, h0_, h1_, h2_, h3_, h4_, h5_⟩; have n0_ : Aside0 (Kd.R k39 39 w34 w.heap.size (fun k_ => some k_ ≠ (anK : Value).ownBlock /\ k_ ≠ pU) aha LX) := ⟨h0_⟩; have n1_ : Aside0 (Kd.R k39 39 w34 w.heap.size (fun k_ => some k_ ≠ (aha : Value).ownBlock /\ k_ ≠ pU) anK Ml) := ⟨h1_⟩; have n2_ : Aside0 (w34.heap[Cs]? = some (.cells #[.int .i64 ae, .slice ag ac.length af] 24 (0, 0))) := ⟨h2_⟩; have n3_ : Aside0 (w34.heap[pU]? = some (.cells #[.int .i64 aj, .int .i64 ao, .int .i64 aw] 39 (0, 0))) := ⟨h3_⟩; have n4_ : Aside0 (w34.heap[rW]? = some (.cells #[.int .i64 0, .slice none 0 0] 24 (0, 0))) := ⟨h4_⟩; have n5_ : Aside0 (Below w.heap.size w w34) := ⟨h5_⟩; clear lb; clear jN; clear oB; clear HB; clear h0_ h1_ h2_ h3_ h4_ h5_; have IB := n0_; have IA := n1_; have lb := n2_; have jN := n3_; have oB := n4_; have HB := n5_; clear n0_ n1_ n2_ n3_ n4_ n5_; have hHeld : w34.cell? ⟨Cs, 0, none⟩ = some (.int .i64 ae) /\ w34.cell? ⟨Cs, 1, none⟩ = some (.slice ag ac.length af) /\ w34.cell? ⟨pU, 0, none⟩ = some (.int .i64 aj) /\ w34.cell? ⟨pU, 1, none⟩ = some (.int .i64 ao) /\ w34.cell? ⟨pU, 2, none⟩ = some (.int .i64 aw) := hS_; obtain ⟨vY, tH, GB⟩ := rS_ IA.out; (first | subst GB | (injection GB with f1_ f2_ f3_; have f4_ := f1_.symm; have f5_ := f3_.symm; clear f1_ f2_ f3_; subst f4_; subst f5_))
    refine norm_ (a' := ?_) ?_ ?_; rotate_left
    .simp only [putAll, Act.put, sT_, sZ_, sS_]
     rfl
    refine oN_ 7 (some 31) (fun K hK => ?_); refine Kd.R_append_rows_step k39 (w0 := w) w.heap.size (by rfl) (.tmp 28) (.tmp 30) 22 39 (.agg #[(.int .i64 0), (.int .i64 0), (.int .i64 0)]) 24 rfl Try.underlying22 info39 rfl (by decide) (by omega) aha LX Ml _ _ _ (fun k_ => some k_ ≠ (.slice vY Ml.length tH : Value).ownBlock /\ k_ ≠ pU) (fun _ => False) rfl rfl ?aO ?aR (fun _ _ h => h) (fun _ h => h.elim) ?aF ?aB ?aS ?aL ?_; (case aR => exact cS_ (rR_ IA.out).2.2)
    (case aB => exact hB_)
    (case aF => exact (fun k_ hk => ⟨Kd.fresh' (Kd.R_lt (rK_ IA.out)) k_ hk, Kd.freshB (g := pU) (o := .cells #[.int .i64 aj, .int .i64 ao, .int .i64 aw] 39 (0, 0)) (bR_ jN.out) k_ hk⟩))
    (case aO => exact (rK_ IB.out))
    (case aS => exact (fZ_ hB_))
    (case aL => have := aWU.out; omega)
    intro bgC w35 ho hb hg hat; rw [<- aWx.out] at ho; replace lb := Z_ (blk_grown (g := Cs) (o := .cells #[.int .i64 ae, .slice ag ac.length af] 24 (0, 0)) (bR_ lb.out) hg (Kd.R_ne IB.out lb.out (by decide))); replace jN := Z_ (blk_grown (g := pU) (o := .cells #[.int .i64 aj, .int .i64 ao, .int .i64 aw] 39 (0, 0)) (bR_ jN.out) hg (Kd.R_away IB.out (fun _ hk => hk.2))); replace oB := Z_ (blk_grown (g := rW) (o := .cells #[.int .i64 0, .slice none 0 0] 24 (0, 0)) (bR_ oB.out) hg (Kd.R_ne IB.out oB.out (by decide))); replace IA := Z_ (Kd.R_after (ok := (fun k_ => k_ ≠ pU)) (by (with_reducible repeat (first | apply rN_ | apply rD_)); exact rM_ IA.out (fun _ hk => ⟨hk.2, hk.1⟩)) hg hat); replace HB := Z_ (hb); have aDM := Z_ (ho); clear IB; clear ho hb hg hat; obtain ⟨XB, V2, abz⟩ := rS_ aDM.out; (first | subst abz | (injection abz with f1_ f2_ f3_; have f4_ := f1_.symm; have f5_ := f3_.symm; clear f1_ f2_ f3_; subst f4_; subst f5_))
    refine hK.out _ _ ⟨(bC_ lb.out 0).trans rfl, (bC_ lb.out 1).trans rfl, (bC_ jN.out 0).trans rfl, (bC_ jN.out 1).trans rfl, (bC_ jN.out 2).trans rfl⟩ (fun hHeld => ?_); clear hK K; refine nP_ 31 ?_; refine pP_ 8 32 ?_; refine oN_ 9 none (fun K hK => ?_); have a3E : w35.cell? ⟨rW, 0, none⟩ = some (.int .i64 0) := (bC_ oB.out 0).trans rfl; have aPR := bF_ oB.out 0; have azt := si.out; have azs := qr.out; have azE := Bt.out; have azD := DH.out; have bhy : w35.cell? ⟨rW, 1, none⟩ = some (.slice none 0 0) := (bC_ oB.out 1).trans rfl; have bbh := bF_ oB.out 1; have aZv := si.out; have aZu := qr.out; have a0v := Bt.out; have a0u := DH.out; refine skip_ (w1 := ?_) (by rfl) rfl ?_ ?_; rotate_left
    .go_simp
     rfl
    refine hK.out _ _ ⟨((cell_far (p := ⟨rW, _, none⟩) si.out _).trans (((cell_far (p := ⟨rW, _, none⟩) si.out _).trans (hHeld.1)))), ((cell_far (p := ⟨rW, _, none⟩) si.out _).trans (((cell_far (p := ⟨rW, _, none⟩) si.out _).trans (hHeld.2.1)))), ((cell_far (p := ⟨rW, _, none⟩) qr.out _).trans (((cell_far (p := ⟨rW, _, none⟩) qr.out _).trans (hHeld.2.2.1)))), ((cell_far (p := ⟨rW, _, none⟩) qr.out _).trans (((cell_far (p := ⟨rW, _, none⟩) qr.out _).trans (hHeld.2.2.2.1)))), ((cell_far (p := ⟨rW, _, none⟩) qr.out _).trans (((cell_far (p := ⟨rW, _, none⟩) qr.out _).trans (hHeld.2.2.2.2))))⟩ (fun hHeld => ?_); clear hK K; refine pP_ 10 5 ?_; refine dN_ ?_; try go_wp2
    refine bodyPost_ret (results_ct rfl _ _ rW 24 #[.int .i64 ae, .slice XB aEB.length V2] (0, 0) _ rfl (by refine bM_ ?_; refine blk_put (cs := #[.int .i64 ae, .slice none 0 0]) ?_ 1 _ rfl; refine bM_ ?_; refine blk_put (cs := #[.int .i64 0, .slice none 0 0]) ?_ 0 _ rfl; exact bR_ oB.out) Try.underlying24 rfl (by kernel_rfl)) rfl ?_; exact ⟨_, eW_, by (with_reducible repeat (first | apply rN_ | apply rD_)); exact rM_ (rF_ (p := ⟨rW, 1, none⟩) (rF_ (p := ⟨rW, 0, none⟩) (Kd.R_types aDM.out oB.out (by decide)) (fun _ hk => hk.2) (.int .i64 ae)) (fun _ hk => hk.2) (.slice XB aEB.length V2)) (fun _ hk => trivial), hB_⟩
   exact nN_ c29 H
  replace c27 := bE_.mpr c27; subst c27; have H1 : (some (0, ([] : List (S39)), 40)) = some (r1, r2, r3) := by rw [if_neg (show ¬ (false = true) by decide)] at H; exact H
  clear H; have H := H1; clear H1; simp only [oJ_, pI_] at H; obtain ⟨rfl, rfl, rfl⟩ := H; have aeS := Bt.out; have aeK := si.out; have alZ := DH.out; have alR := qr.out; obtain ⟨⟨BZ, BX⟩, BM, BL⟩ := f2_ oB.out; go_wp2; refine bodyPost_ret (results_ct rfl _ _ rW 24 #[.int .i64 0, .slice none 0 0] (0, 0) _ rfl (by refine bM_ ?_; refine blk_put (cs := #[.int .i64 0, .slice none 0 0]) ?_ 1 _ rfl; refine bM_ ?_; refine blk_put (cs := #[.int .i64 0, .slice none 0 0]) ?_ 0 _ rfl; exact bR_ oB.out) Try.underlying24 rfl (by kernel_rfl)) rfl ?_; exact ⟨_, eW_, by first | exact Kd.R_nil _ _ _ _ _ | exact Kd.N_nil _ _ _ _ _ | exact Kd.V_nil _ _ _ _ _ | exact Kd.Q_nil _ _ _ _ _ | exact Kd.S_nil _ _ _ _ _, hB_⟩
 rw [if_neg c12] at H; obtain ⟨gh, pX⟩ := bn_ c12; (try rw [gh])
 simp only [oJ_, pI_] at H; obtain ⟨rfl, rfl, rfl⟩ := H; have X7 := Bt.out; have X4 := si.out; have asa := DH.out; have arN := qr.out; obtain ⟨⟨BW, BV⟩, BJ, BI⟩ := f2_ oB.out; go_wp2; refine bodyPost_ret (results_ct rfl _ _ rW 24 #[.int .i64 0, .slice none 0 0] (0, 0) _ rfl (by refine bM_ ?_; refine blk_put (cs := #[.int .i64 0, .slice none 0 0]) ?_ 1 _ rfl; refine bM_ ?_; refine blk_put (cs := #[.int .i64 0, .slice none 0 0]) ?_ 0 _ rfl; exact bR_ oB.out) Try.underlying24 rfl (by kernel_rfl)) rfl ?_; exact ⟨_, eW_, by first | exact Kd.R_nil _ _ _ _ _ | exact Kd.N_nil _ _ _ _ _ | exact Kd.V_nil _ _ _ _ _ | exact Kd.Q_nil _ _ _ _ _ | exact Kd.S_nil _ _ _ _ _, hB_⟩
def w_sample.f  : Option (Int × (List (S39))) := some (3, (([(⟨0, 1, 5⟩ : S39), (⟨1, 2, (-2)⟩ : S39), (⟨2, 0, 0⟩ : S39)] : List (S39))))
theorem w_sample.calls  (r1 : Int) (r2 : List (S39)) (w : World) (h : w_sample.f  = some (r1, r2)) :
  Calls Try.prog 68 #[] w fun e w' => ∃ v1_ : Value, e = .returned (.agg #[.int .i64 r1, v1_]) /\ Kd.R k39 39 w' w.heap.size (fun _ => True) v1_ r2 /\ Below w.heap.size w w' := by
 have ja := Try.underlying24; have zm := Try.underlying39; have HB := Z_ (Below.refl w.heap.size w); have H : (some (3, (([(⟨0, 1, 5⟩ : S39), (⟨1, 2, (-2)⟩ : S39), (⟨2, 0, 0⟩ : S39)] : List (S39))))) = some (r1, r2) := h; clear h; obtain ⟨aEA, adV⟩ : ∃ y_ : List (S39), y_ = (([(⟨0, 1, 5⟩ : S39), (⟨1, 2, (-2)⟩ : S39), (⟨2, 0, 0⟩ : S39)] : List (S39))) := ⟨_, rfl⟩; replace H : (some (3, aEA)) = some (r1, r2) := by first | (rw [adV]; with_reducible exact H) | (have H2_ := (oB_ _ _).symm.trans H; rw [adV]; with_reducible exact H2_) | (have H2_ := (oB_ _ _).symm.trans H; with_reducible exact H2_) | with_reducible exact H | (rw [adV]; exact H) | exact H
 have aDi := Z_ adV; clear adV; simp only [oJ_, pI_] at H; obtain ⟨rfl, rfl⟩ := H; go_enter Try.func68, Try.ntmps68; go_wp2_with (first | ((with_reducible refine gate_dst (N := 0) rfl ?_); refine bX_ 0 #[.int .i64 0, .slice none 0 0] 24 ?_; intro afD hg w1 hbox hb; have agO := Z_ (hbox); have bdg := Z_ ((by rw [hg]; exact (fZ_ hB_) : w.heap.size <= afD)); have ber := Z_ ((by rw [hg]; exact (fZ_ hB_) : w.heap.size <= afD)); replace HB := Z_ (fS_ hB_ hb); clear hb hbox hg) | ((with_reducible refine gate_dst (N := 4) rfl ?_); refine Kd.R_lit k39 _ 39 ?hg (N := 4) ?hd (xs := ([(⟨0, 1, 5⟩ : S39), (⟨1, 2, (-2)⟩ : S39), (⟨2, 0, 0⟩ : S39)] : List (S39))) (inner := [.int .i64 0, .int .i64 1, .int .i64 5, .int .i64 1, .int .i64 2, .int .i64 (-2), .int .i64 2, .int .i64 0, .int .i64 0]) (ok := fun _ => True) (okp := fun _ => True) ?hr ?hp (fun _ hk => hk) trivial (Below.refl _ _) (nR_ _) (by simp) ?_; (case hd => rfl); (case hg => rfl); (case hr => first | (go_simp; done) | (go_simp; rfl)); (case hp => exact (Reps.c3 (show Kd.M k39 _ _ _ (⟨0, 1, 5⟩ : S39) [.int .i64 0, .int .i64 1, .int .i64 5] from (k39_mkM _ _ _ (⟨0, 1, 5⟩ : S39) )) (Reps.c3 (show Kd.M k39 _ _ _ (⟨1, 2, (-2)⟩ : S39) [.int .i64 1, .int .i64 2, .int .i64 (-2)] from (k39_mkM _ _ _ (⟨1, 2, (-2)⟩ : S39) )) (Reps.c3 (show Kd.M k39 _ _ _ (⟨2, 0, 0⟩ : S39) [.int .i64 2, .int .i64 0, .int .i64 0] from (k39_mkM _ _ _ (⟨2, 0, 0⟩ : S39) )) (Reps.none _ _))))); intro bgB w2 ho3 hb hg_ hnew_; clear hg_ hnew_; (first | rw [<- aDi.out] at ho3 | (simp only [Int.reduceToNat] at ho3; rw [<- aDi.out] at ho3)); have aDL := Z_ (rL_ ho3 (fZ_ hB_)); replace agO := Z_ (bS_ agO.out hb); replace HB := Z_ (fS_ hB_ hb); clear hb ho3; obtain ⟨Ao4, co4, eo4⟩ := rS_ aDL.out; subst eo4; obtain ⟨⟨qe, qd⟩, qc, qb⟩ := f2_ agO.out)); refine bodyPost_ret (results_cell_row rfl _ _ afD 24 #[.int .i64 3, .slice Ao4 aEA.length co4] (0, 0) _ rfl (by refine bM_ ?_; refine blk_put (cs := #[.int .i64 3, .slice none 0 0]) ?_ 1 _ rfl; refine bM_ ?_; refine blk_put (cs := #[.int .i64 0, .slice none 0 0]) ?_ 0 _ rfl; exact bR_ agO.out) Try.underlying24 rfl (by kernel_rfl)) rfl ?_; exact ⟨_, eW_, by (with_reducible repeat (first | apply rN_ | apply rD_)); exact rM_ (rF_ (p := ⟨afD, 1, none⟩) (rF_ (p := ⟨afD, 0, none⟩) (Kd.R_types aDL.out agO.out (by decide)) (fun _ hk => hk.2) (.int .i64 3)) (fun _ hk => hk.2) (.slice Ao4 aEA.length co4)) (fun _ hk => trivial), hB_⟩
end Go.Proofs.Ytpolojoeabmhdaa.A
/- sane: the chapter's examples come out as they stand there. -/
namespace Go.Proofs.Ytpolojoeabmhdaa.A
open Go.RowKit Go.Proofs.YtpolojoeabmhdaaW.PrintWords Go.Proofs.YtpolojoeabmhdaaW.PrintLast Go.Proofs.YtpolojoeabmhdaaW.PrintMore
def w_sane.f : Option Bool := some true
def top3 : List Int := [0, 5, 3]
def low3 : List Int := [0, 2, 0]
def wei3 : List Int := [0, -1, 2]
def rou3 : List Int := [1, 2, 3]
def rot3 : List Int := [3, 1, 2]
def pat3 : List Int := [0, 1]
def flo3 : List Int := [1, 2, 0]
def net3 : List S39 := [⟨0, 1, 5⟩, ⟨1, 2, -2⟩, ⟨2, 0, 0⟩]
def net4 : List S39 := [⟨0, 1, 5⟩, ⟨1, 2, -2⟩, ⟨2, 0, 0⟩, ⟨0, 1, 1⟩]
theorem ev21 : d_Apart.f 60 3 net3 0 2 = some (3, true, 0) := by kernel_rfl
theorem ev27 : d_Top.f 60 3 net3 = some (top3, 0) := by kernel_rfl
theorem ev32 : d_Bottom.f 60 3 net3 = some (low3, 0) := by kernel_rfl
theorem ev39 : d_Most.f 60 3 net3 wei3 = some (1, true, 0) := by kernel_rfl
theorem ev46 : d_Add.f 60 3 net3 0 1 1 = some (3, net4, 0) := by kernel_rfl
theorem ev51 : d_Clash.f 60 3 net4 = some (rou3, true, 0) := by kernel_rfl
theorem ev56 : d_Check.f 60 3 net3 = some 0 := by kernel_rfl
theorem ev60 : d_Check.f 60 0 [] = some 40 := by kernel_rfl
theorem ev78 : s_Equal_int_int.f 60 top3 top3 = some true := by kernel_rfl
theorem ev88 : s_Equal_int_int.f 60 low3 low3 = some true := by kernel_rfl
theorem ev120 : d_CheckClash.f 60 3 net4 rot3 = some 0 := by kernel_rfl
theorem ev125 : d_CheckPath.f 60 3 net3 0 2 3 pat3 = some 0 := by kernel_rfl
theorem ev130 : d_CheckPath.f 60 3 net3 0 2 2 pat3 = some 43 := by kernel_rfl
theorem ev137 : d_CheckFlow.f 60 3 net3 wei3 1 flo3 = some 0 := by kernel_rfl
theorem ev144 : d_CheckFlow.f 60 3 net3 wei3 0 flo3 = some 43 := by kernel_rfl
theorem chk0 (w : World) : Calls Try.prog 29 #[.agg #[.int .i64 0, .slice none 0 0]] w fun e w' => e = .returned (.int .i64 40) /\ Below w.heap.size w w' := d_Check.calls 60 0 none 0 [] 40 w (Kd.C_nil _ _) (nR_ _) ev60
/-- A net of so many nodes lies in a block of its own. -/
structure NetAt (w : World) (n : Int) (l : List S39) (g : Nat) (A : Option Addr) (c : Nat) (W : World) : Prop where
 b : W.heap[g]? = some (.cells #[.int .i64 n, .slice A l.length c] 24 (0, 0))
 r : Kd.R k39 39 W w.heap.size (fun _ => True) (.slice A l.length c) l
 hg : w.heap.size <= g
theorem NetAt.below {w : World} {n : Int} {l : List S39} {g : Nat} {A : Option Addr} {c : Nat} {W W1 : World} (h : NetAt w n l g A c W) (hb : Below W.heap.size W W1) : NetAt w n l g A c W1 := ⟨bB_ h.b hb, rB_ h.r hb, h.hg⟩
theorem NetAt.far {w : World} {n : Int} {l : List S39} {g : Nat} {A : Option Addr} {c : Nat} {W W1 : World} (h : NetAt w n l g A c W) {g' : Nat} (hg : W.grownBy W1 (some g')) (h1 : g ≠ g') (h2 : ∀ k, (Value.slice A l.length c).ownBlock = some k -> k ≠ g') : NetAt w n l g A c W1 :=
 ⟨blk_grown h.b hg (fun e => h1 (oI_ e)), Kd.R_grown2 h.r rfl hg (fun k e e2 => h2 k e2.symm (oI_ e).symm), h.hg⟩
theorem NetAt.C {w : World} {n : Int} {l : List S39} {g : Nat} {A : Option Addr} {c : Nat} {W : World} (h : NetAt w n l g A c W) : Kd.C k39 W A l.length l := (rR_ h.r).2.2
theorem NetAt.le {w : World} {n : Int} {l : List S39} {g : Nat} {A : Option Addr} {c : Nat} {W : World} (h : NetAt w n l g A c W) : l.length <= c := (rR_ h.r).2.1
theorem below_grown0 {W W1 : World} (hg : W.grownBy W1 none) : Below W.heap.size W W1 := ⟨hg.os, hg.tape, hg.output, hg.size, fun i hi => hg.block i hi (by simp)⟩
set_option maxHeartbeats 8000000
set_option maxRecDepth 100000
theorem w_sane.calls (r : Bool) (w : World) (h : w_sane.f = some r) :
  Calls Try.prog 21 #[] w fun e w' => e = .returned (.bool r) /\ Below w.heap.size w w' := by
 obtain rfl := oI_ h; clear h; have ja := Try.underlying24; have HB := Z_ (Below.refl w.heap.size w); go_enter Try.func21, Try.ntmps21
 go_wp2_with (first
  | ((with_reducible refine gate_callee (f := 68) rfl ?_); refine gL_ (some 18) Try.func68 #[] ?_; (with_reducible refine (w_sample.calls 3 net3 _ rfl).mono ?_); rintro e w1 ⟨v_, rfl, ho, hb⟩; refine ⟨_, rfl, ?_⟩; have q_ := Z_ (rL_ ho HB.out.size); clear ho; have zb_ := Z_ (fS_ HB.out hb); clear HB ; have HB := zb_; clear zb_ ; clear hb; have RN := q_; clear q_; (obtain ⟨A1, c1, A1_, _⟩ := Kd.R_reads RN.out); subst A1_)
  | ((with_reducible refine gate_dst (N := 1) rfl ?_); refine bX_ 1 #[.int .i64 0, .slice none 0 0] 24 ?_; intro g1 hg_ w2 hbox hb; have NG := Z_ (show w.heap.size <= g1 /\ (∀ k, (Value.slice A1 net3.length c1).ownBlock = some k -> k ≠ g1) from ⟨by rw [hg_]; exact HB.out.size, (fun k e => by have := Kd.R_lt RN.out k e; omega)⟩); have BT := Z_ hbox; have z0_ := Z_ (rB_ RN.out hb); have zb_ := Z_ (fS_ HB.out hb); clear HB RN; have RN := z0_; have HB := zb_; clear zb_ z0_; clear hb hbox hg_)
  | (refine gate_store (t := 24) (p := 1) (v := .tmp 18) rfl ?_; refine store_box rfl rfl 24 (.tmp 1) (.tmp 18) rfl [.int .i64 3, .slice A1 net3.length c1] (by rfl) g1 rfl _ rfl rfl (by intro q hq; simp only [List.mem_cons, List.not_mem_nil, or_false] at hq; rcases hq with rfl | rfl <;> rfl) _ BT.out rfl ?_; intro w3 hb5 hg5; have zn_ := Z_ (NetAt.mk (w := w) (n := 3) (l := net3) hb5 (Kd.R_grown2 RN.out rfl hg5 (fun k e e2 => NG.out.2 k e2.symm (oI_ e).symm)) NG.out.1); have zb_ := Z_ (HB.out.grown hg5 HB.out.size (fun k e => by cases e; exact NG.out.1)); clear HB BT NG hb5 hg5 RN; have HB := zb_; have NN := zn_; clear zb_ zn_ ; have jB : w3.cell? ⟨g1, 0, none⟩ = some (.int .i64 3) := (bC_ NN.out.b 0).trans rfl; have jA : w3.cell? ⟨g1, 1, none⟩ = some (.slice A1 net3.length c1) := (bC_ NN.out.b 1).trans rfl)
  | ((with_reducible refine gate_callee (f := 30) rfl ?_); refine gL_ (some 21) Try.func30 #[.agg #[.int .i64 3, .slice A1 net3.length c1], .int .i64 0, .int .i64 2] ?_; (with_reducible refine (d_Apart.calls 60 3 A1 c1 net3 0 2 3 true 0 _ NN.out.C NN.out.le ev21).mono ?_); rintro e w4 ⟨rfl, hb⟩; refine ⟨_, rfl, ?_⟩; have z0_ := Z_ (NN.out.below hb); have zb_ := Z_ (fS_ HB.out hb); clear HB NN; have NN := z0_; have HB := zb_; clear zb_ z0_; clear hb; (try clear jB jA); have jB : w4.cell? ⟨g1, 0, none⟩ = some (.int .i64 3) := (bC_ NN.out.b 0).trans rfl; have jA : w4.cell? ⟨g1, 1, none⟩ = some (.slice A1 net3.length c1) := (bC_ NN.out.b 1).trans rfl)
  | ((with_reducible refine gate_callee (f := 24) rfl ?_); refine gL_ (some 27) Try.func24 #[.agg #[.int .i64 3, .slice A1 net3.length c1]] ?_; (with_reducible refine (d_Top.calls 60 3 A1 c1 net3 top3 0 _ NN.out.C NN.out.le ev27).mono ?_); rintro e w5 ⟨v_, rfl, ho, hb⟩; refine ⟨_, rfl, ?_⟩; have q_ := Z_ (rL_ ho HB.out.size); clear ho; have z0_ := Z_ (NN.out.below hb); have zb_ := Z_ (fS_ HB.out hb); clear HB NN; have NN := z0_; have HB := zb_; clear zb_ z0_; clear hb; (try clear jB jA); have RT := q_; clear q_; (obtain ⟨A2, c2, A2_, _⟩ := Kd.R_reads RT.out); subst A2_; have jB : w5.cell? ⟨g1, 0, none⟩ = some (.int .i64 3) := (bC_ NN.out.b 0).trans rfl; have jA : w5.cell? ⟨g1, 1, none⟩ = some (.slice A1 net3.length c1) := (bC_ NN.out.b 1).trans rfl)
  | ((with_reducible refine gate_callee (f := 26) rfl ?_); refine gL_ (some 32) Try.func26 #[.agg #[.int .i64 3, .slice A1 net3.length c1]] ?_; (with_reducible refine (d_Bottom.calls 60 3 A1 c1 net3 low3 0 _ NN.out.C NN.out.le ev32).mono ?_); rintro e w6 ⟨v_, rfl, ho, hb⟩; refine ⟨_, rfl, ?_⟩; have q_ := Z_ (rL_ ho HB.out.size); clear ho; have z0_ := Z_ (NN.out.below hb); have z1_ := Z_ (rB_ RT.out hb); have zb_ := Z_ (fS_ HB.out hb); clear HB NN RT; have NN := z0_; have RT := z1_; have HB := zb_; clear zb_ z0_ z1_; clear hb; (try clear jB jA); have RL := q_; clear q_; (obtain ⟨A3, c3, A3_, _⟩ := Kd.R_reads RL.out); subst A3_; have jB : w6.cell? ⟨g1, 0, none⟩ = some (.int .i64 3) := (bC_ NN.out.b 0).trans rfl; have jA : w6.cell? ⟨g1, 1, none⟩ = some (.slice A1 net3.length c1) := (bC_ NN.out.b 1).trans rfl)
  | ((with_reducible refine gate_dst (N := 35) rfl ?_); refine Kd.R_lit (w0 := w) (Kd.int .i64) w.heap.size 3 ?hg (N := 35) ?hd (xs := ([(0), (-1), (2)] : List Int)) (inner := [.int .i64 (0), .int .i64 (-1), .int .i64 (2)]) (ok := fun _ => True) (okp := fun _ => True) ?hr ?hp (fun _ hk => hk) trivial HB.out HB.out.size (by simp) ?_; (case hd => rfl); (case hg => rfl); (case hr => first | (go_simp; done) | (go_simp; rfl)); (case hp => exact (Reps.one (show Kd.M (Kd.int .i64) _ _ _ (0) [.int .i64 (0)] from rfl) (Reps.one (show Kd.M (Kd.int .i64) _ _ _ (-1) [.int .i64 (-1)] from rfl) (Reps.one (show Kd.M (Kd.int .i64) _ _ _ (2) [.int .i64 (2)] from rfl) (Reps.none _ _))))); intro v_ w7 ho hb0 hg_ hn_; have hb := below_grown0 hg_; have q_ := Z_ (show Kd.R (Kd.int .i64) 3 _ w.heap.size (fun _ => True) v_ wei3 from ho); clear ho; have z0_ := Z_ (NN.out.below hb); have z1_ := Z_ (rB_ RT.out hb); have z2_ := Z_ (rB_ RL.out hb); have zb_ := Z_ (fS_ HB.out hb); clear HB NN RT RL; have NN := z0_; have RT := z1_; have RL := z2_; have HB := zb_; clear zb_ z0_ z1_ z2_; clear hb hb0 hg_ hn_; (try clear jB jA); have RW := q_; clear q_; (obtain ⟨A4, c4, A4_, _⟩ := Kd.R_reads RW.out); subst A4_; have jB : w7.cell? ⟨g1, 0, none⟩ = some (.int .i64 3) := (bC_ NN.out.b 0).trans rfl; have jA : w7.cell? ⟨g1, 1, none⟩ = some (.slice A1 net3.length c1) := (bC_ NN.out.b 1).trans rfl)
  | ((with_reducible refine gate_callee (f := 31) rfl ?_); refine gL_ (some 39) Try.func31 #[.agg #[.int .i64 3, .slice A1 net3.length c1], .slice A4 wei3.length c4] ?_; (with_reducible refine (d_Most.calls 60 3 A1 c1 net3 A4 c4 wei3 1 true 0 _ NN.out.C NN.out.le (rR_ RW.out).2.2 (rR_ RW.out).2.1 ev39).mono ?_); rintro e w8 ⟨rfl, hb⟩; refine ⟨_, rfl, ?_⟩; have z0_ := Z_ (NN.out.below hb); have z1_ := Z_ (rB_ RT.out hb); have z2_ := Z_ (rB_ RL.out hb); have z3_ := Z_ (rB_ RW.out hb); have zb_ := Z_ (fS_ HB.out hb); clear HB NN RT RL RW; have NN := z0_; have RT := z1_; have RL := z2_; have RW := z3_; have HB := zb_; clear zb_ z0_ z1_ z2_ z3_; clear hb; (try clear jB jA); have jB : w8.cell? ⟨g1, 0, none⟩ = some (.int .i64 3) := (bC_ NN.out.b 0).trans rfl; have jA : w8.cell? ⟨g1, 1, none⟩ = some (.slice A1 net3.length c1) := (bC_ NN.out.b 1).trans rfl)
  | ((with_reducible refine gate_callee (f := 63) rfl ?_); refine gL_ (some 46) Try.func63 #[.agg #[.int .i64 3, .slice A1 net3.length c1], .agg #[.int .i64 0, .int .i64 1, .int .i64 1]] ?_; (with_reducible refine (d_Add.calls 60 3 A1 c1 net3 0 1 1 3 net4 0 _ NN.out.C NN.out.le ev46).mono ?_); rintro e w9 ⟨v_, rfl, ho, hb⟩; refine ⟨_, rfl, ?_⟩; have q_ := Z_ (rL_ ho HB.out.size); clear ho; have z0_ := Z_ (NN.out.below hb); have z1_ := Z_ (rB_ RT.out hb); have z2_ := Z_ (rB_ RL.out hb); have z3_ := Z_ (rB_ RW.out hb); have zb_ := Z_ (fS_ HB.out hb); clear HB NN RT RL RW; have NN := z0_; have RT := z1_; have RL := z2_; have RW := z3_; have HB := zb_; clear zb_ z0_ z1_ z2_ z3_; clear hb; (try clear jB jA); have RM := q_; clear q_; (obtain ⟨A5, c5, A5_, _⟩ := Kd.R_reads RM.out); subst A5_; have jB : w9.cell? ⟨g1, 0, none⟩ = some (.int .i64 3) := (bC_ NN.out.b 0).trans rfl; have jA : w9.cell? ⟨g1, 1, none⟩ = some (.slice A1 net3.length c1) := (bC_ NN.out.b 1).trans rfl)
  | ((with_reducible refine gate_dst (N := 13) rfl ?_); refine bX_ 13 #[.int .i64 0, .slice none 0 0] 24 ?_; intro g2 hg_ w10 hbox hb; have NG := Z_ (show w.heap.size <= g2 /\ (∀ k, (Value.slice A5 net4.length c5).ownBlock = some k -> k ≠ g2) /\ g1 ≠ g2 /\ (∀ k, (Value.slice A1 net3.length c1).ownBlock = some k -> k ≠ g2) /\ (∀ k, (Value.slice A2 top3.length c2).ownBlock = some k -> k ≠ g2) /\ (∀ k, (Value.slice A3 low3.length c3).ownBlock = some k -> k ≠ g2) /\ (∀ k, (Value.slice A4 wei3.length c4).ownBlock = some k -> k ≠ g2) from ⟨by rw [hg_]; exact HB.out.size, (fun k e => by have := Kd.R_lt RM.out k e; omega), (by rw [hg_]; exact Nat.ne_of_lt (blk_lt NN.out.b)), (fun k e => by have := Kd.R_lt NN.out.r k e; omega), (fun k e => by have := Kd.R_lt RT.out k e; omega), (fun k e => by have := Kd.R_lt RL.out k e; omega), (fun k e => by have := Kd.R_lt RW.out k e; omega)⟩); have BT := Z_ hbox; have z0_ := Z_ (NN.out.below hb); have z1_ := Z_ (rB_ RT.out hb); have z2_ := Z_ (rB_ RL.out hb); have z3_ := Z_ (rB_ RW.out hb); have z4_ := Z_ (rB_ RM.out hb); have zb_ := Z_ (fS_ HB.out hb); clear HB NN RT RL RW RM; have NN := z0_; have RT := z1_; have RL := z2_; have RW := z3_; have RM := z4_; have HB := zb_; clear zb_ z0_ z1_ z2_ z3_ z4_; clear hb hbox hg_; (try clear jB jA); have jB : w10.cell? ⟨g1, 0, none⟩ = some (.int .i64 3) := (bC_ NN.out.b 0).trans rfl; have jA : w10.cell? ⟨g1, 1, none⟩ = some (.slice A1 net3.length c1) := (bC_ NN.out.b 1).trans rfl)
  | (refine gate_store (t := 24) (p := 13) (v := .tmp 47) rfl ?_; refine store_box rfl rfl 24 (.tmp 13) (.tmp 47) rfl [.int .i64 3, .slice A5 net4.length c5] (by rfl) g2 rfl _ rfl rfl (by intro q hq; simp only [List.mem_cons, List.not_mem_nil, or_false] at hq; rcases hq with rfl | rfl <;> rfl) _ BT.out rfl ?_; intro w11 hb5 hg5; have zn_ := Z_ (NetAt.mk (w := w) (n := 3) (l := net4) hb5 (Kd.R_grown2 RM.out rfl hg5 (fun k e e2 => NG.out.2.1 k e2.symm (oI_ e).symm)) NG.out.1); have aK2 := Z_ (NN.out.far hg5 NG.out.2.2.1 NG.out.2.2.2.1); have aK1 := Z_ (Kd.R_grown2 RT.out rfl hg5 (fun k e e2 => NG.out.2.2.2.2.1 k e2.symm (oI_ e).symm)); have aK0 := Z_ (Kd.R_grown2 RL.out rfl hg5 (fun k e e2 => NG.out.2.2.2.2.2.1 k e2.symm (oI_ e).symm)); have aKZ := Z_ (Kd.R_grown2 RW.out rfl hg5 (fun k e e2 => NG.out.2.2.2.2.2.2 k e2.symm (oI_ e).symm)); have zb_ := Z_ (HB.out.grown hg5 HB.out.size (fun k e => by cases e; exact NG.out.1)); clear HB BT NG hb5 hg5 NN RT RL RW RM; (try clear jB jA); have NN := aK2; have RT := aK1; have RL := aK0; have RW := aKZ; have HB := zb_; have NM := zn_; clear zb_ zn_ aK2 aK1 aK0 aKZ; have jB : w11.cell? ⟨g1, 0, none⟩ = some (.int .i64 3) := (bC_ NN.out.b 0).trans rfl; have jA : w11.cell? ⟨g1, 1, none⟩ = some (.slice A1 net3.length c1) := (bC_ NN.out.b 1).trans rfl; have n6 : w11.cell? ⟨g2, 0, none⟩ = some (.int .i64 3) := (bC_ NM.out.b 0).trans rfl; have n5 : w11.cell? ⟨g2, 1, none⟩ = some (.slice A5 net4.length c5) := (bC_ NM.out.b 1).trans rfl)
  | ((with_reducible refine gate_callee (f := 40) rfl ?_); refine gL_ (some 51) Try.func40 #[.agg #[.int .i64 3, .slice A5 net4.length c5]] ?_; (with_reducible refine (d_Clash.calls 60 3 A5 c5 net4 rou3 true 0 _ NM.out.C NM.out.le ev51).mono ?_); rintro e w12 ⟨v_, rfl, ho, hb⟩; refine ⟨_, rfl, ?_⟩; have q_ := Z_ (rL_ ho HB.out.size); clear ho; have z0_ := Z_ (NM.out.below hb); have z1_ := Z_ (NN.out.below hb); have z2_ := Z_ (rB_ RT.out hb); have z3_ := Z_ (rB_ RL.out hb); have z4_ := Z_ (rB_ RW.out hb); have zb_ := Z_ (fS_ HB.out hb); clear HB NM NN RT RL RW; have NM := z0_; have NN := z1_; have RT := z2_; have RL := z3_; have RW := z4_; have HB := zb_; clear zb_ z0_ z1_ z2_ z3_ z4_; clear hb; (try clear jB jA); (try clear n6 n5); have RC := q_; clear q_; (obtain ⟨A6, c6, A6_, _⟩ := Kd.R_reads RC.out); subst A6_; have jB : w12.cell? ⟨g1, 0, none⟩ = some (.int .i64 3) := (bC_ NN.out.b 0).trans rfl; have jA : w12.cell? ⟨g1, 1, none⟩ = some (.slice A1 net3.length c1) := (bC_ NN.out.b 1).trans rfl; have n6 : w12.cell? ⟨g2, 0, none⟩ = some (.int .i64 3) := (bC_ NM.out.b 0).trans rfl; have n5 : w12.cell? ⟨g2, 1, none⟩ = some (.slice A5 net4.length c5) := (bC_ NM.out.b 1).trans rfl)
  | ((with_reducible refine gate_callee (f := 29) rfl ?_); refine gL_ (some 56) Try.func29 #[.agg #[.int .i64 3, .slice A1 net3.length c1]] ?_; (with_reducible refine (d_Check.calls 60 3 A1 c1 net3 0 _ NN.out.C NN.out.le ev56).mono ?_); rintro e w13 ⟨rfl, hb⟩; refine ⟨_, rfl, ?_⟩; have z0_ := Z_ (NM.out.below hb); have z1_ := Z_ (NN.out.below hb); have z2_ := Z_ (rB_ RT.out hb); have z3_ := Z_ (rB_ RL.out hb); have z4_ := Z_ (rB_ RW.out hb); have z5_ := Z_ (rB_ RC.out hb); have zb_ := Z_ (fS_ HB.out hb); clear HB NM NN RT RL RW RC; have NM := z0_; have NN := z1_; have RT := z2_; have RL := z3_; have RW := z4_; have RC := z5_; have HB := zb_; clear zb_ z0_ z1_ z2_ z3_ z4_ z5_; clear hb; (try clear jB jA); (try clear n6 n5); have jB : w13.cell? ⟨g1, 0, none⟩ = some (.int .i64 3) := (bC_ NN.out.b 0).trans rfl; have jA : w13.cell? ⟨g1, 1, none⟩ = some (.slice A1 net3.length c1) := (bC_ NN.out.b 1).trans rfl; have n6 : w13.cell? ⟨g2, 0, none⟩ = some (.int .i64 3) := (bC_ NM.out.b 0).trans rfl; have n5 : w13.cell? ⟨g2, 1, none⟩ = some (.slice A5 net4.length c5) := (bC_ NM.out.b 1).trans rfl)
  | (go_at_call 29; (with_reducible refine (chk0 _).mono ?_); rintro e w14 ⟨rfl, hb⟩; have z0_ := Z_ (NM.out.below hb); have z1_ := Z_ (NN.out.below hb); have z2_ := Z_ (rB_ RT.out hb); have z3_ := Z_ (rB_ RL.out hb); have z4_ := Z_ (rB_ RW.out hb); have z5_ := Z_ (rB_ RC.out hb); have zb_ := Z_ (fS_ HB.out hb); clear HB NM NN RT RL RW RC; have NM := z0_; have NN := z1_; have RT := z2_; have RL := z3_; have RW := z4_; have RC := z5_; have HB := zb_; clear zb_ z0_ z1_ z2_ z3_ z4_ z5_; clear hb; (try clear jB jA); (try clear n6 n5); have jB : w14.cell? ⟨g1, 0, none⟩ = some (.int .i64 3) := (bC_ NN.out.b 0).trans rfl; have jA : w14.cell? ⟨g1, 1, none⟩ = some (.slice A1 net3.length c1) := (bC_ NN.out.b 1).trans rfl; have n6 : w14.cell? ⟨g2, 0, none⟩ = some (.int .i64 3) := (bC_ NM.out.b 0).trans rfl; have n5 : w14.cell? ⟨g2, 1, none⟩ = some (.slice A5 net4.length c5) := (bC_ NM.out.b 1).trans rfl)
  | ((with_reducible refine gate_dst (N := 77) rfl ?_); (try (refine gate_guard (by rfl) ?_; dsimp only)); refine Kd.R_lit (w0 := w) (Kd.int .i64) w.heap.size 3 ?hg (N := 77) ?hd (xs := ([(0), (5), (3)] : List Int)) (inner := [.int .i64 (0), .int .i64 (5), .int .i64 (3)]) (ok := fun _ => True) (okp := fun _ => True) ?hr ?hp (fun _ hk => hk) trivial HB.out HB.out.size (by simp) ?_; (case hd => rfl); (case hg => rfl); (case hr => first | (go_simp; done) | (go_simp; rfl)); (case hp => exact (Reps.one (show Kd.M (Kd.int .i64) _ _ _ (0) [.int .i64 (0)] from rfl) (Reps.one (show Kd.M (Kd.int .i64) _ _ _ (5) [.int .i64 (5)] from rfl) (Reps.one (show Kd.M (Kd.int .i64) _ _ _ (3) [.int .i64 (3)] from rfl) (Reps.none _ _))))); intro v_ w15 ho hb0 hg_ hn_; have hb := below_grown0 hg_; have q_ := Z_ (show Kd.R (Kd.int .i64) 3 _ w.heap.size (fun _ => True) v_ top3 from ho); clear ho; have z0_ := Z_ (NM.out.below hb); have z1_ := Z_ (NN.out.below hb); have z2_ := Z_ (rB_ RT.out hb); have z3_ := Z_ (rB_ RL.out hb); have z4_ := Z_ (rB_ RW.out hb); have z5_ := Z_ (rB_ RC.out hb); have zb_ := Z_ (fS_ HB.out hb); clear HB NM NN RT RL RW RC; have NM := z0_; have NN := z1_; have RT := z2_; have RL := z3_; have RW := z4_; have RC := z5_; have HB := zb_; clear zb_ z0_ z1_ z2_ z3_ z4_ z5_; clear hb hb0 hg_ hn_; (try clear jB jA); (try clear n6 n5); have RX := q_; clear q_; (obtain ⟨A7, c7, A7_, _⟩ := Kd.R_reads RX.out); subst A7_; have jB : w15.cell? ⟨g1, 0, none⟩ = some (.int .i64 3) := (bC_ NN.out.b 0).trans rfl; have jA : w15.cell? ⟨g1, 1, none⟩ = some (.slice A1 net3.length c1) := (bC_ NN.out.b 1).trans rfl; have n6 : w15.cell? ⟨g2, 0, none⟩ = some (.int .i64 3) := (bC_ NM.out.b 0).trans rfl; have n5 : w15.cell? ⟨g2, 1, none⟩ = some (.slice A5 net4.length c5) := (bC_ NM.out.b 1).trans rfl)
  | (go_at_call 28; (with_reducible refine (s_Equal_int_int.calls 60 A2 c2 top3 A7 c7 top3 true _ (rR_ RT.out).2.2 (rR_ RT.out).2.1 (rR_ RX.out).2.2 (rR_ RX.out).2.1 ev78).mono ?_); rintro e w16 ⟨rfl, hb⟩; replace hb := hb.below; have z0_ := Z_ (NM.out.below hb); have z1_ := Z_ (NN.out.below hb); have z2_ := Z_ (rB_ RT.out hb); have z3_ := Z_ (rB_ RL.out hb); have z4_ := Z_ (rB_ RW.out hb); have z5_ := Z_ (rB_ RC.out hb); have z6_ := Z_ (rB_ RX.out hb); have zb_ := Z_ (fS_ HB.out hb); clear HB NM NN RT RL RW RC RX; have NM := z0_; have NN := z1_; have RT := z2_; have RL := z3_; have RW := z4_; have RC := z5_; have RX := z6_; have HB := zb_; clear zb_ z0_ z1_ z2_ z3_ z4_ z5_ z6_; clear hb; (try clear jB jA); (try clear n6 n5); have jB : w16.cell? ⟨g1, 0, none⟩ = some (.int .i64 3) := (bC_ NN.out.b 0).trans rfl; have jA : w16.cell? ⟨g1, 1, none⟩ = some (.slice A1 net3.length c1) := (bC_ NN.out.b 1).trans rfl; have n6 : w16.cell? ⟨g2, 0, none⟩ = some (.int .i64 3) := (bC_ NM.out.b 0).trans rfl; have n5 : w16.cell? ⟨g2, 1, none⟩ = some (.slice A5 net4.length c5) := (bC_ NM.out.b 1).trans rfl)
  | ((with_reducible refine gate_dst (N := 87) rfl ?_); (try (refine gate_guard (by rfl) ?_; dsimp only)); refine Kd.R_lit (w0 := w) (Kd.int .i64) w.heap.size 3 ?hg (N := 87) ?hd (xs := ([(0), (2), (0)] : List Int)) (inner := [.int .i64 (0), .int .i64 (2), .int .i64 (0)]) (ok := fun _ => True) (okp := fun _ => True) ?hr ?hp (fun _ hk => hk) trivial HB.out HB.out.size (by simp) ?_; (case hd => rfl); (case hg => rfl); (case hr => first | (go_simp; done) | (go_simp; rfl)); (case hp => exact (Reps.one (show Kd.M (Kd.int .i64) _ _ _ (0) [.int .i64 (0)] from rfl) (Reps.one (show Kd.M (Kd.int .i64) _ _ _ (2) [.int .i64 (2)] from rfl) (Reps.one (show Kd.M (Kd.int .i64) _ _ _ (0) [.int .i64 (0)] from rfl) (Reps.none _ _))))); intro v_ w17 ho hb0 hg_ hn_; have hb := below_grown0 hg_; have q_ := Z_ (show Kd.R (Kd.int .i64) 3 _ w.heap.size (fun _ => True) v_ low3 from ho); clear ho; have z0_ := Z_ (NM.out.below hb); have z1_ := Z_ (NN.out.below hb); have z2_ := Z_ (rB_ RT.out hb); have z3_ := Z_ (rB_ RL.out hb); have z4_ := Z_ (rB_ RW.out hb); have z5_ := Z_ (rB_ RC.out hb); have z6_ := Z_ (rB_ RX.out hb); have zb_ := Z_ (fS_ HB.out hb); clear HB NM NN RT RL RW RC RX; have NM := z0_; have NN := z1_; have RT := z2_; have RL := z3_; have RW := z4_; have RC := z5_; have RX := z6_; have HB := zb_; clear zb_ z0_ z1_ z2_ z3_ z4_ z5_ z6_; clear hb hb0 hg_ hn_; (try clear jB jA); (try clear n6 n5); have RY := q_; clear q_; (obtain ⟨A8, c8, A8_, _⟩ := Kd.R_reads RY.out); subst A8_; have jB : w17.cell? ⟨g1, 0, none⟩ = some (.int .i64 3) := (bC_ NN.out.b 0).trans rfl; have jA : w17.cell? ⟨g1, 1, none⟩ = some (.slice A1 net3.length c1) := (bC_ NN.out.b 1).trans rfl; have n6 : w17.cell? ⟨g2, 0, none⟩ = some (.int .i64 3) := (bC_ NM.out.b 0).trans rfl; have n5 : w17.cell? ⟨g2, 1, none⟩ = some (.slice A5 net4.length c5) := (bC_ NM.out.b 1).trans rfl)
  | (go_at_call 28; (with_reducible refine (s_Equal_int_int.calls 60 A3 c3 low3 A8 c8 low3 true _ (rR_ RL.out).2.2 (rR_ RL.out).2.1 (rR_ RY.out).2.2 (rR_ RY.out).2.1 ev88).mono ?_); rintro e w18 ⟨rfl, hb⟩; replace hb := hb.below; have z0_ := Z_ (NM.out.below hb); have z1_ := Z_ (NN.out.below hb); have z2_ := Z_ (rB_ RT.out hb); have z3_ := Z_ (rB_ RL.out hb); have z4_ := Z_ (rB_ RW.out hb); have z5_ := Z_ (rB_ RC.out hb); have z6_ := Z_ (rB_ RX.out hb); have z7_ := Z_ (rB_ RY.out hb); have zb_ := Z_ (fS_ HB.out hb); clear HB NM NN RT RL RW RC RX RY; have NM := z0_; have NN := z1_; have RT := z2_; have RL := z3_; have RW := z4_; have RC := z5_; have RX := z6_; have RY := z7_; have HB := zb_; clear zb_ z0_ z1_ z2_ z3_ z4_ z5_ z6_ z7_; clear hb; (try clear jB jA); (try clear n6 n5); have jB : w18.cell? ⟨g1, 0, none⟩ = some (.int .i64 3) := (bC_ NN.out.b 0).trans rfl; have jA : w18.cell? ⟨g1, 1, none⟩ = some (.slice A1 net3.length c1) := (bC_ NN.out.b 1).trans rfl; have n6 : w18.cell? ⟨g2, 0, none⟩ = some (.int .i64 3) := (bC_ NM.out.b 0).trans rfl; have n5 : w18.cell? ⟨g2, 1, none⟩ = some (.slice A5 net4.length c5) := (bC_ NM.out.b 1).trans rfl)
  | ((with_reducible refine gate_dst (N := 119) rfl ?_); (try (refine gate_guard (by rfl) ?_; dsimp only)); refine Kd.R_lit (w0 := w) (Kd.int .i64) w.heap.size 3 ?hg (N := 119) ?hd (xs := ([(3), (1), (2)] : List Int)) (inner := [.int .i64 (3), .int .i64 (1), .int .i64 (2)]) (ok := fun _ => True) (okp := fun _ => True) ?hr ?hp (fun _ hk => hk) trivial HB.out HB.out.size (by simp) ?_; (case hd => rfl); (case hg => rfl); (case hr => first | (go_simp; done) | (go_simp; rfl)); (case hp => exact (Reps.one (show Kd.M (Kd.int .i64) _ _ _ (3) [.int .i64 (3)] from rfl) (Reps.one (show Kd.M (Kd.int .i64) _ _ _ (1) [.int .i64 (1)] from rfl) (Reps.one (show Kd.M (Kd.int .i64) _ _ _ (2) [.int .i64 (2)] from rfl) (Reps.none _ _))))); intro v_ w19 ho hb0 hg_ hn_; have hb := below_grown0 hg_; have q_ := Z_ (show Kd.R (Kd.int .i64) 3 _ w.heap.size (fun _ => True) v_ rot3 from ho); clear ho; have z0_ := Z_ (NM.out.below hb); have z1_ := Z_ (NN.out.below hb); have z2_ := Z_ (rB_ RT.out hb); have z3_ := Z_ (rB_ RL.out hb); have z4_ := Z_ (rB_ RW.out hb); have z5_ := Z_ (rB_ RC.out hb); have z6_ := Z_ (rB_ RX.out hb); have z7_ := Z_ (rB_ RY.out hb); have zb_ := Z_ (fS_ HB.out hb); clear HB NM NN RT RL RW RC RX RY; have NM := z0_; have NN := z1_; have RT := z2_; have RL := z3_; have RW := z4_; have RC := z5_; have RX := z6_; have RY := z7_; have HB := zb_; clear zb_ z0_ z1_ z2_ z3_ z4_ z5_ z6_ z7_; clear hb hb0 hg_ hn_; (try clear jB jA); (try clear n6 n5); have RZ := q_; clear q_; (obtain ⟨A9, c9, A9_, _⟩ := Kd.R_reads RZ.out); subst A9_; have jB : w19.cell? ⟨g1, 0, none⟩ = some (.int .i64 3) := (bC_ NN.out.b 0).trans rfl; have jA : w19.cell? ⟨g1, 1, none⟩ = some (.slice A1 net3.length c1) := (bC_ NN.out.b 1).trans rfl; have n6 : w19.cell? ⟨g2, 0, none⟩ = some (.int .i64 3) := (bC_ NM.out.b 0).trans rfl; have n5 : w19.cell? ⟨g2, 1, none⟩ = some (.slice A5 net4.length c5) := (bC_ NM.out.b 1).trans rfl)
  | (go_at_call 37; (with_reducible refine (d_CheckClash.calls 60 3 A5 c5 net4 A9 c9 rot3 0 _ NM.out.C NM.out.le (rR_ RZ.out).2.2 (rR_ RZ.out).2.1 ev120).mono ?_); rintro e w20 ⟨rfl, hb⟩; have z0_ := Z_ (NM.out.below hb); have z1_ := Z_ (NN.out.below hb); have z2_ := Z_ (rB_ RT.out hb); have z3_ := Z_ (rB_ RL.out hb); have z4_ := Z_ (rB_ RW.out hb); have z5_ := Z_ (rB_ RC.out hb); have z6_ := Z_ (rB_ RX.out hb); have z7_ := Z_ (rB_ RY.out hb); have z8_ := Z_ (rB_ RZ.out hb); have zb_ := Z_ (fS_ HB.out hb); clear HB NM NN RT RL RW RC RX RY RZ; have NM := z0_; have NN := z1_; have RT := z2_; have RL := z3_; have RW := z4_; have RC := z5_; have RX := z6_; have RY := z7_; have RZ := z8_; have HB := zb_; clear zb_ z0_ z1_ z2_ z3_ z4_ z5_ z6_ z7_ z8_; clear hb; (try clear jB jA); (try clear n6 n5); have jB : w20.cell? ⟨g1, 0, none⟩ = some (.int .i64 3) := (bC_ NN.out.b 0).trans rfl; have jA : w20.cell? ⟨g1, 1, none⟩ = some (.slice A1 net3.length c1) := (bC_ NN.out.b 1).trans rfl; have n6 : w20.cell? ⟨g2, 0, none⟩ = some (.int .i64 3) := (bC_ NM.out.b 0).trans rfl; have n5 : w20.cell? ⟨g2, 1, none⟩ = some (.slice A5 net4.length c5) := (bC_ NM.out.b 1).trans rfl)
  | ((with_reducible refine gate_dst (N := 124) rfl ?_); refine Kd.R_lit (w0 := w) (Kd.int .i64) w.heap.size 3 ?hg (N := 124) ?hd (xs := ([(0), (1)] : List Int)) (inner := [.int .i64 (0), .int .i64 (1)]) (ok := fun _ => True) (okp := fun _ => True) ?hr ?hp (fun _ hk => hk) trivial HB.out HB.out.size (by simp) ?_; (case hd => rfl); (case hg => rfl); (case hr => first | (go_simp; done) | (go_simp; rfl)); (case hp => exact (Reps.one (show Kd.M (Kd.int .i64) _ _ _ (0) [.int .i64 (0)] from rfl) (Reps.one (show Kd.M (Kd.int .i64) _ _ _ (1) [.int .i64 (1)] from rfl) (Reps.none _ _)))); intro v_ w21 ho hb0 hg_ hn_; have hb := below_grown0 hg_; have q_ := Z_ (show Kd.R (Kd.int .i64) 3 _ w.heap.size (fun _ => True) v_ pat3 from ho); clear ho; have z0_ := Z_ (NM.out.below hb); have z1_ := Z_ (NN.out.below hb); have z2_ := Z_ (rB_ RT.out hb); have z3_ := Z_ (rB_ RL.out hb); have z4_ := Z_ (rB_ RW.out hb); have z5_ := Z_ (rB_ RC.out hb); have z6_ := Z_ (rB_ RX.out hb); have z7_ := Z_ (rB_ RY.out hb); have z8_ := Z_ (rB_ RZ.out hb); have zb_ := Z_ (fS_ HB.out hb); clear HB NM NN RT RL RW RC RX RY RZ; have NM := z0_; have NN := z1_; have RT := z2_; have RL := z3_; have RW := z4_; have RC := z5_; have RX := z6_; have RY := z7_; have RZ := z8_; have HB := zb_; clear zb_ z0_ z1_ z2_ z3_ z4_ z5_ z6_ z7_ z8_; clear hb hb0 hg_ hn_; (try clear jB jA); (try clear n6 n5); have RP := q_; clear q_; (obtain ⟨A10, c10, bah, _⟩ := Kd.R_reads RP.out); subst bah; have jB : w21.cell? ⟨g1, 0, none⟩ = some (.int .i64 3) := (bC_ NN.out.b 0).trans rfl; have jA : w21.cell? ⟨g1, 1, none⟩ = some (.slice A1 net3.length c1) := (bC_ NN.out.b 1).trans rfl; have n6 : w21.cell? ⟨g2, 0, none⟩ = some (.int .i64 3) := (bC_ NM.out.b 0).trans rfl; have n5 : w21.cell? ⟨g2, 1, none⟩ = some (.slice A5 net4.length c5) := (bC_ NM.out.b 1).trans rfl)
  | ((with_reducible refine gate_callee (f := 43) rfl ?_); refine gL_ (some 125) Try.func43 #[.agg #[.int .i64 3, .slice A1 net3.length c1], .int .i64 0, .int .i64 2, .int .i64 3, .slice A10 pat3.length c10] ?_; (with_reducible refine (d_CheckPath.calls 60 3 A1 c1 net3 0 2 3 A10 c10 pat3 0 _ NN.out.C NN.out.le (rR_ RP.out).2.2 (rR_ RP.out).2.1 ev125).mono ?_); rintro e w22 ⟨rfl, hb⟩; refine ⟨_, rfl, ?_⟩; have z0_ := Z_ (NM.out.below hb); have z1_ := Z_ (NN.out.below hb); have z2_ := Z_ (rB_ RT.out hb); have z3_ := Z_ (rB_ RL.out hb); have z4_ := Z_ (rB_ RW.out hb); have z5_ := Z_ (rB_ RC.out hb); have z6_ := Z_ (rB_ RX.out hb); have z7_ := Z_ (rB_ RY.out hb); have z8_ := Z_ (rB_ RZ.out hb); have z9_ := Z_ (rB_ RP.out hb); have zb_ := Z_ (fS_ HB.out hb); clear HB NM NN RT RL RW RC RX RY RZ RP; have NM := z0_; have NN := z1_; have RT := z2_; have RL := z3_; have RW := z4_; have RC := z5_; have RX := z6_; have RY := z7_; have RZ := z8_; have RP := z9_; have HB := zb_; clear zb_ z0_ z1_ z2_ z3_ z4_ z5_ z6_ z7_ z8_ z9_; clear hb; (try clear jB jA); (try clear n6 n5); have jB : w22.cell? ⟨g1, 0, none⟩ = some (.int .i64 3) := (bC_ NN.out.b 0).trans rfl; have jA : w22.cell? ⟨g1, 1, none⟩ = some (.slice A1 net3.length c1) := (bC_ NN.out.b 1).trans rfl; have n6 : w22.cell? ⟨g2, 0, none⟩ = some (.int .i64 3) := (bC_ NM.out.b 0).trans rfl; have n5 : w22.cell? ⟨g2, 1, none⟩ = some (.slice A5 net4.length c5) := (bC_ NM.out.b 1).trans rfl)
  | ((with_reducible refine gate_dst (N := 129) rfl ?_); (try (refine gate_guard (by rfl) ?_; dsimp only)); refine Kd.R_lit (w0 := w) (Kd.int .i64) w.heap.size 3 ?hg (N := 129) ?hd (xs := ([(0), (1)] : List Int)) (inner := [.int .i64 (0), .int .i64 (1)]) (ok := fun _ => True) (okp := fun _ => True) ?hr ?hp (fun _ hk => hk) trivial HB.out HB.out.size (by simp) ?_; (case hd => rfl); (case hg => rfl); (case hr => first | (go_simp; done) | (go_simp; rfl)); (case hp => exact (Reps.one (show Kd.M (Kd.int .i64) _ _ _ (0) [.int .i64 (0)] from rfl) (Reps.one (show Kd.M (Kd.int .i64) _ _ _ (1) [.int .i64 (1)] from rfl) (Reps.none _ _)))); intro v_ w23 ho hb0 hg_ hn_; have hb := below_grown0 hg_; have q_ := Z_ (show Kd.R (Kd.int .i64) 3 _ w.heap.size (fun _ => True) v_ pat3 from ho); clear ho; have z0_ := Z_ (NM.out.below hb); have z1_ := Z_ (NN.out.below hb); have z2_ := Z_ (rB_ RT.out hb); have z3_ := Z_ (rB_ RL.out hb); have z4_ := Z_ (rB_ RW.out hb); have z5_ := Z_ (rB_ RC.out hb); have z6_ := Z_ (rB_ RX.out hb); have z7_ := Z_ (rB_ RY.out hb); have z8_ := Z_ (rB_ RZ.out hb); have z9_ := Z_ (rB_ RP.out hb); have zb_ := Z_ (fS_ HB.out hb); clear HB NM NN RT RL RW RC RX RY RZ RP; have NM := z0_; have NN := z1_; have RT := z2_; have RL := z3_; have RW := z4_; have RC := z5_; have RX := z6_; have RY := z7_; have RZ := z8_; have RP := z9_; have HB := zb_; clear zb_ z0_ z1_ z2_ z3_ z4_ z5_ z6_ z7_ z8_ z9_; clear hb hb0 hg_ hn_; (try clear jB jA); (try clear n6 n5); have RQ := q_; clear q_; (obtain ⟨A11, c11, bag, _⟩ := Kd.R_reads RQ.out); subst bag; have jB : w23.cell? ⟨g1, 0, none⟩ = some (.int .i64 3) := (bC_ NN.out.b 0).trans rfl; have jA : w23.cell? ⟨g1, 1, none⟩ = some (.slice A1 net3.length c1) := (bC_ NN.out.b 1).trans rfl; have n6 : w23.cell? ⟨g2, 0, none⟩ = some (.int .i64 3) := (bC_ NM.out.b 0).trans rfl; have n5 : w23.cell? ⟨g2, 1, none⟩ = some (.slice A5 net4.length c5) := (bC_ NM.out.b 1).trans rfl)
  | (go_at_call 43; (with_reducible refine (d_CheckPath.calls 60 3 A1 c1 net3 0 2 2 A11 c11 pat3 43 _ NN.out.C NN.out.le (rR_ RQ.out).2.2 (rR_ RQ.out).2.1 ev130).mono ?_); rintro e w24 ⟨rfl, hb⟩; have z0_ := Z_ (NM.out.below hb); have z1_ := Z_ (NN.out.below hb); have z2_ := Z_ (rB_ RT.out hb); have z3_ := Z_ (rB_ RL.out hb); have z4_ := Z_ (rB_ RW.out hb); have z5_ := Z_ (rB_ RC.out hb); have z6_ := Z_ (rB_ RX.out hb); have z7_ := Z_ (rB_ RY.out hb); have z8_ := Z_ (rB_ RZ.out hb); have z9_ := Z_ (rB_ RP.out hb); have Mk := Z_ (rB_ RQ.out hb); have zb_ := Z_ (fS_ HB.out hb); clear HB NM NN RT RL RW RC RX RY RZ RP RQ; have NM := z0_; have NN := z1_; have RT := z2_; have RL := z3_; have RW := z4_; have RC := z5_; have RX := z6_; have RY := z7_; have RZ := z8_; have RP := z9_; have RQ := Mk; have HB := zb_; clear zb_ z0_ z1_ z2_ z3_ z4_ z5_ z6_ z7_ z8_ z9_ Mk; clear hb; (try clear jB jA); (try clear n6 n5); have jB : w24.cell? ⟨g1, 0, none⟩ = some (.int .i64 3) := (bC_ NN.out.b 0).trans rfl; have jA : w24.cell? ⟨g1, 1, none⟩ = some (.slice A1 net3.length c1) := (bC_ NN.out.b 1).trans rfl; have n6 : w24.cell? ⟨g2, 0, none⟩ = some (.int .i64 3) := (bC_ NM.out.b 0).trans rfl; have n5 : w24.cell? ⟨g2, 1, none⟩ = some (.slice A5 net4.length c5) := (bC_ NM.out.b 1).trans rfl)
  | ((with_reducible refine gate_dst (N := 136) rfl ?_); (try (refine gate_guard (by rfl) ?_; dsimp only)); refine Kd.R_lit (w0 := w) (Kd.int .i64) w.heap.size 3 ?hg (N := 136) ?hd (xs := ([(1), (2), (0)] : List Int)) (inner := [.int .i64 (1), .int .i64 (2), .int .i64 (0)]) (ok := fun _ => True) (okp := fun _ => True) ?hr ?hp (fun _ hk => hk) trivial HB.out HB.out.size (by simp) ?_; (case hd => rfl); (case hg => rfl); (case hr => first | (go_simp; done) | (go_simp; rfl)); (case hp => exact (Reps.one (show Kd.M (Kd.int .i64) _ _ _ (1) [.int .i64 (1)] from rfl) (Reps.one (show Kd.M (Kd.int .i64) _ _ _ (2) [.int .i64 (2)] from rfl) (Reps.one (show Kd.M (Kd.int .i64) _ _ _ (0) [.int .i64 (0)] from rfl) (Reps.none _ _))))); intro v_ w25 ho hb0 hg_ hn_; have hb := below_grown0 hg_; have q_ := Z_ (show Kd.R (Kd.int .i64) 3 _ w.heap.size (fun _ => True) v_ flo3 from ho); clear ho; have z0_ := Z_ (NM.out.below hb); have z1_ := Z_ (NN.out.below hb); have z2_ := Z_ (rB_ RT.out hb); have z3_ := Z_ (rB_ RL.out hb); have z4_ := Z_ (rB_ RW.out hb); have z5_ := Z_ (rB_ RC.out hb); have z6_ := Z_ (rB_ RX.out hb); have z7_ := Z_ (rB_ RY.out hb); have z8_ := Z_ (rB_ RZ.out hb); have z9_ := Z_ (rB_ RP.out hb); have Mk := Z_ (rB_ RQ.out hb); have zb_ := Z_ (fS_ HB.out hb); clear HB NM NN RT RL RW RC RX RY RZ RP RQ; have NM := z0_; have NN := z1_; have RT := z2_; have RL := z3_; have RW := z4_; have RC := z5_; have RX := z6_; have RY := z7_; have RZ := z8_; have RP := z9_; have RQ := Mk; have HB := zb_; clear zb_ z0_ z1_ z2_ z3_ z4_ z5_ z6_ z7_ z8_ z9_ Mk; clear hb hb0 hg_ hn_; (try clear jB jA); (try clear n6 n5); have RS := q_; clear q_; (obtain ⟨A12, c12, bac, _⟩ := Kd.R_reads RS.out); subst bac; have jB : w25.cell? ⟨g1, 0, none⟩ = some (.int .i64 3) := (bC_ NN.out.b 0).trans rfl; have jA : w25.cell? ⟨g1, 1, none⟩ = some (.slice A1 net3.length c1) := (bC_ NN.out.b 1).trans rfl; have n6 : w25.cell? ⟨g2, 0, none⟩ = some (.int .i64 3) := (bC_ NM.out.b 0).trans rfl; have n5 : w25.cell? ⟨g2, 1, none⟩ = some (.slice A5 net4.length c5) := (bC_ NM.out.b 1).trans rfl)
  | (go_at_call 49; (with_reducible refine (d_CheckFlow.calls 60 3 A1 c1 net3 A4 c4 wei3 1 A12 c12 flo3 0 _ NN.out.C NN.out.le (rR_ RW.out).2.2 (rR_ RW.out).2.1 (rR_ RS.out).2.2 (rR_ RS.out).2.1 ev137).mono ?_); rintro e w26 ⟨rfl, hb⟩; have z0_ := Z_ (NM.out.below hb); have z1_ := Z_ (NN.out.below hb); have z2_ := Z_ (rB_ RT.out hb); have z3_ := Z_ (rB_ RL.out hb); have z4_ := Z_ (rB_ RW.out hb); have z5_ := Z_ (rB_ RC.out hb); have z6_ := Z_ (rB_ RX.out hb); have z7_ := Z_ (rB_ RY.out hb); have z8_ := Z_ (rB_ RZ.out hb); have z9_ := Z_ (rB_ RP.out hb); have Mk := Z_ (rB_ RQ.out hb); have abS := Z_ (rB_ RS.out hb); have zb_ := Z_ (fS_ HB.out hb); clear HB NM NN RT RL RW RC RX RY RZ RP RQ RS; have NM := z0_; have NN := z1_; have RT := z2_; have RL := z3_; have RW := z4_; have RC := z5_; have RX := z6_; have RY := z7_; have RZ := z8_; have RP := z9_; have RQ := Mk; have RS := abS; have HB := zb_; clear zb_ z0_ z1_ z2_ z3_ z4_ z5_ z6_ z7_ z8_ z9_ Mk abS; clear hb; (try clear jB jA); (try clear n6 n5); have jB : w26.cell? ⟨g1, 0, none⟩ = some (.int .i64 3) := (bC_ NN.out.b 0).trans rfl; have jA : w26.cell? ⟨g1, 1, none⟩ = some (.slice A1 net3.length c1) := (bC_ NN.out.b 1).trans rfl; have n6 : w26.cell? ⟨g2, 0, none⟩ = some (.int .i64 3) := (bC_ NM.out.b 0).trans rfl; have n5 : w26.cell? ⟨g2, 1, none⟩ = some (.slice A5 net4.length c5) := (bC_ NM.out.b 1).trans rfl)
  | ((with_reducible refine gate_dst (N := 143) rfl ?_); (try (refine gate_guard (by rfl) ?_; dsimp only)); refine Kd.R_lit (w0 := w) (Kd.int .i64) w.heap.size 3 ?hg (N := 143) ?hd (xs := ([(1), (2), (0)] : List Int)) (inner := [.int .i64 (1), .int .i64 (2), .int .i64 (0)]) (ok := fun _ => True) (okp := fun _ => True) ?hr ?hp (fun _ hk => hk) trivial HB.out HB.out.size (by simp) ?_; (case hd => rfl); (case hg => rfl); (case hr => first | (go_simp; done) | (go_simp; rfl)); (case hp => exact (Reps.one (show Kd.M (Kd.int .i64) _ _ _ (1) [.int .i64 (1)] from rfl) (Reps.one (show Kd.M (Kd.int .i64) _ _ _ (2) [.int .i64 (2)] from rfl) (Reps.one (show Kd.M (Kd.int .i64) _ _ _ (0) [.int .i64 (0)] from rfl) (Reps.none _ _))))); intro v_ w27 ho hb0 hg_ hn_; have hb := below_grown0 hg_; have q_ := Z_ (show Kd.R (Kd.int .i64) 3 _ w.heap.size (fun _ => True) v_ flo3 from ho); clear ho; have z0_ := Z_ (NM.out.below hb); have z1_ := Z_ (NN.out.below hb); have z2_ := Z_ (rB_ RT.out hb); have z3_ := Z_ (rB_ RL.out hb); have z4_ := Z_ (rB_ RW.out hb); have z5_ := Z_ (rB_ RC.out hb); have z6_ := Z_ (rB_ RX.out hb); have z7_ := Z_ (rB_ RY.out hb); have z8_ := Z_ (rB_ RZ.out hb); have z9_ := Z_ (rB_ RP.out hb); have Mk := Z_ (rB_ RQ.out hb); have abS := Z_ (rB_ RS.out hb); have zb_ := Z_ (fS_ HB.out hb); clear HB NM NN RT RL RW RC RX RY RZ RP RQ RS; have NM := z0_; have NN := z1_; have RT := z2_; have RL := z3_; have RW := z4_; have RC := z5_; have RX := z6_; have RY := z7_; have RZ := z8_; have RP := z9_; have RQ := Mk; have RS := abS; have HB := zb_; clear zb_ z0_ z1_ z2_ z3_ z4_ z5_ z6_ z7_ z8_ z9_ Mk abS; clear hb hb0 hg_ hn_; (try clear jB jA); (try clear n6 n5); have RU := q_; clear q_; (obtain ⟨A13, c13, bab, _⟩ := Kd.R_reads RU.out); subst bab; have jB : w27.cell? ⟨g1, 0, none⟩ = some (.int .i64 3) := (bC_ NN.out.b 0).trans rfl; have jA : w27.cell? ⟨g1, 1, none⟩ = some (.slice A1 net3.length c1) := (bC_ NN.out.b 1).trans rfl; have n6 : w27.cell? ⟨g2, 0, none⟩ = some (.int .i64 3) := (bC_ NM.out.b 0).trans rfl; have n5 : w27.cell? ⟨g2, 1, none⟩ = some (.slice A5 net4.length c5) := (bC_ NM.out.b 1).trans rfl)
  | (go_at_call 49; (with_reducible refine (d_CheckFlow.calls 60 3 A1 c1 net3 A4 c4 wei3 0 A13 c13 flo3 43 _ NN.out.C NN.out.le (rR_ RW.out).2.2 (rR_ RW.out).2.1 (rR_ RU.out).2.2 (rR_ RU.out).2.1 ev144).mono ?_); rintro e w28 ⟨rfl, hb⟩; have z0_ := Z_ (NM.out.below hb); have z1_ := Z_ (NN.out.below hb); have z2_ := Z_ (rB_ RT.out hb); have z3_ := Z_ (rB_ RL.out hb); have z4_ := Z_ (rB_ RW.out hb); have z5_ := Z_ (rB_ RC.out hb); have z6_ := Z_ (rB_ RX.out hb); have z7_ := Z_ (rB_ RY.out hb); have z8_ := Z_ (rB_ RZ.out hb); have z9_ := Z_ (rB_ RP.out hb); have Mk := Z_ (rB_ RQ.out hb); have abS := Z_ (rB_ RS.out hb); have aK3 := Z_ (rB_ RU.out hb); have zb_ := Z_ (fS_ HB.out hb); clear HB NM NN RT RL RW RC RX RY RZ RP RQ RS RU; have NM := z0_; have NN := z1_; have RT := z2_; have RL := z3_; have RW := z4_; have RC := z5_; have RX := z6_; have RY := z7_; have RZ := z8_; have RP := z9_; have RQ := Mk; have RS := abS; have RU := aK3; have HB := zb_; clear zb_ z0_ z1_ z2_ z3_ z4_ z5_ z6_ z7_ z8_ z9_ Mk abS aK3; clear hb; (try clear jB jA); (try clear n6 n5); have jB : w28.cell? ⟨g1, 0, none⟩ = some (.int .i64 3) := (bC_ NN.out.b 0).trans rfl; have jA : w28.cell? ⟨g1, 1, none⟩ = some (.slice A1 net3.length c1) := (bC_ NN.out.b 1).trans rfl; have n6 : w28.cell? ⟨g2, 0, none⟩ = some (.int .i64 3) := (bC_ NM.out.b 0).trans rfl; have n5 : w28.cell? ⟨g2, 1, none⟩ = some (.slice A5 net4.length c5) := (bC_ NM.out.b 1).trans rfl))
 go_ret; exact ⟨rfl, HB.out⟩
end Go.Proofs.Ytpolojoeabmhdaa.A
/- Shortest walks in plain lists: passes over the differences, the way back, rounds of negative length. -/
namespace Go.Proofs.Ytpolojoeabmhdaa.A
open Go.RowKit Go.Proofs.YtpolojoeabmhdaaW.PrintWords Go.Proofs.YtpolojoeabmhdaaW.PrintLast Go.Proofs.YtpolojoeabmhdaaW.PrintMore
theorem rd_set (l : List Int) (i j x : Int) (h0 : 0 <= i) (h1 : i < l.length) (hj : 0 <= j) : rd (l.set i.toNat x) j = if j = i then x else rd l j := by
 unfold rd
 rw [List.getD_eq_getElem?_getD, List.getD_eq_getElem?_getD, List.getElem?_set]
 by_cases h : j = i
 .subst h; rw [if_pos rfl, if_pos rfl, if_pos (by omega)]; rfl
 .rw [if_neg h, if_neg (by omega)]
theorem rdOf_set {α : Type} (d : α) (l : List α) (i j : Int) (x : α) (h0 : 0 <= i) (h1 : i < l.length) (hj : 0 <= j) : rdOf d (l.set i.toNat x) j = if j = i then x else rdOf d l j := by
 unfold rdOf
 rw [List.getD_eq_getElem?_getD, List.getD_eq_getElem?_getD, List.getElem?_set]
 by_cases h : j = i
 .subst h; rw [if_pos rfl, if_pos rfl, if_pos (by omega)]; rfl
 .rw [if_neg h, if_neg (by omega)]
structure Sg where
 lo : List Int
 ha : List Bool
 la : List Int
def Sg.better (s : Sg) (d : S39) : Bool := rdOf false s.ha d.f0 && (!rdOf false s.ha d.f1 || decide (rd s.lo d.f0 + d.f2 < rd s.lo d.f1))
def Sg.put (s : Sg) (d : S39) (k : Int) : Sg := ⟨s.lo.set d.f1.toNat (rd s.lo d.f0 + d.f2), s.ha.set d.f1.toNat true, s.la.set d.f1.toNat k⟩
def pass : List S39 -> Int -> Int -> Sg -> Int × Sg
 | [], _, c, s => (c, s)
 | d :: ds, k, c, s => if s.better d = true then pass ds (k + 1) d.f1 (s.put d k) else pass ds (k + 1) c s
structure EdgeOk (n : Int) (d : S39) : Prop where
 a : 0 <= d.f0
 b : d.f0 < n
 c : 0 <= d.f1
 g : d.f1 < n
 e : -1073741824 <= d.f2
 f : d.f2 <= 1073741824
def EdgesOk (n : Int) (L : List S39) : Prop := ∀ k : Int, 0 <= k -> k < L.length -> EdgeOk n (rT39 L k)
def hasN (s : Sg) (v : Int) : Prop := rdOf false s.ha v = true
structure Bf (n : Int) (L : List S39) (src : Int -> Prop) (b k : Int) (s : Sg) (T : Int -> Int) : Prop where
 l1 : (s.lo.length : Int) = n
 l2 : (s.ha.length : Int) = n
 l3 : (s.la.length : Int) = n
 t0 : ∀ v, 0 <= v -> v < n -> 0 <= T v /\ T v <= b + k
 z : ∀ v, 0 <= v -> v < n -> T v = 0 -> rd s.la v = -1 /\ rd s.lo v = 0 /\ (hasN s v <-> src v)
 p : ∀ v, 0 <= v -> v < n -> 0 < T v -> 0 <= rd s.la v /\ rd s.la v < L.length /\ hasN s v /\ (rT39 L (rd s.la v)).f1 = v /\ hasN s (rT39 L (rd s.la v)).f0 /\ rd s.lo v >= rd s.lo (rT39 L (rd s.la v)).f0 + (rT39 L (rd s.la v)).f2 /\ (T (rT39 L (rd s.la v)).f0 >= T v -> rd s.lo v > rd s.lo (rT39 L (rd s.la v)).f0 + (rT39 L (rd s.la v)).f2) /\ T (rT39 L (rd s.la v)).f0 >= T v - L.length
 j : ∀ i : Int, 0 <= i -> i < L.length -> hasN s (rT39 L i).f0 -> T (rT39 L i).f0 < (if i < k then b + i + 1 else b - L.length + i + 1) -> hasN s (rT39 L i).f1 /\ rd s.lo (rT39 L i).f1 <= rd s.lo (rT39 L i).f0 + (rT39 L i).f2
 w : ∀ v, 0 <= v -> v < n -> -(b + k) * 1073741824 <= rd s.lo v /\ rd s.lo v <= (b + k) * 1073741824
theorem better_iff (s : Sg) (d : S39) : s.better d = true <-> hasN s d.f0 /\ (¬ hasN s d.f1 ∨ rd s.lo d.f0 + d.f2 < rd s.lo d.f1) := by
 unfold Sg.better hasN
 simp [Bool.and_eq_true, Bool.or_eq_true]
section
variable {n : Int} {L : List S39} {src : Int -> Prop} {b k : Int} {s : Sg} {T : Int -> Int}
theorem Bf.skip (h : Bf n L src b k s T) (hE : EdgesOk n L) (hk0 : 0 <= k) (hk : k < L.length) (hb : 0 <= b) (hn : ¬ s.better (rT39 L k) = true) : Bf n L src b (k + 1) s T := by
 refine ⟨h.l1, h.l2, h.l3, fun v a c => ⟨(h.t0 v a c).1, by have := (h.t0 v a c).2; omega⟩, h.z, h.p, fun i a c e f => ?_, fun v a c => ?_⟩
 .by_cases hi : i = k
  .subst hi
   rw [better_iff] at hn
   by_cases h1 : hasN s (rT39 L i).f1
   .exact ⟨h1, by
     have : ¬ (rd s.lo (rT39 L i).f0 + (rT39 L i).f2 < rd s.lo (rT39 L i).f1) := fun h2 => hn ⟨e, Or.inr h2⟩
     omega⟩
   .exact absurd ⟨e, Or.inl h1⟩ hn
  .refine h.j i a c e ?_
   by_cases h2 : i < k
   .rw [if_pos h2]; rw [if_pos (by omega)] at f; exact f
   .rw [if_neg h2]; rw [if_neg (by omega)] at f; exact f
 .have := h.w v a c
  omega
theorem hasN_put {s : Sg} {d : S39} {k v : Int} {n : Int} (hl : (s.ha.length : Int) = n) (hd : EdgeOk n d) (hv : 0 <= v) : hasN (s.put d k) v <-> v = d.f1 ∨ hasN s v := by
 unfold hasN Sg.put
 rw [rdOf_set _ _ _ _ _ hd.c (by have := hd.g; omega) hv]
 by_cases h : v = d.f1
 .simp [h]
 .simp [h]
theorem lo_put {s : Sg} {d : S39} {k v : Int} {n : Int} (hl : (s.lo.length : Int) = n) (hd : EdgeOk n d) (hv : 0 <= v) : rd (s.put d k).lo v = if v = d.f1 then rd s.lo d.f0 + d.f2 else rd s.lo v :=
 rd_set _ _ _ _ hd.c (by have := hd.g; omega) hv
theorem la_put {s : Sg} {d : S39} {k v : Int} {n : Int} (hl : (s.la.length : Int) = n) (hd : EdgeOk n d) (hv : 0 <= v) : rd (s.put d k).la v = if v = d.f1 then k else rd s.la v :=
 rd_set _ _ _ _ hd.c (by have := hd.g; omega) hv
def Tput (T : Int -> Int) (v t : Int) : Int -> Int := fun x => if x = v then t else T x
theorem Bf.step (h : Bf n L src b k s T) (hE : EdgesOk n L) (hk0 : 0 <= k) (hk : k < L.length) (hb : 0 <= b) (hy : s.better (rT39 L k) = true) : Bf n L src b (k + 1) (s.put (rT39 L k) k) (Tput T (rT39 L k).f1 (b + k + 1)) := by
 have hd := hE k hk0 hk
 rw [better_iff] at hy
 obtain ⟨hu, hv⟩ := hy
 generalize hdd : rT39 L k = d at *
 have tu := h.t0 d.f0 hd.a hd.b
 have tv := h.t0 d.f1 hd.c hd.g
 have hself : d.f0 = d.f1 -> d.f2 < 0 := fun e => by
  rcases hv with hv | hv
  .rw [<- e] at hv; exact absurd hu hv
  .rw [e] at hv; omega
 have hlow : hasN s d.f1 -> rd s.lo d.f0 + d.f2 < rd s.lo d.f1 := fun e => by
  rcases hv with hv | hv
  .exact absurd e hv
  .exact hv
 have hdrop : T d.f0 >= b + k + 1 - L.length := by
  by_cases hc : T d.f0 < b - L.length + k + 1
  .have := h.j k hk0 hk (by rw [hdd]; exact hu) (by rw [hdd, if_neg (by omega)]; exact hc)
   rw [hdd] at this
   rcases hv with hv | hv
   .exact absurd this.1 hv
   .omega
  .omega
 refine ⟨?_, ?_, ?_, ?_, ?_, ?_, ?_, ?_⟩
 .simpa [Sg.put] using h.l1
 .simpa [Sg.put] using h.l2
 .simpa [Sg.put] using h.l3
 .intro v a c
  have := h.t0 v a c
  unfold Tput
  by_cases e : v = d.f1
  .rw [if_pos e]; omega
  .rw [if_neg e]; omega
 .intro v a c ht
  unfold Tput at ht
  by_cases e : v = d.f1
  .rw [if_pos e] at ht; omega
  .rw [if_neg e] at ht
   have := h.z v a c ht
   rw [la_put h.l3 hd a, lo_put h.l1 hd a, if_neg e, if_neg e, hasN_put h.l2 hd a]
   exact ⟨this.1, this.2.1, ⟨fun q => this.2.2.1 (q.resolve_left e), fun q => Or.inr (this.2.2.2 q)⟩⟩
 .intro v a c ht
  rw [la_put h.l3 hd a, lo_put h.l1 hd a, hasN_put h.l2 hd a]
  by_cases e : v = d.f1
  .rw [if_pos e, if_pos e, hdd]
   refine ⟨hk0, hk, Or.inl e, e.symm, ?_, ?_, ?_, ?_⟩
   .rw [hasN_put h.l2 hd hd.a]; exact Or.inr hu
   .rw [lo_put h.l1 hd hd.a]
    by_cases e2 : d.f0 = d.f1
    .rw [if_pos e2]; have := hself e2; omega
    .rw [if_neg e2]; omega
   .rw [lo_put h.l1 hd hd.a]
    unfold Tput
    rw [if_pos e]
    by_cases e2 : d.f0 = d.f1
    .rw [if_pos e2, if_pos e2]; have := hself e2; omega
    .rw [if_neg e2, if_neg e2]; omega
   .unfold Tput
    rw [if_pos e]
    by_cases e2 : d.f0 = d.f1
    .rw [if_pos e2]; omega
    .rw [if_neg e2]; omega
  .unfold Tput at ht
   rw [if_neg e] at ht
   obtain ⟨q1, q2, q3, q4, q5, q6, q7, q8⟩ := h.p v a c ht
   have hd' := hE _ q1 q2
   rw [if_neg e, if_neg e]
   refine ⟨q1, q2, Or.inr q3, q4, ?_, ?_, ?_, ?_⟩
   .rw [hasN_put h.l2 hd hd'.a]; exact Or.inr q5
   .rw [lo_put h.l1 hd hd'.a]
    by_cases e2 : (rT39 L (rd s.la v)).f0 = d.f1
    .rw [if_pos e2]; rw [e2] at q5 q6; have := hlow q5; omega
    .rw [if_neg e2]; exact q6
   .rw [lo_put h.l1 hd hd'.a]
    unfold Tput
    rw [if_neg e]
    by_cases e2 : (rT39 L (rd s.la v)).f0 = d.f1
    .rw [if_pos e2]; rw [e2] at q5 q6; have := hlow q5; omega
    .rw [if_neg e2, if_neg e2]; exact q7
   .unfold Tput
    rw [if_neg e]
    have tv' := h.t0 v a c
    by_cases e2 : (rT39 L (rd s.la v)).f0 = d.f1
    .rw [if_pos e2]; omega
    .rw [if_neg e2]; exact q8
 .intro i a c e f
  have hd' := hE i a c
  rw [hasN_put h.l2 hd hd'.a] at e
  rw [hasN_put h.l2 hd hd'.c, lo_put h.l1 hd hd'.a, lo_put h.l1 hd hd'.c]
  unfold Tput at f
  by_cases e2 : (rT39 L i).f0 = d.f1
  .rw [if_pos e2] at f
   exfalso
   by_cases hi : i < k + 1
   .rw [if_pos hi] at f; omega
   .rw [if_neg hi] at f; omega
  .rw [if_neg e2] at f
   have e' := e.resolve_left e2
   rw [if_neg e2]
   by_cases hi : i = k
   .subst hi
    rw [hdd, if_pos rfl]
    exact ⟨Or.inl rfl, by omega⟩
   .have hj := h.j i a c e' (by
     by_cases h2 : i < k
     .rw [if_pos h2]; rw [if_pos (by omega)] at f; exact f
     .rw [if_neg h2]; rw [if_neg (by omega)] at f; exact f)
    refine ⟨Or.inr hj.1, ?_⟩
    by_cases e3 : (rT39 L i).f1 = d.f1
    .rw [if_pos e3]; rw [e3] at hj; have := hlow hj.1; omega
    .rw [if_neg e3]; exact hj.2
 .intro v a c
  rw [lo_put h.l1 hd a]
  have w1 := h.w v a c
  have w2 := h.w d.f0 hd.a hd.b
  have := hd.e
  have := hd.f
  by_cases e : v = d.f1
  .rw [if_pos e]; omega
  .rw [if_neg e]; omega
end
theorem rT39_drop (L : List S39) (k : Int) (h0 : 0 <= k) (h1 : k < L.length) : L.drop k.toNat = rT39 L k :: L.drop (k + 1).toNat := by
 rw [show (k + 1).toNat = k.toNat + 1 from by omega, List.drop_eq_getElem_cons (by omega)]
 congr 1
 unfold rT39
 rw [List.getD_eq_getElem?_getD, List.getElem?_eq_getElem (by omega)]; rfl
def Chg (n b c : Int) (T : Int -> Int) : Prop := 0 <= c /\ c < n /\ b < T c
theorem pass_bf {n : Int} {L : List S39} {src : Int -> Prop} {b : Int} (hE : EdgesOk n L) (hb : 0 <= b) : ∀ (q : Nat) (k c : Int) (s : Sg) (T : Int -> Int), (q : Int) + k = L.length -> 0 <= k -> Bf n L src b k s T -> (c = -1 ∨ Chg n b c T) ->
  ∃ T', Bf n L src b L.length (pass (L.drop k.toNat) k c s).2 T' /\ (((pass (L.drop k.toNat) k c s).1 = -1 /\ c = -1 /\ (pass (L.drop k.toNat) k c s).2 = s /\ (∀ i : Int, k <= i -> i < L.length -> ¬ s.better (rT39 L i) = true)) ∨ Chg n b (pass (L.drop k.toNat) k c s).1 T')
 | 0, k, c, s, T, hq, h0, h, hc => by
  have hk : k = L.length := by omega
  rw [List.drop_eq_nil_of_le (by omega)]
  subst hk
  refine ⟨T, h, ?_⟩
  rcases hc with hc | hc
  .exact Or.inl ⟨hc, hc, rfl, fun i a b => by omega⟩
  .exact Or.inr hc
 | q + 1, k, c, s, T, hq, h0, h, hc => by
  have hk : k < L.length := by omega
  rw [rT39_drop L k h0 hk]
  unfold pass
  by_cases hy : s.better (rT39 L k) = true
  .rw [if_pos hy]
   have h' := h.step hE h0 hk hb hy
   have hd := hE k h0 hk
   obtain ⟨T', r1, r2⟩ := pass_bf hE hb q (k + 1) (rT39 L k).f1 (s.put (rT39 L k) k) _ (by omega) (by omega) h' (Or.inr ⟨hd.c, hd.g, by unfold Tput; rw [if_pos rfl]; omega⟩)
   refine ⟨T', r1, ?_⟩
   rcases r2 with r2 | r2
   .have := hd.c; omega
   .exact Or.inr r2
  .rw [if_neg hy]
   obtain ⟨T', r1, r2⟩ := pass_bf hE hb q (k + 1) c s T (by omega) (by omega) (h.skip hE h0 hk hb hy) hc
   refine ⟨T', r1, ?_⟩
   rcases r2 with ⟨a1, a2, a3, a4⟩ | r2
   .refine Or.inl ⟨a1, a2, a3, fun i e f => ?_⟩
    by_cases hi : i = k
    .rw [hi]; exact hy
    .exact a4 i (by omega) f
   .exact Or.inr r2
theorem Bf.next {n : Int} {L : List S39} {src : Int -> Prop} {b : Int} {s : Sg} {T : Int -> Int} (h : Bf n L src b L.length s T) : Bf n L src (b + L.length) 0 s T :=
 ⟨h.l1, h.l2, h.l3, fun v a c => by have := h.t0 v a c; omega, h.z, h.p, fun i a c e f => h.j i a c e (by
  rw [if_neg (by omega)] at f
  rw [if_pos (by omega)]
  omega), fun v a c => by have := h.w v a c; omega⟩
def bk (L : List S39) (la : List Int) (v : Int) : Int := (rT39 L (rd la v)).f0
def it (L : List S39) (la : List Int) : Nat -> Int -> Int
 | 0, v => v
 | i + 1, v => it L la i (bk L la v)
def chain (L : List S39) (la : List Int) : Nat -> Int -> List Int
 | 0, _ => []
 | i + 1, v => rd la v :: chain L la i (bk L la v)
def loopedL (L : List S39) (la : List Int) : Nat -> Int -> Int
 | 0, v => v
 | i + 1, v => if rd la v < 0 then -1 else loopedL L la i (bk L la v)
def Goes (L : List S39) (la : List Int) : Nat -> Int -> Prop
 | 0, _ => True
 | i + 1, v => 0 <= rd la v /\ Goes L la i (bk L la v)
theorem looped_goes (L : List S39) (la : List Int) : ∀ i v, (Goes L la i v /\ loopedL L la i v = it L la i v) ∨ (¬ Goes L la i v /\ loopedL L la i v = -1)
 | 0, v => Or.inl ⟨trivial, rfl⟩
 | i + 1, v => by
  unfold Goes loopedL it
  by_cases h : rd la v < 0
  .rw [if_pos h]; exact Or.inr ⟨fun q => by omega, rfl⟩
  .rw [if_neg h]
   rcases looped_goes L la i (bk L la v) with ⟨a, b⟩ | ⟨a, b⟩
   .exact Or.inl ⟨⟨by omega, a⟩, b⟩
   .exact Or.inr ⟨fun q => a q.2, b⟩
theorem it_add (L : List S39) (la : List Int) : ∀ i j v, it L la (i + j) v = it L la j (it L la i v)
 | 0, j, v => by rw [Nat.zero_add]; rfl
 | i + 1, j, v => by rw [show i + 1 + j = (i + j) + 1 from by omega]; exact it_add L la i j _
theorem goes_add (L : List S39) (la : List Int) : ∀ i j v, Goes L la (i + j) v <-> Goes L la i v /\ Goes L la j (it L la i v)
 | 0, j, v => by rw [Nat.zero_add]; simp [Goes, it]
 | i + 1, j, v => by
  rw [show i + 1 + j = (i + j) + 1 from by omega]
  simp only [Goes, it]
  rw [goes_add L la i j, and_assoc]
theorem goes_le {L : List S39} {la : List Int} {i j : Nat} {v : Int} (h : Goes L la j v) (hi : i <= j) : Goes L la i v := by
 obtain ⟨q, rfl⟩ : ∃ q, j = i + q := ⟨j - i, by omega⟩
 exact ((goes_add L la i q v).1 h).1
def Wk (L : List S39) : Int -> List Int -> Int -> Int -> Prop
 | u, [], v, W => v = u /\ W = 0
 | u, i :: is, v, W => (0 <= i /\ i < L.length) /\ (rT39 L i).f0 = u /\ Wk L (rT39 L i).f1 is v (W - (rT39 L i).f2)
theorem Wk.append {L : List S39} : ∀ {u : Int} {l1 : List Int} {v W1 : Int} {l2 : List Int} {x W2 : Int}, Wk L u l1 v W1 -> Wk L v l2 x W2 -> Wk L u (l1 ++ l2) x (W1 + W2)
 | u, [], v, W1, l2, x, W2, h1, h2 => by
  obtain ⟨rfl, rfl⟩ := h1
  rw [Int.zero_add]; exact h2
 | u, i :: is, v, W1, l2, x, W2, h1, h2 => by
  obtain ⟨a, b, c⟩ := h1
  refine ⟨a, b, ?_⟩
  have := Wk.append c h2
  rw [show W1 + W2 - (rT39 L i).f2 = W1 - (rT39 L i).f2 + W2 from by omega]
  exact this
section
variable {n : Int} {L : List S39} {src : Int -> Prop} {b k : Int} {s : Sg} {T : Int -> Int}
theorem Bf.la_pos (h : Bf n L src b k s T) {v : Int} (h0 : 0 <= v) (h1 : v < n) (h2 : 0 <= rd s.la v) : 0 < T v := by
 have := (h.t0 v h0 h1).1
 by_cases e : T v = 0
 .have := (h.z v h0 h1 e).1; omega
 .omega
theorem Bf.bk_node (h : Bf n L src b k s T) (hE : EdgesOk n L) {v : Int} (h0 : 0 <= v) (h1 : v < n) (h2 : 0 <= rd s.la v) : 0 <= bk L s.la v /\ bk L s.la v < n := by
 have hp := h.p v h0 h1 (h.la_pos h0 h1 h2)
 exact ⟨(hE _ hp.1 hp.2.1).a, (hE _ hp.1 hp.2.1).b⟩
theorem Bf.it_node (h : Bf n L src b k s T) (hE : EdgesOk n L) : ∀ (i : Nat) {v : Int}, 0 <= v -> v < n -> Goes L s.la i v -> 0 <= it L s.la i v /\ it L s.la i v < n
 | 0, v, h0, h1, _ => ⟨h0, h1⟩
 | i + 1, v, h0, h1, hg => by
  have := h.bk_node hE h0 h1 hg.1
  exact h.it_node hE i this.1 this.2 hg.2
theorem Bf.back (h : Bf n L src b k s T) (hE : EdgesOk n L) : ∀ (i : Nat) {v : Int}, 0 <= v -> v < n -> Goes L s.la i v -> ∃ W, Wk L (it L s.la i v) (chain L s.la i v).reverse v W /\ (rd s.lo v > rd s.lo (it L s.la i v) + W ∨ (rd s.lo v >= rd s.lo (it L s.la i v) + W /\ T (it L s.la i v) + i <= T v))
 | 0, v, h0, h1, _ => ⟨0, ⟨rfl, rfl⟩, Or.inr ⟨by simp [it], by simp [it]⟩⟩
 | i + 1, v, h0, h1, hg => by
  have hn := h.bk_node hE h0 h1 hg.1
  have hp := h.p v h0 h1 (h.la_pos h0 h1 hg.1)
  obtain ⟨W, w1, w2⟩ := h.back hE i hn.1 hn.2 hg.2
  refine ⟨W + (rT39 L (rd s.la v)).f2, ?_, ?_⟩
  .have : Wk L (bk L s.la v) [rd s.la v] v (rT39 L (rd s.la v)).f2 := ⟨⟨hp.1, hp.2.1⟩, rfl, hp.2.2.2.1.symm, by omega⟩
   simp only [chain, it, List.reverse_cons]
   exact w1.append this
  .simp only [it]
   have e : (rT39 L (rd s.la v)).f0 = bk L s.la v := rfl
   have q6 := hp.2.2.2.2.2.1
   have q7 := hp.2.2.2.2.2.2.1
   rw [e] at q6 q7
   rcases w2 with w2 | ⟨w2, w3⟩
   .left; omega
   .by_cases ht : T (bk L s.la v) >= T v
    .left; have := q7 ht; omega
    .right; exact ⟨by omega, by push_cast; omega⟩
theorem Bf.round (h : Bf n L src b k s T) (hE : EdgesOk n L) {c : Nat} {v : Int} (h0 : 0 <= v) (h1 : v < n) (hg : Goes L s.la c v) (hc : 0 < c) (e : it L s.la c v = v) : ∃ W, W < 0 /\ Wk L v (chain L s.la c v).reverse v W := by
 obtain ⟨W, w1, w2⟩ := h.back hE c h0 h1 hg
 rw [e] at w1 w2
 exact ⟨W, by omega, w1⟩
theorem Bf.goes_far (h : Bf n L src b k s T) (hE : EdgesOk n L) : ∀ (i : Nat) {v : Int}, 0 <= v -> v < n -> (i : Int) * L.length < T v -> Goes L s.la (i + 1) v
 | 0, v, h0, h1, ht => ⟨(h.p v h0 h1 (by simpa using ht)).1, trivial⟩
 | i + 1, v, h0, h1, ht => by
  rw [show ((i + 1 : Nat) : Int) * L.length = (i : Int) * L.length + L.length from by rw [Int.natCast_add, Int.add_mul]; simp] at ht
  have hpos : (0 : Int) <= (i : Int) * L.length := Int.mul_nonneg (by omega) (by omega)
  have hp := h.p v h0 h1 (by omega)
  have hn := h.bk_node hE h0 h1 hp.1
  exact ⟨hp.1, h.goes_far hE i hn.1 hn.2 (by have := hp.2.2.2.2.2.2.2; unfold bk; omega)⟩
end
theorem nodup_le : ∀ (n : Nat) (l : List Int), l.Nodup -> (∀ x ∈ l, 0 <= x /\ x < n) -> l.length <= n
 | 0, l, _, h => by
  cases l with
  | nil => simp
  | cons x xs => have := h x (by simp); omega
 | n + 1, l, hl, h => by
  have hx := nodup_le n (l.erase (n : Int)) (hl.erase _) (fun x hx => by
   have h2 := (hl.mem_erase_iff).1 hx
   have := h x h2.2
   omega)
  by_cases hm : (n : Int) ∈ l
  .have := List.length_erase_of_mem hm; omega
  .rw [List.erase_of_not_mem hm] at hx; omega
theorem pigeon (n : Nat) (f : Nat -> Int) (h : ∀ i, i <= n -> 0 <= f i /\ f i < n) : ∃ i j, i < j /\ j <= n /\ f i = f j := by
 apply Classical.byContradiction
 intro hn
 have hnd : ((List.range (n + 1)).map f).Nodup := by
  rw [List.Nodup, List.pairwise_map]
  have := List.pairwise_lt_range (n := n + 1)
  refine List.Pairwise.imp_of_mem (fun {a b} ha hb hab e => hn ⟨a, b, hab, ?_, e⟩) this
  have := List.mem_range.1 hb; omega
 have := nodup_le n _ hnd (fun x hx => by
  obtain ⟨i, hi, rfl⟩ := List.mem_map.1 hx
  exact h i (by have := List.mem_range.1 hi; omega))
 rw [List.length_map, List.length_range] at this
 omega
def Fix (L : List S39) (s : Sg) : Prop := ∀ i : Int, 0 <= i -> i < L.length -> ¬ s.better (rT39 L i) = true
theorem Fix.edge {L : List S39} {s : Sg} (h : Fix L s) {i : Int} (h0 : 0 <= i) (h1 : i < L.length) (hu : hasN s (rT39 L i).f0) : hasN s (rT39 L i).f1 /\ rd s.lo (rT39 L i).f1 <= rd s.lo (rT39 L i).f0 + (rT39 L i).f2 := by
 have := h i h0 h1
 rw [better_iff] at this
 by_cases h2 : hasN s (rT39 L i).f1
 .refine ⟨h2, ?_⟩
  have h3 : ¬ (rd s.lo (rT39 L i).f0 + (rT39 L i).f2 < rd s.lo (rT39 L i).f1) := fun h3 => this ⟨hu, Or.inr h3⟩
  omega
 .exact absurd ⟨hu, Or.inl h2⟩ this
theorem Fix.walk {L : List S39} {s : Sg} (h : Fix L s) : ∀ {u : Int} {l : List Int} {v W : Int}, hasN s u -> Wk L u l v W -> hasN s v /\ rd s.lo v <= rd s.lo u + W
 | u, [], v, W, hu, hw => by
  obtain ⟨rfl, rfl⟩ := hw
  exact ⟨hu, by omega⟩
 | u, i :: is, v, W, hu, hw => by
  obtain ⟨⟨a, b⟩, rfl, c⟩ := hw
  have h1 := h.edge a b hu
  have h2 := h.walk h1.1 c
  exact ⟨h2.1, by have := h2.2; omega⟩
def Pot (L : List S39) (x : Int -> Int) : Prop := ∀ i : Int, 0 <= i -> i < L.length -> x (rT39 L i).f1 - x (rT39 L i).f0 <= (rT39 L i).f2
theorem Pot.walk {L : List S39} {x : Int -> Int} (h : Pot L x) : ∀ {u : Int} {l : List Int} {v W : Int}, Wk L u l v W -> x v - x u <= W
 | u, [], v, W, hw => by
  obtain ⟨rfl, rfl⟩ := hw
  omega
 | u, i :: is, v, W, hw => by
  obtain ⟨⟨a, b⟩, rfl, c⟩ := hw
  have h1 := h i a b
  have h2 := h.walk c
  omega
def growP (L : List S39) (n : Nat) : Nat -> Sg -> Option (Sg × Int)
 | 0, _ => none
 | r + 1, s => if (pass L 0 (-1) s).1 < 0 then some ((pass L 0 (-1) s).2, -1) else (if loopedL L (pass L 0 (-1) s).2.la n (pass L 0 (-1) s).1 >= 0 then some ((pass L 0 (-1) s).2, loopedL L (pass L 0 (-1) s).2.la n (pass L 0 (-1) s).1) else growP L n r (pass L 0 (-1) s).2)
def lenP (L : List S39) : Nat -> Sg -> Sg × Bool
 | 0, s => (s, false)
 | r + 1, s => if (pass L 0 (-1) s).1 < 0 then ((pass L 0 (-1) s).2, true) else lenP L r (pass L 0 (-1) s).2
def Round (L : List S39) (la : List Int) (n v : Int) : Prop := 0 <= v /\ v < n /\ ∃ c : Nat, 0 < c /\ Goes L la c v /\ it L la c v = v
structure GrowPost (n : Int) (L : List S39) (src : Int -> Prop) (s : Sg) (bad : Int) : Prop where
 bf : ∃ b T, 0 <= b /\ b + L.length <= n * L.length /\ Bf n L src b L.length s T
 res : (bad = -1 /\ Fix L s) ∨ (0 <= bad /\ Round L s.la n bad)
theorem it_round {L : List S39} {la : List Int} {n : Nat} {v : Int} (hg : Goes L la n v) (hn : ∀ i, i <= n -> 0 <= it L la i v /\ it L la i v < n) : Round L la n (it L la n v) := by
 obtain ⟨i, j, h1, h2, h3⟩ := pigeon n (fun i => it L la i v) hn
 replace h3 : it L la i v = it L la j v := h3
 have e1 : it L la n v = it L la (n - j) (it L la i v) := by rw [h3, <- it_add]; congr 1; omega
 have e2 : it L la (n - i) (it L la i v) = it L la n v := by rw [<- it_add]; congr 1; omega
 have e3 : it L la (j - i) (it L la i v) = it L la i v := by rw [<- it_add, h3]; congr 1; omega
 have hgi : Goes L la (n - i) (it L la i v) := ((goes_add L la i (n - i) v).1 (by rw [show i + (n - i) = n from by omega]; exact hg)).2
 have hgj : Goes L la (n - j) (it L la i v) := by rw [h3]; exact ((goes_add L la j (n - j) v).1 (by rw [show j + (n - j) = n from by omega]; exact hg)).2
 have hgd : Goes L la (j - i) (it L la i v) := goes_le hgi (by omega)
 refine ⟨(hn n (Nat.le_refl _)).1, (hn n (Nat.le_refl _)).2, j - i, by omega, ?_, ?_⟩
 .-- from the node at n on: (n - j) steps behind the node i, then (j - i) more
  have : Goes L la ((j - i) + (n - j)) (it L la i v) := by rw [goes_add]; exact ⟨hgd, by rw [e3]; exact hgj⟩
  rw [Nat.add_comm, goes_add, <- e1] at this
  exact this.2
 .rw [e1, <- it_add, Nat.add_comm, it_add, e3]
theorem growP_post {n : Nat} {L : List S39} {src : Int -> Prop} (hE : EdgesOk n L) : ∀ (r q : Nat) (s : Sg) (T : Int -> Int), q + r = n -> 0 < r -> Bf n L src ((q : Int) * L.length) 0 s T ->
  ∃ s' bad, growP L n r s = some (s', bad) /\ GrowPost n L src s' bad
 | 0, q, s, T, hq, hr, h => by omega
 | r + 1, q, s, T, hq, hr, h => by
  have hpos : (0 : Int) <= (q : Int) * L.length := Int.mul_nonneg (by omega) (by omega)
  obtain ⟨T', h', hc⟩ := pass_bf hE hpos L.length 0 (-1) s T (by omega) (by omega) h (Or.inl rfl)
  rw [show (0 : Int).toNat = 0 from rfl, List.drop_zero] at h' hc
  have hb1 : ((q : Int) + 1) * L.length = (q : Int) * L.length + L.length := by rw [Int.add_mul, Int.one_mul]
  have hb2 : (q : Int) * L.length + L.length <= (n : Int) * L.length := by
   rw [<- hb1]; exact Int.mul_le_mul_of_nonneg_right (by omega) (by omega)
  unfold growP
  rcases hc with ⟨c1, c2, c3, c4⟩ | hc
  .rw [if_pos (by omega)]
   exact ⟨_, _, rfl, ⟨_, T', hpos, hb2, h'⟩, Or.inl ⟨rfl, fun i a b => by rw [c3]; exact c4 i a b⟩⟩
  .rw [if_neg (by have := hc.1; omega)]
   have hfar := h'.goes_far hE q hc.1 hc.2.1 hc.2.2
   rcases looped_goes L (pass L 0 (-1) s).2.la n (pass L 0 (-1) s).1 with ⟨g1, g2⟩ | ⟨g1, g2⟩
   .have hnode := h'.it_node hE n hc.1 hc.2.1 g1
    rw [if_pos (by rw [g2]; exact hnode.1)]
    refine ⟨_, _, rfl, ⟨_, T', hpos, hb2, h'⟩, Or.inr ⟨by rw [g2]; exact hnode.1, ?_⟩⟩
    rw [g2]
    exact it_round g1 (fun i hi => h'.it_node hE i hc.1 hc.2.1 (goes_le g1 hi))
   .rw [if_neg (by rw [g2]; omega)]
    by_cases hr : r = 0
    .exact absurd (goes_le hfar (by omega)) g1
    .have h'' := h'.next
     rw [<- hb1] at h''
     exact growP_post hE r (q + 1) _ T' (by omega) (by omega) (by push_cast; exact h'')
section
variable {n : Int} {L : List S39} {src : Int -> Prop} {s : Sg} {bad : Int}
theorem GrowPost.round (h : GrowPost n L src s bad) (hE : EdgesOk n L) {v : Int} (hr : Round L s.la n v) : ∃ c : Nat, ∃ W, 0 < c /\ Goes L s.la c v /\ it L s.la c v = v /\ W < 0 /\ Wk L v (chain L s.la c v).reverse v W := by
 obtain ⟨b, T, hb, hb2, hB⟩ := h.bf
 obtain ⟨h0, h1, c, hc, hg, he⟩ := hr
 obtain ⟨W, w1, w2⟩ := hB.round hE h0 h1 hg hc he
 exact ⟨c, W, hc, hg, he, w1, w2⟩
theorem GrowPost.no_round (h : GrowPost n L src s bad) (hE : EdgesOk n L) (hp : (∃ x, Pot L x) ∨ Fix L s) {v : Int} (hr : Round L s.la n v) : False := by
 obtain ⟨c, W, hc, hg, he, w1, w2⟩ := h.round hE hr
 rcases hp with ⟨x, hp⟩ | hp
 .have := hp.walk w2; omega
 .obtain ⟨b, T, hb, hb2, hB⟩ := h.bf
  obtain ⟨h0, h1, _⟩ := hr
  have hv : hasN s v := by
   obtain ⟨c', rfl⟩ : ∃ c', c = c' + 1 := ⟨c - 1, by omega⟩
   exact (hB.p v h0 h1 (hB.la_pos h0 h1 hg.1)).2.2.1
  have := (hp.walk hv w2).2
  omega
theorem GrowPost.good (h : GrowPost n L src s bad) (hE : EdgesOk n L) {x : Int -> Int} (hp : Pot L x) : bad = -1 /\ Fix L s := by
 rcases h.res with h1 | h1
 .exact h1
 .exact absurd h1.2 (fun hr => h.no_round hE (Or.inl ⟨x, hp⟩) hr)
theorem GrowPost.all_has (h : GrowPost n L src s bad) (ha : ∀ v, 0 <= v -> v < n -> src v) {v : Int} (h0 : 0 <= v) (h1 : v < n) : hasN s v := by
 obtain ⟨b, T, hb, hb2, hB⟩ := h.bf
 have := (hB.t0 v h0 h1).1
 by_cases e : T v = 0
 .exact (hB.z v h0 h1 e).2.2.2 (ha v h0 h1)
 .exact (hB.p v h0 h1 (by omega)).2.2.1
theorem GrowPost.pot (h : GrowPost n L src s bad) (hE : EdgesOk n L) (ha : ∀ v, 0 <= v -> v < n -> src v) (hb : bad = -1) : Pot L (rd s.lo) := fun i h0 h1 => by
 rcases h.res with ⟨_, h2⟩ | h2
 .have hd := hE i h0 h1
  have := (h2.edge h0 h1 (h.all_has ha hd.a hd.b)).2
  omega
 .omega
theorem GrowPost.bad_iff (h : GrowPost n L src s bad) (hE : EdgesOk n L) (ha : ∀ v, 0 <= v -> v < n -> src v) : bad = -1 <-> ∃ x, Pot L x :=
 ⟨fun e => ⟨_, h.pot hE ha e⟩, fun ⟨x, hx⟩ => (h.good hE hx).1⟩
theorem GrowPost.bounds (h : GrowPost n L src s bad) {v : Int} (h0 : 0 <= v) (h1 : v < n) : -(n * L.length) * 1073741824 <= rd s.lo v /\ rd s.lo v <= (n * L.length) * 1073741824 := by
 obtain ⟨b, T, hb, hb2, hB⟩ := h.bf
 have := hB.w v h0 h1
 omega
end
structure Tree (n : Int) (L : List S39) (src : Int -> Prop) (s : Sg) (v : Int) (c : Nat) : Prop where
 goes : Goes L s.la c v
 root : rd s.la (it L s.la c v) = -1
 zero : rd s.lo (it L s.la c v) = 0
 src : src (it L s.la c v)
 node : ∀ i, i <= c -> 0 <= it L s.la i v /\ it L s.la i v < n
 has : ∀ i, i <= c -> hasN s (it L s.la i v)
 walk : Wk L (it L s.la c v) (chain L s.la c v).reverse v (rd s.lo v)
 apart : ∀ i j, i < j -> j <= c -> it L s.la i v ≠ it L s.la j v
 few : (c : Int) < n
section
variable {n : Nat} {L : List S39} {src : Int -> Prop} {s : Sg} {bad : Int}
theorem GrowPost.tree (h : GrowPost n L src s bad) (hE : EdgesOk n L) (hf : Fix L s) {v : Int} (h0 : 0 <= v) (h1 : v < n) (hv : hasN s v) : ∃ c, Tree n L src s v c := by
 obtain ⟨b, T, hb, hb2, hB⟩ := h.bf
 have hno : ¬ Goes L s.la n v := fun hg => h.no_round hE (Or.inr hf) (it_round hg (fun i hi => hB.it_node hE i h0 h1 (goes_le hg hi)))
 have key : ∀ m : Nat, ¬ Goes L s.la m v -> ∃ c, c < m /\ Goes L s.la c v /\ rd s.la (it L s.la c v) < 0 := by
  intro m
  induction m with
  | zero => intro hm; exact absurd trivial hm
  | succ m ih =>
   intro hm
   by_cases hg : Goes L s.la m v
   .refine ⟨m, by omega, hg, ?_⟩
    apply Classical.byContradiction
    intro hx
    exact hm ((goes_add L s.la m 1 v).2 ⟨hg, by omega, trivial⟩)
   .obtain ⟨c, a, b⟩ := ih hg
    exact ⟨c, by omega, b⟩
 obtain ⟨c, hc, hg, hla⟩ := key n hno
 have hnode : ∀ i, i <= c -> 0 <= it L s.la i v /\ it L s.la i v < n := fun i hi => hB.it_node hE i h0 h1 (goes_le hg hi)
 have hnc := hnode c (Nat.le_refl _)
 have hT : T (it L s.la c v) = 0 := by
  have := (hB.t0 _ hnc.1 hnc.2).1
  by_cases e : T (it L s.la c v) = 0
  .exact e
  .have := (hB.p _ hnc.1 hnc.2 (by omega)).1; omega
 have hz := hB.z _ hnc.1 hnc.2 hT
 have hhas : ∀ i, i <= c -> hasN s (it L s.la i v) := by
  intro i
  induction i with
  | zero => intro _; exact hv
  | succ i ih =>
   intro hi
   have hn := hnode i (by omega)
   have hgi : Goes L s.la 1 (it L s.la i v) := ((goes_add L s.la i 1 v).1 (goes_le hg hi)).2
   have hp := (hB.p _ hn.1 hn.2 (hB.la_pos hn.1 hn.2 hgi.1)).2.2.2.2.1
   rw [it_add]; exact hp
 obtain ⟨W, w1, w2⟩ := hB.back hE c h0 h1 hg
 have hle := (hf.walk (hhas c (Nat.le_refl _)) w1).2
 refine ⟨c, hg, hz.1, hz.2.1, hz.2.2.1 (hhas c (Nat.le_refl _)), hnode, hhas, ?_, fun i j hi hj e => ?_, by omega⟩
 .have e : W = rd s.lo v := by have := hz.2.1; omega
  rw [<- e]; exact w1
 .refine h.no_round hE (Or.inr hf) (v := it L s.la i v) ⟨(hnode i (by omega)).1, (hnode i (by omega)).2, j - i, by omega, ?_, ?_⟩
  .exact goes_le ((goes_add L s.la i (c - i) v).1 (by rw [show i + (c - i) = c from by omega]; exact hg)).2 (by omega)
  .rw [<- it_add, show i + (j - i) = j from by omega, e]
theorem lenP_growP : ∀ (r r' : Nat) (s s' : Sg), r <= r' -> growP L n r s = some (s', -1) -> lenP L r' s = (s', true)
 | 0, r', s, s', hr, h => by simp [growP] at h
 | r + 1, 0, s, s', hr, h => by omega
 | r + 1, r' + 1, s, s', hr, h => by
  unfold growP at h
  unfold lenP
  by_cases hc : (pass L 0 (-1) s).1 < 0
  .rw [if_pos hc] at h ⊢
   simp only [Option.some.injEq, Prod.mk.injEq] at h
   rw [h.1]
  .rw [if_neg hc] at h ⊢
   by_cases hl : loopedL L (pass L 0 (-1) s).2.la n (pass L 0 (-1) s).1 >= 0
   .rw [if_pos hl] at h
    simp only [Option.some.injEq, Prod.mk.injEq] at h
    omega
   .rw [if_neg hl] at h
    exact lenP_growP r r' _ _ (by omega) h
theorem lenP_fix (hE : EdgesOk n L) : ∀ (r : Nat) (b : Int) (s s' : Sg) (T : Int -> Int), 0 <= b -> Bf n L src b 0 s T -> lenP L r s = (s', true) -> ∃ b' T', 0 <= b' /\ Bf n L src b' L.length s' T' /\ Fix L s'
 | 0, b, s, s', T, hb, h, hl => by simp [lenP] at hl
 | r + 1, b, s, s', T, hb, h, hl => by
  obtain ⟨T', h', hc⟩ := pass_bf hE hb L.length 0 (-1) s T (by omega) (by omega) h (Or.inl rfl)
  rw [show (0 : Int).toNat = 0 from rfl, List.drop_zero] at h' hc
  unfold lenP at hl
  rcases hc with ⟨c1, c2, c3, c4⟩ | hc
  .rw [if_pos (by omega)] at hl
   simp only [Prod.mk.injEq, and_true] at hl
   subst hl
   exact ⟨b, T', hb, h', fun i a b => by rw [c3]; exact c4 i a b⟩
  .rw [if_neg (by have := hc.1; omega)] at hl
   exact lenP_fix hE r _ _ s' T' (by omega) h'.next hl
end
def sg0 (n : Nat) (from_ : List Int) : Sg := ⟨List.replicate n 0, from_.foldl (fun h i => h.set i.toNat true) (List.replicate n false), List.replicate n (-1)⟩
theorem rd_replicate (n : Nat) (x v : Int) (h0 : 0 <= v) (h1 : v < n) : rd (List.replicate n x) v = x := by
 unfold rd
 rw [List.getD_eq_getElem?_getD, List.getElem?_replicate, if_pos (by omega)]; rfl
theorem rdOf_replicate {α : Type} (n : Nat) (d x : α) (v : Int) (h0 : 0 <= v) (h1 : v < n) : rdOf d (List.replicate n x) v = x := by
 unfold rdOf
 rw [List.getD_eq_getElem?_getD, List.getElem?_replicate, if_pos (by omega)]; rfl
theorem foldl_has (n : Nat) : ∀ (l : List Int) (h : List Bool), h.length = n -> (∀ i ∈ l, 0 <= i /\ i < (n : Int)) -> (l.foldl (fun h i => h.set i.toNat true) h).length = n /\ ∀ v, 0 <= v -> v < (n : Int) -> (rdOf false (l.foldl (fun h i => h.set i.toNat true) h) v = true <-> v ∈ l ∨ rdOf false h v = true)
 | [], h, hl, _ => ⟨hl, fun v _ _ => by simp⟩
 | i :: l, h, hl, hi => by
  have h1 := hi i (by simp)
  obtain ⟨a, b⟩ := foldl_has n l (h.set i.toNat true) (by simpa using hl) (fun j hj => hi j (by simp [hj]))
  refine ⟨a, fun v h0 hv => ?_⟩
  rw [List.foldl_cons, b v h0 hv, rdOf_set _ _ _ _ _ h1.1 (by omega) h0, List.mem_cons]
  by_cases e : v = i
  .simp [e]
  .simp [e]
theorem sg0_bf {n : Nat} {L : List S39} {from_ : List Int} (hf : ∀ i ∈ from_, 0 <= i /\ i < (n : Int)) : Bf n L (fun v => v ∈ from_) 0 0 (sg0 n from_) (fun _ => 0) := by
 obtain ⟨a, b⟩ := foldl_has n from_ (List.replicate n false) (by simp) hf
 refine ⟨by simp [sg0], by simp only [sg0]; omega, by simp [sg0], fun v h0 h1 => ⟨by simp, by simp⟩, fun v h0 h1 _ => ⟨rd_replicate n _ v h0 h1, rd_replicate n _ v h0 h1, ?_⟩, fun v h0 h1 h => by simp at h, fun i h0 h1 h2 h3 => ?_, fun v h0 h1 => ?_⟩
 .unfold hasN
  show rdOf false (List.foldl _ _ _) v = true <-> _
  rw [b v h0 h1, rdOf_replicate n _ _ v h0 h1]
  simp
 .rw [if_neg (by omega)] at h3
  omega
 .rw [show rd (sg0 n from_).lo v = 0 from rd_replicate n _ v h0 h1]
  omega
theorem grow_all {n : Nat} {L : List S39} {from_ : List Int} (hn : 0 < n) (hE : EdgesOk n L) (hf : ∀ i ∈ from_, 0 <= i /\ i < (n : Int)) : ∃ s' bad, growP L n n (sg0 n from_) = some (s', bad) /\ GrowPost n L (fun v => v ∈ from_) s' bad :=
 growP_post hE n 0 _ _ (by omega) hn (by simpa using sg0_bf hf)
end Go.Proofs.Ytpolojoeabmhdaa.A
