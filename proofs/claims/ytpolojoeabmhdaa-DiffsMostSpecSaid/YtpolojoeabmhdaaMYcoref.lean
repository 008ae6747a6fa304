import Derived.Test.YtpolojoeabmhdaaMYcoreb
import Derived.Test.YtpolojoeabmhdaaMYcored
import Derived.Test.YtpolojoeabmhdaaMYcoree
set_option linter.unusedVariables false
set_option linter.unusedSimpArgs false
namespace Go.Proofs.Ytpolojoeabmhdaa.A
open Go.RowKit Go.Proofs.YtpolojoeabmhdaaW.PrintWords Go.Proofs.YtpolojoeabmhdaaW.PrintLast Go.Proofs.YtpolojoeabmhdaaW.PrintMore
attribute [local go_sem] max2_int min2_int max_two min_two max_three min_three max_four min_four
def d_Apart.j0 : Nat -> Int -> Int -> Bool -> List Int -> List Bool -> List Int -> Option (Int × Bool × Int)
 | 0, _, _, _, _, _, _ => none
 | k + 1, x2, x11, x43, aj3, aYK, aYJ => if x43 = true then (some (0, false, x11)) else (if 0 <= x2 then (if x2 < (aj3.length : Int) then (some (rd aj3 x2, true, 0)) else (none)) else (none))
def d_Apart.f (k : Nat) (ae : Int) (ac : List (S39)) (a1 : Int) (a2 : Int) : Option (Int × Bool × Int) := (d_in.f a1 0 (wrap64 (ae - 1))).bind fun Xn => ((d_in.f a2 0 (wrap64 (ae - 1))).bind fun Xm => ((d_asked.f k ae ac (([Xn, Xm] : List Bool))).bind fun TH => (if TH = 0 then ((d_reach.f k ae ac a1).bind fun nV => (if nV.2.2.2 = 0 then (if 0 <= a2 then (if a2 < (nV.2.1.length : Int) then (d_Apart.j0 k a2 nV.2.2.2 (!(rdOf false nV.2.1 a2)) nV.1 nV.2.1 nV.2.2.1) else (none)) else (none)) else (d_Apart.j0 k a2 nV.2.2.2 true nV.1 nV.2.1 nV.2.2.1))) else (some (0, false, TH)))))
theorem d_Apart.mono_l : ∀ k, (∀ y0 y1 y2 y3 y4 y5, LeO (d_Apart.j0 k y0 y1 y2 y3 y4 y5) (d_Apart.j0 (k + 1) y0 y1 y2 y3 y4 y5))
 | 0 => fun _ _ _ _ _ _ r h => by simp [d_Apart.j0] at h
 | k + 1 => by
  have ih0 := d_Apart.mono_l k; intro y0 y1 y2 y3 y4 y5; unfold d_Apart.j0; repeat' first | (with_reducible first | exact ih0 _ _ _ _ _ _ | exact d_asked.mono _ _ _ _ | exact d_reach.mono _ _ _ _ | exact LeO.refl _ | exact LeO.none _ | refine LeO.ite ?_ ?_ | refine LeO.bind ?_ (fun _ => ?_))
theorem d_Apart.mono : ∀ a0 a1 a2 a3 k, LeO (d_Apart.f k a0 a1 a2 a3) (d_Apart.f (k + 1) a0 a1 a2 a3) := by
 intro a0 a1 a2 a3 k; have ih0 := d_Apart.mono_l k; unfold d_Apart.f; repeat' first | (with_reducible first | exact ih0 _ _ _ _ _ _ | exact d_asked.mono _ _ _ _ | exact d_reach.mono _ _ _ _ | exact LeO.refl _ | exact LeO.none _ | refine LeO.ite ?_ ?_ | refine LeO.bind ?_ (fun _ => ?_))
def d_Apart.T1 : Bool × List (List Nat × List Nat) := (true, [([], []), ([], []), ([], []), ([2], [2]), ([3], [3]), ([1, 4], [1, 4]), ([], []), ([], []), ([7], [7]), ([8], [8]), ([6, 9, 5], [6, 9]), ([5, 10], [5, 10]), ([0, 11, 10], [0, 11]), ([12, 12, 0, 1, 2, 3, 4, 5, 6, 7, 8, 9, 10, 11, 12], [12])])
def d_Apart.B1 : List Nat := [0, 0, 0, 4, 12, 30, 0, 0, 128, 384, 1022, 2046, 4095, 8191]
theorem d_Apart.tab1 : rtab .any (opsOf Try.f30 1) = d_Apart.T1 := by kernel_rfl
theorem d_Apart.bits1 : waitsOk d_Apart.T1.2 d_Apart.B1 = true := by kernel_rfl
set_option maxHeartbeats 8000000
set_option maxRecDepth 100000
theorem d_Apart.calls (k : Nat) (ae : Int) (ag : Option Addr) (af : Nat) (ac : List (S39)) (a1 : Int) (a2 : Int) (r1 : Int) (r2 : Bool) (r3 : Int) (w : World) (aA : Kd.C k39 w ag ac.length ac) (aC : ac.length <= af) (h : d_Apart.f k ae ac a1 a2 = some (r1, r2, r3)) :
  Calls Try.prog 30 #[.agg #[.int .i64 ae, .slice ag ac.length af], .int .i64 a1, .int .i64 a2] w fun e w' => e = .returned (.tuple #[.int .i64 r1, .bool r2, .int .i64 r3]) /\ Below w.heap.size w w' := by
 have ja := Try.underlying24; have Vj := Try.underlying88; have ah := Z_ aA; have ai := Z_ aC; clear aA aC; have HB := Z_ (Below.refl w.heap.size w); have H : ((d_in.f a1 0 (wrap64 (ae - 1))).bind fun Xn => ((d_in.f a2 0 (wrap64 (ae - 1))).bind fun Xm => ((d_asked.f k ae ac (([Xn, Xm] : List Bool))).bind fun TH => (if TH = 0 then ((d_reach.f k ae ac a1).bind fun nV => (if nV.2.2.2 = 0 then (if 0 <= a2 then (if a2 < (nV.2.1.length : Int) then (d_Apart.j0 k a2 nV.2.2.2 (!(rdOf false nV.2.1 a2)) nV.1 nV.2.1 nV.2.2.1) else (none)) else (none)) else (d_Apart.j0 k a2 nV.2.2.2 true nV.1 nV.2.1 nV.2.2.1))) else (some (0, false, TH)))))) = some (r1, r2, r3) := h; clear h; obtain ⟨Xn, A4, H⟩ := oZ_ H; obtain ⟨Xm, A5, H⟩ := oZ_ H; obtain ⟨aEG, aeb⟩ : ∃ y_ : List Bool, y_ = (([Xn, Xm] : List Bool)) := ⟨_, rfl⟩; replace H : ((d_asked.f k ae ac aEG).bind fun TH => (if TH = 0 then ((d_reach.f k ae ac a1).bind fun nV => (if nV.2.2.2 = 0 then (if 0 <= a2 then (if a2 < (nV.2.1.length : Int) then (d_Apart.j0 k a2 nV.2.2.2 (!(rdOf false nV.2.1 a2)) nV.1 nV.2.1 nV.2.2.1) else (none)) else (none)) else (d_Apart.j0 k a2 nV.2.2.2 true nV.1 nV.2.1 nV.2.2.1))) else (some (0, false, TH)))) = some (r1, r2, r3) := by first | (rw [aeb]; with_reducible exact H) | (have H2_ := (oB_ _ _).symm.trans H; rw [aeb]; with_reducible exact H2_) | (have H2_ := (oB_ _ _).symm.trans H; with_reducible exact H2_) | with_reducible exact H | (rw [aeb]; exact H) | exact H
 have aDp := Z_ aeb; clear aeb; obtain ⟨TH, A6, H⟩ := oZ_ H; have HF7 := Z_ H; clear H; go_enter Try.func30, Try.ntmps30; try go_wp2_with (first | ((with_reducible refine gate_dst (N := 3) rfl ?_); refine bX_ 3 #[.int .i64 ae, .slice ag ac.length af] 24 ?_; intro Qk hg w8 hbox hb; have sq := Z_ (hbox); have bdt := Z_ ((by rw [hg]; exact (fZ_ hB_) : w.heap.size <= Qk)); have beC := Z_ ((by rw [hg]; exact (fZ_ hB_) : w.heap.size <= Qk)); replace HB := Z_ (fS_ hB_ hb); clear hb hbox hg))
 replace sq := Z_ (bD_ sq.out); replace HB := Z_ (fD_ HB.out); refine start_ (n := 14) (S := fun w' => w'.cell? ⟨Qk, 0, none⟩ = some (.int .i64 ae) /\ w'.cell? ⟨Qk, 1, none⟩ = some (.slice ag ac.length af)) (ds := []) _ (by kernel_rfl) rfl rfl ⟨(bC_ sq.out 0).trans rfl, (bC_ sq.out 1).trans rfl⟩ (fun hHeld => ?_); refine with_tabW d_Apart.tab1 d_Apart.bits1 (fun HT_ HW_ => ?_); generalize w8.drew = w9 at sq HB hHeld ⊢; refine pP_ 1 13 ?_; refine pP_ 2 14 ?_; refine pP_ 6 18 ?_; refine pP_ 7 19 ?_; refine pT_ 0 12 ?_; refine pT_ 3 15 ?_; refine pP_ 4 16 ?_; refine pT_ 8 20 ?_; refine pP_ 9 21 ?_; refine oN_ 5 (some 17) (fun K hK => ?_); refine gO_ Try.func75 #[.int .i64 a1, .int .i64 0, .int .i64 (wrap64 (ae - 1))] ?_; with_reducible refine (d_in.calls a1 0 (wrap64 (ae - 1)) Xn _ A4.out).mono ?_
 rintro e w' ⟨rfl, ⟨nd, rfl⟩⟩; refine ⟨_, rfl, ?_⟩; refine hK.out _ _ ⟨(bC_ sq.out 0).trans rfl, (bC_ sq.out 1).trans rfl⟩ (fun hHeld => ?_); clear hK K; refine nP_ 17 ?_; refine oN_ 10 (some 22) (fun K hK => ?_); refine gO_ Try.func75 #[.int .i64 a2, .int .i64 0, .int .i64 (wrap64 (ae - 1))] ?_; with_reducible refine (d_in.calls a2 0 (wrap64 (ae - 1)) Xm _ A5.out).mono ?_
 rintro e w' ⟨rfl, ⟨nd, rfl⟩⟩; refine ⟨_, rfl, ?_⟩; refine hK.out _ _ ⟨(bC_ sq.out 0).trans rfl, (bC_ sq.out 1).trans rfl⟩ (fun hHeld => ?_); clear hK K; refine nP_ 22 ?_; refine oN_ 11 (some 23) (fun K hK => ?_); refine Kd.R_lit_step Kd.bool _ 4 ?hg (N := 23) ?hd (xs := ([Xn, Xm] : List Bool)) (inner := [.bool Xn, .bool Xm]) (ok := fun _ => True) (okp := fun _ => True) ?hr ?hp (fun _ hk => hk) trivial (Below.refl _ _) (nR_ _) (by simp) ?_; (case hd => rfl); (case hg => rfl); (case hr => first | (go_simp; done) | (go_simp; rfl)); (case hp => exact (Reps.one (show Kd.M Kd.bool _ _ _ Xn [.bool Xn] from rfl) (Reps.one (show Kd.M Kd.bool _ _ _ Xm [.bool Xm] from rfl) (Reps.none _ _)))); intro bgU w10 Vk hb hg_ hnew_; clear hg_ hnew_; (first | rw [<- aDp.out] at Vk | (simp only [Int.reduceToNat] at Vk; rw [<- aDp.out] at Vk))
 have LN := Z_ (rL_ Vk (fZ_ hB_)); replace sq := Z_ (bS_ sq.out hb); replace HB := Z_ (fS_ hB_ hb); clear hb Vk; obtain ⟨agX, af0, abC⟩ := rS_ LN.out; (first | subst abC | (injection abC with f1_ f2_ f3_; have f4_ := f1_.symm; have f5_ := f3_.symm; clear f1_ f2_ f3_; subst f4_; subst f5_))
 refine hK.out _ _ ⟨(bC_ sq.out 0).trans rfl, (bC_ sq.out 1).trans rfl⟩ (fun hHeld => ?_); clear hK K; refine nP_ 23 ?_; refine oN_ 12 (some 24) (fun K hK => ?_); refine gO_ Try.func77 #[.agg #[.int .i64 ae, .slice ag ac.length af], .slice agX aEG.length af0] ?_; with_reducible refine (d_asked.calls k ae _ _ ac _ _ aEG TH _ ?side1 ?side2 ?side3 ?side4 A6.out).mono ?_
 (case side1 => exact cS_ (cB_ ah.out HB.out))
 (case side2 => exact ai.out)
 (case side3 => exact cS_ (rR_ LN.out).2.2)
 (case side4 => exact (rR_ LN.out).2.1)
 rintro e w13 ⟨rfl, hb⟩; refine ⟨_, rfl, ?_⟩; replace LN := Z_ (rB_ (rK_ LN.out) hb); replace sq := Z_ (bS_ sq.out hb); replace HB := Z_ (fS_ hB_ hb); (try clear hb)
 refine hK.out _ _ ⟨(bC_ sq.out 0).trans rfl, (bC_ sq.out 1).trans rfl⟩ (fun hHeld => ?_); clear hK K; refine nP_ 24 ?_; refine pP_ 13 9 ?_; refine dN_ ?_; go_upto_if 26 with (fail); have H := HF7.out; clear HF7; by_cases c14 : TH = 0
 .rw [if_pos c14] at H
  obtain ⟨mZ, C4⟩ := be_ c14; clear c14; (try rw [mZ])
  replace H := oS_.mp H; obtain ⟨⟨F5, I7, O7, aFe⟩, O0, H⟩ := H; have A15 := Z_ O0; clear O0; have aje := Z_ H; clear H; obtain ⟨⟨fM, fK⟩, fJ, fI⟩ := f2_ sq.out; go_upto_region 5 with (first | ((with_reducible refine gate_callee (f := 78) rfl ?_); refine gL_ (some 31) Try.func78 #[.agg #[.int .i64 ae, .slice ag ac.length af], .int .i64 a1] ?_; (with_reducible refine (d_reach.calls k ae _ _ ac a1 F5 I7 O7 aFe _ ?side1 ?side2 A15.out).mono ?_); (case side1 => exact cS_ (cB_ ah.out HB.out)); (case side2 => exact ai.out); rintro e w18 ⟨bgT, bgS, bgR, rfl, ho0, ho1, ho2, hb⟩; refine ⟨_, rfl, ?_⟩; have agE := Z_ (rL_ ho0 (fZ_ hB_)); have OO := Z_ (rL_ (Kd.R_new' ho1 (Kd.R_lt (rK_ LN.out))) (fZ_ hB_)); replace LN := Z_ (Kd.R_elder' (rK_ LN.out) (Kd.R_base ho1) hb); have agD := Z_ (rL_ ho2 (fZ_ hB_)); replace sq := Z_ (bS_ sq.out hb); replace HB := Z_ (fS_ hB_ hb); (try clear hb); (try clear ho0); (try clear ho1); (try clear ho2)) | ((with_reducible refine gate_dst (N := 10) rfl ?_); refine bX_ 10 #[.slice none 0 0, .slice none 0 0, .slice none 0 0] 88 ?_; intro qP hg w19 hbox hb; replace LN := Z_ (rB_ (rK_ LN.out) hb); replace agE := Z_ (rB_ (rK_ agE.out) hb); replace OO := Z_ (rB_ (rK_ OO.out) hb); replace agD := Z_ (rB_ (rK_ agD.out) hb); have EI := Z_ (hbox); have bds := Z_ ((by rw [hg]; exact (fZ_ hB_) : w.heap.size <= qP)); have beB := Z_ ((by rw [hg]; exact (fZ_ hB_) : w.heap.size <= qP)); replace HB := Z_ (fS_ hB_ hb); have Pz := Z_ ((nB_ hg sq.out : Qk ≠ qP)); have Py := Z_ ((by rw [hg]; exact Nat.ne_of_gt (blk_lt (g := Qk) (o := .cells #[.int .i64 ae, .slice ag ac.length af] 24 (0, 0)) (bR_ sq.out)) : qP ≠ Qk)); replace sq := Z_ (bS_ sq.out hb); clear hb hbox hg; obtain ⟨lF, lA, au8⟩ := rS_ agE.out; subst au8; have NH := Py.out; have NF := Pz.out; obtain ⟨⟨j9, jZ, Tm⟩, jY, jX, S6⟩ := f3_ EI.out; obtain ⟨EO, wH, afK⟩ := rS_ OO.out; subst afK; obtain ⟨oQ, nm, abB⟩ := rS_ agD.out; subst abB)); (try simp only [Act.put, sT_, sZ_, sS_])
  go_cut [43] (fun v43 wc => ∃ (kq : Nat) (ZO : Bool), v43 = .bool ZO /\ Aside0 (d_Apart.j0 kq a2 aFe ZO F5 I7 O7 = some (r1, r2, r3)) /\ Aside0 (kq <= k) /\ Aside0 (Kd.R (Kd.int .i64) 3 wc w.heap.size (fun k_ => some k_ ≠ ((.slice oQ O7.length nm) : Value).ownBlock) (.slice lF F5.length lA) F5) /\ Aside0 (Kd.R Kd.bool 4 wc w.heap.size (fun _ => True) (.slice EO I7.length wH) I7) /\ Aside0 (Kd.R (Kd.int .i64) 3 wc w.heap.size (fun k_ => some k_ ≠ ((.slice lF F5.length lA) : Value).ownBlock) (.slice oQ O7.length nm) O7) /\ Aside0 (wc.heap[Qk]? = some (.cells #[.int .i64 ae, (.slice ag ac.length af)] 24 (0, 0))) /\ Aside0 (wc.heap[qP]? = some (.cells #[(.slice lF F5.length lA), (.slice EO I7.length wH), (.slice oQ O7.length nm)] 88 (0, 0))) /\ Aside0 (Below w.heap.size w wc))
  case first =>
   have H := aje.out; clear aje; by_cases c25 : aFe = 0
   .rw [if_pos c25] at H
    obtain ⟨rr, Iw⟩ := be_ c25; clear c25; (try rw [rr])
    by_cases c26 : 0 <= a2
    .rw [if_pos c26] at H
     replace c26 := eT_ c26; by_cases c27 : a2 < (I7.length : Int)
     .rw [if_pos c27] at H
      replace c27 := eT_ c27; have H' := Z_ H; clear H; have al2 := Py.out; have alU := Pz.out; obtain ⟨⟨fB, fA, N5⟩, fz, fy, NR⟩ := f3_ EI.out; have aHf : 0 <= (a2 : Int) := dT_ as_; have aGa : a2 < (I7.length : Int) := dT_ as_; obtain ⟨QC, a8w, Kv⟩ := Kd.at_bool (rR_ OO.out).2.2 a2 aHf aGa; cases a8w
      have SP : QC.block ≠ qP := Kd.own_blk (Kd.R_ne OO.out EI.out (by decide)); have SO : QC.block ≠ qP := Kd.own_blk (Kd.R_ne OO.out EI.out (by decide)); have SN : QC.block ≠ qP := Kd.own_blk (Kd.R_ne OO.out EI.out (by decide)); replace Kv := (cell_far (p := ⟨qP, 0, none⟩) (by first | (rw [add_block]; exact SP) | (show (Addr.add _ _).block ≠ _; rw [add_block]; exact SP) | exact SP) (.slice lF F5.length lA)).trans Kv; replace Kv := (cell_far (p := ⟨qP, 1, none⟩) (by first | (rw [add_block]; exact SO) | (show (Addr.add _ _).block ≠ _; rw [add_block]; exact SO) | exact SO) (.slice (some QC) I7.length wH)).trans Kv; replace Kv := (cell_far (p := ⟨qP, 2, none⟩) (by first | (rw [add_block]; exact SN) | (show (Addr.add _ _).block ≠ _; rw [add_block]; exact SN) | exact SN) (.slice oQ O7.length nm)).trans Kv; clear SP; clear SO; clear SN; replace aHf := eq_true aHf; replace aGa := eq_true aGa; go_wp2; go_meet
      case rel => exact ⟨_, (!(rdOf false I7 a2)), rf_, H', ⟨oL_⟩, ⟨by (with_reducible repeat (first | apply rN_ | apply rD_)); exact rM_ (rF_ (p := ⟨qP, 2, none⟩) (rF_ (p := ⟨qP, 1, none⟩) (rF_ (p := ⟨qP, 0, none⟩) (Kd.R_types agE.out EI.out (by decide)) (fun _ hk => hk.2) (.slice lF F5.length lA)) (fun _ hk => hk.2) (.slice (some QC) I7.length wH)) (fun _ hk => hk.2) (.slice oQ O7.length nm)) (fun _ hk => hk.1)⟩, ⟨by (with_reducible repeat (first | apply rN_ | apply rD_)); exact rM_ (rF_ (p := ⟨qP, 2, none⟩) (rF_ (p := ⟨qP, 1, none⟩) (rF_ (p := ⟨qP, 0, none⟩) (Kd.R_types OO.out EI.out (by decide)) (fun _ hk => hk.2) (.slice lF F5.length lA)) (fun _ hk => hk.2) (.slice (some QC) I7.length wH)) (fun _ hk => hk.2) (.slice oQ O7.length nm)) (fun _ hk => trivial)⟩, ⟨by (with_reducible repeat (first | apply rN_ | apply rD_)); exact rM_ (rF_ (p := ⟨qP, 2, none⟩) (rF_ (p := ⟨qP, 1, none⟩) (rF_ (p := ⟨qP, 0, none⟩) (Kd.R_types agD.out EI.out (by decide)) (fun _ hk => hk.2) (.slice lF F5.length lA)) (fun _ hk => hk.2) (.slice (some QC) I7.length wH)) (fun _ hk => hk.2) (.slice oQ O7.length nm)) (fun _ hk => hk.1)⟩, ⟨bQ_ sq.out⟩, ⟨by refine bM_ ?_; refine blk_put (cs := #[.slice lF F5.length lA, .slice (some QC) I7.length wH, .slice none 0 0]) ?_ 2 _ rfl; refine bM_ ?_; refine blk_put (cs := #[.slice lF F5.length lA, .slice none 0 0, .slice none 0 0]) ?_ 1 _ rfl; refine bM_ ?_; refine blk_put (cs := #[.slice none 0 0, .slice none 0 0, .slice none 0 0]) ?_ 0 _ rfl; exact bR_ EI.out⟩, ⟨hB_⟩⟩
     exact nN_ c27 H
    exact nN_ c26 H
   rw [if_neg c25] at H; obtain ⟨rr, Iw⟩ := bn_ c25; (try rw [rr])
   have H' := Z_ H; clear H; go_wp2; go_meet
   case rel => exact ⟨_, (true), rf_, H', ⟨oL_⟩, ⟨by (with_reducible repeat (first | apply rN_ | apply rD_)); exact rM_ (rF_ (p := ⟨qP, 2, none⟩) (rF_ (p := ⟨qP, 1, none⟩) (rF_ (p := ⟨qP, 0, none⟩) (Kd.R_types agE.out EI.out (by decide)) (fun _ hk => hk.2) (.slice lF F5.length lA)) (fun _ hk => hk.2) (.slice EO I7.length wH)) (fun _ hk => hk.2) (.slice oQ O7.length nm)) (fun _ hk => hk.1)⟩, ⟨by (with_reducible repeat (first | apply rN_ | apply rD_)); exact rM_ (rF_ (p := ⟨qP, 2, none⟩) (rF_ (p := ⟨qP, 1, none⟩) (rF_ (p := ⟨qP, 0, none⟩) (Kd.R_types OO.out EI.out (by decide)) (fun _ hk => hk.2) (.slice lF F5.length lA)) (fun _ hk => hk.2) (.slice EO I7.length wH)) (fun _ hk => hk.2) (.slice oQ O7.length nm)) (fun _ hk => trivial)⟩, ⟨by (with_reducible repeat (first | apply rN_ | apply rD_)); exact rM_ (rF_ (p := ⟨qP, 2, none⟩) (rF_ (p := ⟨qP, 1, none⟩) (rF_ (p := ⟨qP, 0, none⟩) (Kd.R_types agD.out EI.out (by decide)) (fun _ hk => hk.2) (.slice lF F5.length lA)) (fun _ hk => hk.2) (.slice EO I7.length wH)) (fun _ hk => hk.2) (.slice oQ O7.length nm)) (fun _ hk => hk.1)⟩, ⟨bQ_ sq.out⟩, ⟨by refine bM_ ?_; refine blk_put (cs := #[.slice lF F5.length lA, .slice EO I7.length wH, .slice none 0 0]) ?_ 2 _ rfl; refine bM_ ?_; refine blk_put (cs := #[.slice lF F5.length lA, .slice none 0 0, .slice none 0 0]) ?_ 1 _ rfl; refine bM_ ?_; refine blk_put (cs := #[.slice none 0 0, .slice none 0 0, .slice none 0 0]) ?_ 0 _ rfl; exact bR_ EI.out⟩, ⟨hB_⟩⟩
  case rest =>
   clear aje; obtain ⟨kq, ZO, rfl, HA, aKx, apd, aKY, aKX, sq, EI, HB⟩ := hcut
   cases kq with
   | zero => exact absurd HA.out (by simp [d_Apart.j0])
   | succ azf =>
    have H := HA.out; clear HA; simp only [d_Apart.j0] at H; by_cases c30 : ZO = true
    .subst c30
     rw [if_pos rfl] at H; simp only [oJ_, pI_] at H; obtain ⟨rfl, rfl, rfl⟩ := H; go_wp2; go_ret3; exact ⟨eW_, hB_⟩
    replace c30 := bE_.mpr c30; subst c30; have H1 : (if 0 <= a2 then (if a2 < (F5.length : Int) then (some (rd F5 a2, true, 0)) else (none)) else (none)) = some (r1, r2, r3) := by rw [if_neg (show ¬ (false = true) by decide)] at H; exact H
    clear H; have H := H1; clear H1; by_cases c31 : 0 <= a2
    .rw [if_pos c31] at H
     replace c31 := eT_ c31; by_cases c32 : a2 < (F5.length : Int)
     .rw [if_pos c32] at H
      replace c32 := eT_ c32; simp only [oJ_, pI_] at H; obtain ⟨rfl, rfl, rfl⟩ := H; have aeT := Py.out; have aeL := Pz.out; obtain ⟨⟨rK, rJ, Fy⟩, rG, rF, Fr⟩ := f3_ EI.out; have aHe : 0 <= (a2 : Int) := dT_ as_; have aF9 : a2 < (F5.length : Int) := dT_ as_; obtain ⟨bcc, a8v, aYS⟩ := Kd.at_int (rR_ apd.out).2.2 a2 aHe aF9; cases a8v
      replace aHe := eq_true aHe; replace aF9 := eq_true aF9; go_wp2; go_ret3; exact ⟨eW_, hB_⟩
     exact nN_ c32 H
    exact nN_ c31 H
 rw [if_neg c14] at H; obtain ⟨mZ, C4⟩ := bn_ c14; (try rw [mZ])
 simp only [oJ_, pI_] at H; obtain ⟨rfl, rfl, rfl⟩ := H; go_wp2; go_ret3; exact ⟨eW_, hB_⟩
def d_walk.l0 : Nat -> Int -> Int -> Int -> List Int -> Int -> Int -> Int -> List (S39) -> Option (Int × Bool)
 | 0, _, _, _, _, _, _, _, _ => none
 | k + 1, x1, x2, x10, x14, x15, x16, ayk, MA => if x16 < x15 then (if 0 <= x16 then (if x16 < (x14.length : Int) then (if 0 <= (rd x14 x16) then (if (rd x14 x16) < (MA.length : Int) then (if ((rT39 MA (rd x14 x16)).f0) = x1 then (d_walk.l0 k ((rT39 MA (rd x14 x16)).f1) x2 (wrap64 (x10 + ((rT39 MA (rd x14 x16)).f2))) x14 x15 (wrap64 (x16 + 1)) ayk MA) else (some (0, false))) else (none)) else (none)) else (none)) else (none)) else (some (x10, (x1 == x2)))
def d_walk.f (k : Nat) (ae : Int) (ac : List (S39)) (a1 : Int) (a2 : Int) (l3 : List Int) : Option (Int × Bool) := d_walk.l0 k a1 a2 0 l3 (l3.length : Int) 0 ae ac
theorem d_walk.mono_l : ∀ k, (∀ y0 y1 y2 y3 y4 y5 y6 y7, LeO (d_walk.l0 k y0 y1 y2 y3 y4 y5 y6 y7) (d_walk.l0 (k + 1) y0 y1 y2 y3 y4 y5 y6 y7))
 | 0 => fun _ _ _ _ _ _ _ _ r h => by simp [d_walk.l0] at h
 | k + 1 => by
  have ih0 := d_walk.mono_l k; intro y0 y1 y2 y3 y4 y5 y6 y7; unfold d_walk.l0; repeat' first | (with_reducible first | exact ih0 _ _ _ _ _ _ _ _ | exact LeO.refl _ | exact LeO.none _ | refine LeO.ite ?_ ?_ | refine LeO.bind ?_ (fun _ => ?_))
theorem d_walk.mono : ∀ a0 a1 a2 a3 a4 k, LeO (d_walk.f k a0 a1 a2 a3 a4) (d_walk.f (k + 1) a0 a1 a2 a3 a4) := by
 intro a0 a1 a2 a3 a4 k; have ih0 := d_walk.mono_l k; unfold d_walk.f; repeat' first | (with_reducible first | exact ih0 _ _ _ _ _ _ _ _ | exact LeO.refl _ | exact LeO.none _ | refine LeO.ite ?_ ?_ | refine LeO.bind ?_ (fun _ => ?_))
theorem d_walk.calls (k : Nat) (ae : Int) (ag : Option Addr) (af : Nat) (ac : List (S39)) (a1 : Int) (a2 : Int) (A3 : Option Addr) (c3 : Nat) (l3 : List Int) (r1 : Int) (r2 : Bool) (w : World) (aA : Kd.C k39 w ag ac.length ac) (aC : ac.length <= af) (hr3 : Kd.C (Kd.int .i64) w A3 l3.length l3) (hc3 : l3.length <= c3) (h : d_walk.f k ae ac a1 a2 l3 = some (r1, r2)) :
  Calls Try.prog 91 #[.agg #[.int .i64 ae, .slice ag ac.length af], .int .i64 a1, .int .i64 a2, .slice A3 l3.length c3] w fun e w' => e = .returned (.tuple #[.int .i64 r1, .bool r2]) /\ Below w.heap.size w w' := by
 have ja := Try.underlying24; have zm := Try.underlying39; have ah := Z_ aA; have ai := Z_ aC; clear aA aC; have HR3 := Z_ hr3; have HC3 := Z_ hc3; clear hr3 hc3; have HB := Z_ (Below.refl w.heap.size w); have H : (d_walk.l0 k a1 a2 0 l3 (l3.length : Int) 0 ae ac) = some (r1, r2) := h; clear h; have H' := Z_ H; clear H; go_enter Try.func91, Try.ntmps91; go_wp2_with (first | ((with_reducible refine gate_dst (N := 4) rfl ?_); refine bX_ 4 #[.int .i64 ae, .slice ag ac.length af] 24 ?_; intro Yd hg w5 hbox hb; have QN := Z_ (hbox); have bdr := Z_ ((by rw [hg]; exact (fZ_ hB_) : w.heap.size <= Yd)); have beA := Z_ ((by rw [hg]; exact (fZ_ hB_) : w.heap.size <= Yd)); replace HB := Z_ (fS_ hB_ hb); clear hb hbox hg)); go_loopg [1, 10, 16] k (fun kq v1 v10 v16 w' => ∃ (ayl : Int) (i8 : Int) (Ad : Int), v1 = .int .i64 ayl /\ v10 = .int .i64 i8 /\ v16 = .int .i64 Ad /\ Aside0 (d_walk.l0 kq ayl a2 i8 l3 (l3.length : Int) Ad ae ac = some (r1, r2)) /\ Aside0 (kq <= k) /\ Aside0 (w'.heap[Yd]? = some (.cells #[.int .i64 ae, (.slice ag ac.length af)] 24 (0, 0))) /\ Aside0 (Below w.heap.size w w'))
 case atStart => exact ⟨(a1), (0), (0), rf_, rf_, rf_, H', ⟨nR_ _⟩, ⟨bR_ QN.out⟩, ⟨hB_⟩⟩
 case round =>
  clear H'; obtain ⟨ayl, i8, Ad, rfl, rfl, rfl, HA, HK1, QN, HB⟩ := hrel
  cases gk with
  | zero => exact absurd HA.out (by simp [d_walk.l0])
  | succ k1 =>
   have H := HA.out; clear HA; simp only [d_walk.l0] at H; by_cases c6 : Ad < (l3.length : Int)
   .rw [if_pos c6] at H
    replace c6 := eT_ c6; by_cases c7 : 0 <= Ad
    .rw [if_pos c7] at H
     replace c7 := eT_ c7; by_cases c8 : Ad < (l3.length : Int)
     .rw [if_pos c8] at H
      replace c8 := eT_ c8; by_cases c9 : 0 <= (rd l3 Ad)
      .rw [if_pos c9] at H
       replace c9 := eT_ c9; by_cases c10 : (rd l3 Ad) < (ac.length : Int)
       .rw [if_pos c10] at H
        replace c10 := eT_ c10; have aXO := Z_ H; clear H; have aHc : 0 <= (Ad : Int) := dT_ as_; have aF7 : Ad < (l3.length : Int) := dT_ as_; obtain ⟨bcb, a8t, ali⟩ := Kd.at_int HR3.out Ad aHc aF7; cases a8t
        replace ali := pw_cell_below HB.out ali; replace aHc := eq_true aHc; replace aF7 := eq_true aF7; obtain ⟨⟨lS, lR⟩, lO, lN⟩ := f2_ QN.out; have aHb : 0 <= ((rd l3 Ad) : Int) := dT_ as_; have aF6 : (rd l3 Ad) < (ac.length : Int) := dT_ as_; obtain ⟨aV2, a8s, alh, alg, alf⟩ := at_T39 ah.out (rd l3 Ad) aHb aF6; cases a8s
        replace alh := pw_cell_below HB.out alh; replace alg := pw_cell_below HB.out alg; replace alf := pw_cell_below HB.out alf; replace aHb := eq_true aHb; replace aF6 := eq_true aF6; go_upto_if 28 with (first | ((with_reducible refine gate_dst (N := 13) rfl ?_); refine bX_ 13 #[.int .i64 0, .int .i64 0, .int .i64 0] 39 ?_; intro amH hg w13 hbox hb; have aEr := Z_ (hbox); have bdq := Z_ ((by rw [hg]; exact (fZ_ hB_) : w.heap.size <= amH)); have bez := Z_ ((by rw [hg]; exact (fZ_ hB_) : w.heap.size <= amH)); replace HB := Z_ (fS_ hB_ hb); have YN := Z_ ((nB_ hg QN.out : Yd ≠ amH)); have YM := Z_ ((by rw [hg]; exact Nat.ne_of_gt (blk_lt (g := Yd) (o := .cells #[.int .i64 ae, .slice (some aV2) ac.length af] 24 (0, 0)) (bR_ QN.out)) : amH ≠ Yd)); replace QN := Z_ (bS_ QN.out hb); clear hb hbox hg; have Qe := YM.out; have Qa := YN.out; obtain ⟨⟨mM, mL, abt⟩, mI, mH, aa9⟩ := f3_ aEr.out)); (try simp only [Act.put, sT_, sZ_, sS_])
        have H := aXO.out; clear aXO; by_cases c16 : ((rT39 ac (rd l3 Ad)).f0) = ayl
        .rw [if_pos c16] at H
         obtain ⟨pW, af9⟩ := be_ c16; clear c16; (try rw [pW])
         have H' := Z_ H; clear H; have aeX := YM.out; have aeP := YN.out; obtain ⟨⟨kw, kv, a2l⟩, kr, kp, a1C⟩ := f3_ aEr.out; go_wp2; go_roundg k1
         case measure => have := HK1.out; omega
         case rel => exact ⟨((rT39 ac (rd l3 Ad)).f1), (wrap64 (i8 + ((rT39 ac (rd l3 Ad)).f2))), (wrap64 (Ad + 1)), rf_, rf_, rf_, H', ⟨by have := HK1.out; omega⟩, ⟨bQ_ QN.out⟩, ⟨hB_⟩⟩
        rw [if_neg c16] at H; obtain ⟨pW, af9⟩ := bn_ c16; (try rw [pW])
        simp only [oJ_, pI_] at H; obtain ⟨rfl, rfl⟩ := H; go_wp2; go_ret2; exact ⟨eW_, hB_⟩
       exact nN_ c10 H
      exact nN_ c9 H
     exact nN_ c8 H
    exact nN_ c7 H
   rw [if_neg c6] at H; replace c6 := eF_ c6; simp only [oJ_, pI_] at H; obtain ⟨rfl, rfl⟩ := H; go_wp2; go_ret2; exact ⟨eW_, hB_⟩
end Go.Proofs.Ytpolojoeabmhdaa.A
/- indices and holds: the two literals that hold a boxed value; slices.ContainsFunc over differences. -/
namespace Go.Proofs.Ytpolojoeabmhdaa.A
open Go.RowKit Go.Proofs.YtpolojoeabmhdaaW.PrintWords Go.Proofs.YtpolojoeabmhdaaW.PrintLast Go.Proofs.YtpolojoeabmhdaaW.PrintMore
def v39 (x : S39) : Value := .agg #[.int .i64 x.f0, .int .i64 x.f1, .int .i64 x.f2]
set_option maxHeartbeats 8000000
theorem lit117 (gb : Nat) (n0 : Int) (A : Option Addr) (m c : Nat) (x : Int) (W : World) (hb0 : W.heap[gb]? = some (.cells #[.int .i64 n0, .slice A m c] 24 (0, 0))) (hm : m <= 9223372036854775807) :
  Calls Try.prog 117 (#[.int .i64 x] ++ #[.pointer (some ⟨gb, 0, none⟩)]) W fun e W' => e = .returned (.bool (!in_ x 0 ((m : Int) - 1))) /\ Below W.heap.size W W' := by
 have hin := Z_ (in_f x 0 ((m : Int) - 1)); have h1 : W.cell? ⟨gb, 1, none⟩ = some (.slice A m c) := (bC_ hb0 1).trans rfl; have h1' : W.cell? ⟨gb, 0 + 1, none⟩ = some (.slice A m c) := h1; clear hb0; have HB := Z_ (Below.refl W.heap.size W); show Calls Try.prog 117 #[.int .i64 x, .pointer (some ⟨gb, 0, none⟩)] W _
 go_enter Try.func117, Try.ntmps117; go_wp2_with ((with_reducible refine gate_callee (f := 75) rfl ?_); refine gL_ (some 9) Try.func75 #[.int .i64 x, .int .i64 0, .int .i64 ((m : Int) - 1)] ?_; (with_reducible refine (d_in.calls x 0 ((m : Int) - 1) _ _ hin.out).mono ?_); rintro e w1 ⟨rfl, hd⟩; have hb := hd.below; clear hd; refine ⟨_, rfl, ?_⟩); go_ret; exact ⟨rfl, hb⟩
def d_indices.f (ae : Int) (ac : List (S39)) (l1 : List Int) : Option (Bool) := some (l1.all fun x => in_ x 0 ((ac.length : Int) - 1))
theorem d_indices.calls (ae : Int) (ag : Option Addr) (af : Nat) (ac : List (S39)) (A1 : Option Addr) (c1 : Nat) (l1 : List Int) (r : Bool) (w : World) (aA : Kd.C k39 w ag ac.length ac) (aC : ac.length <= af) (hr1 : Kd.C (Kd.int .i64) w A1 l1.length l1) (hc1 : l1.length <= c1) (h : d_indices.f ae ac l1 = some r) :
  Calls Try.prog 90 #[.agg #[.int .i64 ae, .slice ag ac.length af], .slice A1 l1.length c1] w fun e w' => e = .returned (.bool r) /\ Below w.heap.size w w' := by
 obtain rfl := oI_ h; clear h
 have hm : ac.length <= 9223372036854775807 := by
  have := aA.2.1; omega
 have HM := Z_ hm; have HR1 := Z_ hr1; have HC1 := Z_ hc1; have HB := Z_ (Below.refl w.heap.size w); clear aA aC hr1 hc1 hm; go_enter Try.func90, Try.ntmps90; go_wp2_with (first | ((with_reducible refine gate_dst (N := 2) rfl ?_); refine bX_ 2 #[.int .i64 ae, .slice ag ac.length af] 24 ?_; intro gb hg w5 hbox hb; have n0_ := Z_ (fS_ HB.out hb); clear HB; have HB := n0_; have BK := Z_ hbox; clear n0_ hb hbox hg) | (go_at_call 57; refine (contains_any (fun x => !in_ x 0 ((ac.length : Int) - 1)) 117 #[.pointer (some ⟨gb, 0, none⟩)] Try.f117 _ _ l1 _ (cB_ HR1.out HB.out) HC1.out ⟨Try.func117, by kernel_rfl, rfl⟩ ⟨fun x W hW => lit117 gb ae _ _ _ x W (bB_ BK.out hW) HM.out⟩).mono ?_; rintro e w7 ⟨rfl, hb⟩) | ((with_reducible refine gate_callee (f := 57) rfl ?_); refine gL_ (some 7) Try.func57 #[.slice A1 l1.length c1, .func (.func 117) #[] #[.pointer (some ⟨gb, 0, none⟩)]] ?_; refine (contains_any (fun x => !in_ x 0 ((ac.length : Int) - 1)) 117 #[.pointer (some ⟨gb, 0, none⟩)] Try.f117 _ _ l1 _ (cB_ HR1.out HB.out) HC1.out ⟨Try.func117, by kernel_rfl, rfl⟩ ⟨fun x W hW => lit117 gb ae _ _ _ x W (bB_ BK.out hW) HM.out⟩).mono ?_; rintro e w7 ⟨rfl, hb⟩; refine ⟨_, rfl, ?_⟩)); go_ret; exact ⟨by congr 2; rw [List.not_any_eq_all_not]; simp, fS_ HB.out hb⟩
def ixfD (p : S39 -> Bool) : List S39 -> Int -> Int
 | [], _ => -1
 | x :: xs, i => if p x = true then i else ixfD p xs (i + 1)
theorem ixfD_any (p : S39 -> Bool) : ∀ (l : List S39) (i : Int), 0 <= i -> (decide (0 <= ixfD p l i)) = l.any p
 | [], i, _ => by simp [ixfD]
 | x :: xs, i, h => by
  unfold ixfD; by_cases hp : p x = true; ·rw [if_pos hp]; simp [hp, h]
  rw [if_neg hp, ixfD_any p xs (i + 1) (by omega)]; simp [hp]
set_option maxRecDepth 100000
theorem indexD_any (p : S39 -> Bool) (fl : FuncId) (caps : Array Value) (gf : Func) (A0 : Option Addr) (c0 : Nat) (l0 : List S39) (w : World) (hr0 : Kd.C k39 w A0 l0.length l0) (hc0 : l0.length <= c0)
  (hf : Aside0 (Try.prog.funcs[fl]? = some gf /\ (gf.name == "runtime.NumGoroutine") = false /\ gf.body.isSome = true))
  (hp : Aside0 (∀ x ∈ l0, ∀ (W : World), Below w.heap.size w W -> Calls Try.prog fl (#[v39 x] ++ caps) W fun e W' => e = .returned (.bool (p x)) /\ Below W.heap.size W W')) :
  Calls Try.prog 129 #[.slice A0 l0.length c0, .func (.func fl) #[] caps] w fun e w' => e = .returned (.int .i64 (ixfD p l0 0)) /\ Below w.heap.size w w' := by
 have HM := Z_ hr0.2.1; have HR0 := Z_ hr0; have HB := Z_ (Below.refl w.heap.size w); clear hr0 hc0; go_enter Try.func129, Try.ntmps129; go_wp2; go_loopg [8] l0.length (fun kq v8 w' => ∃ i : Int, v8 = .int .i64 i /\ Aside0 (0 <= i /\ (kq : Int) + i = l0.length /\ ixfD p (l0.drop i.toNat) i = ixfD p l0 0) /\ Aside0 (Below w.heap.size w w'))
 case atStart => exact ⟨0, rfl, ⟨by omega, by omega, by simp⟩, HB⟩
 case round =>
  obtain ⟨i, rfl, HI, HB⟩ := hrel; have hM := HM.out; by_cases hlt : i < (l0.length : Int)
  .have h0 := HI.out.1
   have hk := HI.out.2.1; obtain ⟨ad, e1, hx, hy, hz⟩ := at_T39 HR0.out i h0 hlt; cases e1
   have hx1 := (HB.out.cell (World.block_lt_of_cell? w _ hx)).trans hx; have hy1 := (HB.out.cell (World.block_lt_of_cell? w _ hy)).trans hy; have hz1 := (HB.out.cell (World.block_lt_of_cell? w _ hz)).trans hz; clear hx hy hz
   have HIN := Z_ (show rT39 l0 i ∈ l0 by
    unfold rT39; rw [List.getD_eq_getElem?_getD, List.getElem?_eq_getElem (by omega)]; exact List.getElem_mem _)
   have hstep : ixfD p (l0.drop i.toNat) i = if p (rT39 l0 i) = true then i else ixfD p (l0.drop (i + 1).toNat) (i + 1) := by
    have e2 : l0.drop i.toNat = rT39 l0 i :: l0.drop (i + 1).toNat := by
     rw [show (i + 1).toNat = i.toNat + 1 from by omega]; rw [List.drop_eq_getElem_cons (by omega)]; congr 1; unfold rT39; rw [List.getD_eq_getElem?_getD, List.getElem?_eq_getElem (by omega)]; rfl
    rw [e2]; rfl
   have HS := Z_ hstep; clear hstep; have aey : i + 1 <= 9223372036854775807 := by omega
   by_cases hb : p (rT39 l0 i) = true
   .have HP := Z_ hb
    clear hb; go_wp2_with (refine goesFL_ (some 16) rfl rfl rfl (x := .tmp 11) rfl (args := #[v39 (rT39 l0 i)]) (by (try simp only [mT_, mC_, mN_]); first | done | rfl) hf.out.1 hf.out.2.1 hf.out.2.2 ?_; refine (hp.out (rT39 l0 i) HIN.out _ HB.out).mono ?_; rintro e w1 ⟨rfl, hb1⟩; refine ⟨_, rfl, ?_⟩; rw [HP.out]); go_ret; exact ⟨by rw [<- HI.out.2.2, HS.out, if_pos HP.out]; rfl, fS_ HB.out hb1⟩
   have hb' : p (rT39 l0 i) = false := by simpa using hb
   have HP := Z_ hb'; clear hb hb'; go_wp2_with (refine goesFL_ (some 16) rfl rfl rfl (x := .tmp 11) rfl (args := #[v39 (rT39 l0 i)]) (by (try simp only [mT_, mC_, mN_]); first | done | rfl) hf.out.1 hf.out.2.1 hf.out.2.2 ?_; refine (hp.out (rT39 l0 i) HIN.out _ HB.out).mono ?_; rintro e w1 ⟨rfl, hb1⟩; refine ⟨_, rfl, ?_⟩; rw [HP.out]); go_roundg (gk - 1)
   case measure => omega
   case rel => exact ⟨i + 1, rfl, ⟨by omega, by omega, by rw [<- HI.out.2.2, HS.out, if_neg (by rw [HP.out]; decide)]⟩, ⟨fS_ HB.out hb1⟩⟩
  have h0 := HI.out.1; have hk := HI.out.2.1; go_wp2; go_ret; exact ⟨by rw [<- HI.out.2.2, List.drop_eq_nil_of_le (by omega)]; rfl, HB.out⟩
/-- slices.ContainsFunc: whether some element is met by the function. -/
theorem containsD_any (p : S39 -> Bool) (fl : FuncId) (caps : Array Value) (gf : Func) (A0 : Option Addr) (c0 : Nat) (l0 : List S39) (w : World) (hr0 : Kd.C k39 w A0 l0.length l0) (hc0 : l0.length <= c0)
  (hf : Aside0 (Try.prog.funcs[fl]? = some gf /\ (gf.name == "runtime.NumGoroutine") = false /\ gf.body.isSome = true))
  (hp : Aside0 (∀ x ∈ l0, ∀ (W : World), Below w.heap.size w W -> Calls Try.prog fl (#[v39 x] ++ caps) W fun e W' => e = .returned (.bool (p x)) /\ Below W.heap.size W W')) :
  Calls Try.prog 123 #[.slice A0 l0.length c0, .func (.func fl) #[] caps] w fun e w' => e = .returned (.bool (l0.any p)) /\ Below w.heap.size w w' := by
 have HR0 := Z_ hr0; have HC0 := Z_ hc0; clear hr0 hc0; go_enter Try.func123, Try.ntmps123; go_wp2_with ((with_reducible refine gate_callee (f := 129) rfl ?_); refine gL_ (some 7) Try.func129 #[.slice A0 l0.length c0, .func (.func fl) #[] caps] ?_; (refine (indexD_any p fl caps gf _ _ l0 _ HR0.out HC0.out hf hp).mono ?_); rintro e w1 ⟨rfl, hb⟩; refine ⟨_, rfl, ?_⟩); go_ret; exact ⟨by rw [<- ixfD_any p l0 0 (by omega)]; rfl, hb⟩
theorem lit124 (gb : Nat) (l1 : List Int) (A : Option Addr) (c : Nat) (d : S39) (W : World) (hb0 : W.heap[gb]? = some (.cells #[.slice A l1.length c] 29 (0, 0))) (hr : Kd.C (Kd.int .i64) W A l1.length l1)
  (p0 : 0 <= d.f0) (q0 : d.f0 < l1.length) (p1 : 0 <= d.f1) (q1 : d.f1 < l1.length) (b0 : -9223372036854775808 <= rd l1 d.f1 - rd l1 d.f0) (b1 : rd l1 d.f1 - rd l1 d.f0 <= 9223372036854775807) :
  Calls Try.prog 124 (#[v39 d] ++ #[.pointer (some ⟨gb, 0, none⟩)]) W fun e W' => e = .returned (.bool (decide (rd l1 d.f1 - rd l1 d.f0 > d.f2))) /\ Below W.heap.size W W' := by
 obtain ⟨d0, d1, d2⟩ := d; have HR := Z_ hr; have HB := Z_ (Below.refl W.heap.size W); have HG := Z_ (blk_lt hb0); have BK := Z_ hb0; clear hb0 hr; show Calls Try.prog 124 #[.agg #[.int .i64 d0, .int .i64 d1, .int .i64 d2], .pointer (some ⟨gb, 0, none⟩)] W _
 replace p0 : 0 <= d0 := p0; replace p1 : 0 <= d1 := p1; replace q0 : d0 < l1.length := q0; replace q1 : d1 < l1.length := q1; replace b0 : -9223372036854775808 <= rd l1 d1 - rd l1 d0 := b0; replace b1 : rd l1 d1 - rd l1 d0 <= 9223372036854775807 := b1; go_enter Try.func124, Try.ntmps124; go_wp2_with (((with_reducible refine gate_dst (N := 2) rfl ?_); refine bX_ 2 #[.int .i64 d0, .int .i64 d1, .int .i64 d2] 39 ?_; intro g2 hg w5 hbox hb; have HB1 := Z_ hb; have BK2 := Z_ hbox; have BK1 := Z_ (bB_ BK.out hb); clear BK; have HR1 := Z_ (cB_ HR.out hb); clear HR; clear hb hbox hg)); obtain ⟨ad0, e0, hx0⟩ := Kd.at_int HR1.out d0 p0 q0; obtain ⟨ad1, e1, hx1⟩ := Kd.at_int HR1.out d1 p1 q1; cases e0
 cases e1
 have hz0 : w5.cell? ⟨gb, 0, none⟩ = some (.slice (some ad0) l1.length c) := (bC_ BK1.out 0).trans rfl; have hy0 : w5.cell? ⟨g2, 0, none⟩ = some (.int .i64 d0) := (bC_ BK2.out 0).trans rfl; have hy1 : w5.cell? ⟨g2, 1, none⟩ = some (.int .i64 d1) := (bC_ BK2.out 1).trans rfl; have hy2 : w5.cell? ⟨g2, 2, none⟩ = some (.int .i64 d2) := (bC_ BK2.out 2).trans rfl; have hw : IntKind.i64.wrap (rd l1 d1 - rd l1 d0) = rd l1 d1 - rd l1 d0 := (by rw [IntKind.wrap_i64]; omega); go_quiet (fail); try go_wp2
 go_ret; exact ⟨rfl, pB_ (fS_ HB.out HB1.out) _⟩
def holdsOk (l1 : List Int) (d : S39) : Bool := decide (0 <= d.f0) && decide (d.f0 < (l1.length : Int)) && decide (0 <= d.f1) && decide (d.f1 < (l1.length : Int)) && decide (-9223372036854775808 <= rd l1 d.f1 - rd l1 d.f0) && decide (rd l1 d.f1 - rd l1 d.f0 <= 9223372036854775807)
def d_holds.f (ae : Int) (ac : List (S39)) (l1 : List Int) : Option (Bool) :=
 if l1.length = 0 then none else if rd l1 0 = 0 then (if ac.all (holdsOk l1) = true then some (ac.all fun d => decide (rd l1 d.f1 - rd l1 d.f0 <= d.f2)) else none) else some false
theorem holdsOk_iff {l1 : List Int} {d : S39} (h : holdsOk l1 d = true) : (0 <= d.f0 /\ d.f0 < (l1.length : Int)) /\ (0 <= d.f1 /\ d.f1 < (l1.length : Int)) /\ -9223372036854775808 <= rd l1 d.f1 - rd l1 d.f0 /\ rd l1 d.f1 - rd l1 d.f0 <= 9223372036854775807 := by
 unfold holdsOk at h; simp only [Bool.and_eq_true, decide_eq_true_eq] at h; obtain ⟨⟨⟨⟨⟨h0, h1⟩, h2⟩, h3⟩, h4⟩, h5⟩ := h; exact ⟨⟨h0, h1⟩, ⟨h2, h3⟩, h4, h5⟩
theorem d_holds.calls (ae : Int) (ag : Option Addr) (af : Nat) (ac : List (S39)) (A1 : Option Addr) (c1 : Nat) (l1 : List Int) (r : Bool) (w : World) (aA : Kd.C k39 w ag ac.length ac) (aC : ac.length <= af) (hr1 : Kd.C (Kd.int .i64) w A1 l1.length l1) (hc1 : l1.length <= c1) (h : d_holds.f ae ac l1 = some r) :
  Calls Try.prog 105 #[.agg #[.int .i64 ae, .slice ag ac.length af], .slice A1 l1.length c1] w fun e w' => e = .returned (.bool r) /\ Below w.heap.size w w' := by
 unfold d_holds.f at h; by_cases hl : l1.length = 0
 .rw [if_pos hl] at h
  exact absurd h (by simp)
 rw [if_neg hl] at h; obtain ⟨ad, e1, hx⟩ := Kd.at_int hr1 0 (by omega) (by omega); rw [show (0 : Int).toNat = 0 from rfl, Addr.add_zero'] at hx; have HX := Z_ hx; have qi : (0 < l1.length) = True := eq_true (by omega); cases e1
 have HR0 := Z_ aA; have HC0 := Z_ aC; have HR1 := Z_ hr1; have HC1 := Z_ hc1; have hl' : (0 : Int) < (l1.length : Int) := by omega
 have HB := Z_ (Below.refl w.heap.size w); clear aA aC hr1 hc1 hl hx; by_cases hz : rd l1 0 = 0
 .rw [if_pos hz] at h
  have hzb : (rd l1 0 == 0) = true := beq_iff_eq.mpr hz; by_cases ha : ac.all (holdsOk l1) = true
  .rw [if_pos ha] at h
   obtain rfl := oI_ h; have HA := Z_ (fun d hd => holdsOk_iff (List.all_eq_true.mp ha d hd)); clear ha h hz; go_enter Try.func105, Try.ntmps105; go_wp2_with (first | ((with_reducible refine gate_dst (N := 2) rfl ?_); refine bX_ 2 #[.int .i64 ae, .slice ag ac.length af] 24 ?_; intro g1 hg w5 hbox hb; have n0_ := Z_ (fS_ HB.out hb); clear HB; have HB := n0_; have BK := Z_ hbox; clear n0_ hb hbox hg) | ((with_reducible refine gate_dst (N := 3) rfl ?_); refine bX_ 3 #[.slice (some ad) l1.length c1] 29 ?_; intro g2 hg w6 hbox hb; have n0_ := Z_ (fS_ HB.out hb); clear HB; have HB := n0_; have BK1 := Z_ (bB_ BK.out hb); have BK2 := Z_ hbox; clear n0_ hb hbox hg BK; have hx0 := (HB.out.cell (World.block_lt_of_cell? w _ HX.out)).trans HX.out; have hz0 : w6.cell? ⟨g2, 0, none⟩ = some (.slice (some ad) l1.length c1) := (bC_ BK2.out 0).trans rfl; have hz1 : w6.cell? ⟨g1, 1, none⟩ = some (.slice ag ac.length af) := (bC_ BK1.out 1).trans rfl) | (go_at_call 123; refine (containsD_any (fun d => decide (rd l1 d.f1 - rd l1 d.f0 > d.f2)) 124 #[.pointer (some ⟨g2, 0, none⟩)] Try.f124 _ _ ac _ (cB_ HR0.out HB.out) HC0.out ⟨Try.func124, by kernel_rfl, rfl⟩ ⟨fun d hd W hW => lit124 g2 l1 _ _ d W (bB_ BK2.out hW) (cB_ (cB_ HR1.out HB.out) hW) (HA.out d hd).1.1 (HA.out d hd).1.2 (HA.out d hd).2.1.1 (HA.out d hd).2.1.2 (HA.out d hd).2.2.1 (HA.out d hd).2.2.2⟩).mono ?_; rintro e w7 ⟨rfl, hb⟩)); go_ret; exact ⟨congrArg (fun b => Ending.returned (Value.bool b)) (by rw [List.not_any_eq_all_not]; congr 1; funext d; rw [<- decide_not]; exact decide_eq_decide.mpr Int.not_lt), fS_ HB.out hb⟩
  rw [if_neg ha] at h; exact absurd h (by simp)
 rw [if_neg hz] at h; obtain rfl := oI_ h; have hzb : (rd l1 0 == 0) = false := beq_eq_false_iff_ne.mpr hz; clear h hz; go_enter Try.func105, Try.ntmps105; go_wp2_with (first | ((with_reducible refine gate_dst (N := 2) rfl ?_); refine bX_ 2 #[.int .i64 ae, .slice ag ac.length af] 24 ?_; intro g1 hg w5 hbox hb; have n0_ := Z_ (fS_ HB.out hb); clear HB; have HB := n0_; have BK := Z_ hbox; clear n0_ hb hbox hg) | ((with_reducible refine gate_dst (N := 3) rfl ?_); refine bX_ 3 #[.slice (some ad) l1.length c1] 29 ?_; intro g2 hg w6 hbox hb; have n0_ := Z_ (fS_ HB.out hb); clear HB; have HB := n0_; have BK1 := Z_ (bB_ BK.out hb); have BK2 := Z_ hbox; clear n0_ hb hbox hg BK; have hx0 := (HB.out.cell (World.block_lt_of_cell? w _ HX.out)).trans HX.out; have hz0 : w6.cell? ⟨g2, 0, none⟩ = some (.slice (some ad) l1.length c1) := (bC_ BK2.out 0).trans rfl; have hz1 : w6.cell? ⟨g1, 1, none⟩ = some (.slice ag ac.length af) := (bC_ BK1.out 1).trans rfl)); go_ret; exact ⟨rfl, HB.out⟩
end Go.Proofs.Ytpolojoeabmhdaa.A
namespace Go.Proofs.Ytpolojoeabmhdaa.A
open Go.RowKit Go.Proofs.YtpolojoeabmhdaaW.PrintWords Go.Proofs.YtpolojoeabmhdaaW.PrintLast Go.Proofs.YtpolojoeabmhdaaW.PrintMore
attribute [local go_sem] max2_int min2_int max_two min_two max_three min_three max_four min_four
mutual
def d_CheckClash.j0 : Nat -> List Int -> Bool -> Int -> List (S39) -> Option (Int)
 | 0, _, _, _, _ => none
 | k + 1, x1, x31, Ha, xN => if x31 = true then (some 43) else (if 0 <= Ha then (if (Ha : Int).toNat <= 281474976710656 then (d_CheckClash.l0 k x1 (List.replicate (Ha : Int).toNat false) x1 (x1.length : Int) 0 Ha xN) else (none)) else (none))
def d_CheckClash.l0 : Nat -> List Int -> List Bool -> List Int -> Int -> Int -> Int -> List (S39) -> Option (Int)
 | 0, _, _, _, _, _, _, _ => none
 | k + 1, x1, x6, x35, x36, x37, Ha, xN => if x37 < x36 then (if 0 <= x37 then (if x37 < (x35.length : Int) then (if 0 <= (rd x35 x37) then (if (rd x35 x37) < (xN.length : Int) then (if 0 <= ((rT39 xN (rd x35 x37)).f0) then (if ((rT39 xN (rd x35 x37)).f0) < (x6.length : Int) then (if rdOf false x6 ((rT39 xN (rd x35 x37)).f0) = true then (some 43) else (d_CheckClash.l0 k x1 (x6.set (((rT39 xN (rd x35 x37)).f0) : Int).toNat true) x35 x36 (wrap64 (x37 + 1)) Ha xN)) else (none)) else (none)) else (none)) else (none)) else (none)) else (none)) else (if 0 < (x1.length : Int) then (if 0 <= (rd x1 0) then (if (rd x1 0) < (xN.length : Int) then ((d_walk.f k Ha xN ((rT39 xN (rd x1 0)).f0) ((rT39 xN (rd x1 0)).f0) x1).bind fun aC0 => (if aC0.2 = true then (d_CheckClash.j2 k (decide (aC0.1 >= 0))) else (d_CheckClash.j2 k true))) else (none)) else (none)) else (none))
def d_CheckClash.j2 : Nat -> Bool -> Option (Int)
 | 0, _ => none
 | k + 1, x76 => if x76 = true then (some 43) else (some 0)
end
def d_CheckClash.f (k : Nat) (ae : Int) (ac : List (S39)) (l1 : List Int) : Option (Int) := (d_indices.f ae ac l1).bind fun O6 => ((d_asked.f k ae ac (([O6] : List Bool))).bind fun TG => (if TG = 0 then (if (l1.length : Int) = 0 then (d_CheckClash.j0 k l1 true ae ac) else (d_CheckClash.j0 k l1 (decide ((l1.length : Int) > ae)) ae ac)) else (some TG)))
theorem d_CheckClash.mono_l : ∀ k, (∀ y0 y1 y2 y3, LeO (d_CheckClash.j0 k y0 y1 y2 y3) (d_CheckClash.j0 (k + 1) y0 y1 y2 y3)) /\ (∀ y0 y1 y2 y3 y4 y5 y6, LeO (d_CheckClash.l0 k y0 y1 y2 y3 y4 y5 y6) (d_CheckClash.l0 (k + 1) y0 y1 y2 y3 y4 y5 y6)) /\ (∀ y0, LeO (d_CheckClash.j2 k y0) (d_CheckClash.j2 (k + 1) y0))
 | 0 => ⟨fun _ _ _ _ r h => by simp [d_CheckClash.j0] at h, fun _ _ _ _ _ _ _ r h => by simp [d_CheckClash.l0] at h, fun _ r h => by simp [d_CheckClash.j2] at h⟩
 | k + 1 => by
  obtain ⟨ih0, ih1, ih2⟩ := d_CheckClash.mono_l k; refine ⟨?_, ?_, ?_⟩ <;> intros <;> (first | unfold d_CheckClash.j0 | unfold d_CheckClash.l0 | unfold d_CheckClash.j2) <;> repeat' first | (with_reducible first | exact ih0 _ _ _ _ | exact ih1 _ _ _ _ _ _ _ | exact ih2 _ | exact d_asked.mono _ _ _ _ | exact d_walk.mono _ _ _ _ _ _ | exact LeO.refl _ | exact LeO.none _ | refine LeO.ite ?_ ?_ | refine LeO.bind ?_ (fun _ => ?_))
theorem d_CheckClash.mono : ∀ a0 a1 a2 k, LeO (d_CheckClash.f k a0 a1 a2) (d_CheckClash.f (k + 1) a0 a1 a2) := by
 intro a0 a1 a2 k; obtain ⟨ih0, ih1, ih2⟩ := d_CheckClash.mono_l k; unfold d_CheckClash.f; repeat' first | (with_reducible first | exact ih0 _ _ _ _ | exact ih1 _ _ _ _ _ _ _ | exact ih2 _ | exact d_asked.mono _ _ _ _ | exact d_walk.mono _ _ _ _ _ _ | exact LeO.refl _ | exact LeO.none _ | refine LeO.ite ?_ ?_ | refine LeO.bind ?_ (fun _ => ?_))
def d_CheckClash.T15 : Bool × List (List Nat × List Nat) := (true, [([], []), ([0], [0]), ([], []), ([2], [2]), ([3], [3]), ([1, 4], [1, 4]), ([5], [5]), ([6], [6]), ([7, 0, 1, 2, 3, 4, 5, 6, 7], [7])])
def d_CheckClash.B15 : List Nat := [0, 1, 0, 4, 12, 31, 63, 127, 255]
theorem d_CheckClash.tab15 : rtab .any (opsOf Try.f37 15) = d_CheckClash.T15 := by kernel_rfl
theorem d_CheckClash.bits15 : waitsOk d_CheckClash.T15.2 d_CheckClash.B15 = true := by kernel_rfl
set_option maxHeartbeats 8000000
set_option maxRecDepth 100000
theorem d_CheckClash.calls (k : Nat) (ae : Int) (ag : Option Addr) (af : Nat) (ac : List (S39)) (A1 : Option Addr) (c1 : Nat) (l1 : List Int) (r : Int) (w : World) (aA : Kd.C k39 w ag ac.length ac) (aC : ac.length <= af) (hr1 : Kd.C (Kd.int .i64) w A1 l1.length l1) (hc1 : l1.length <= c1) (h : d_CheckClash.f k ae ac l1 = some r) :
  Calls Try.prog 37 #[.agg #[.int .i64 ae, .slice ag ac.length af], .slice A1 l1.length c1] w fun e w' => e = .returned (.int .i64 r) /\ Below w.heap.size w w' := by
 have ja := Try.underlying24; have ah := Z_ aA; have ai := Z_ aC; clear aA aC; have HR1 := Z_ hr1; have HC1 := Z_ hc1; clear hr1 hc1; have HB := Z_ (Below.refl w.heap.size w); have H : ((d_indices.f ae ac l1).bind fun O6 => ((d_asked.f k ae ac (([O6] : List Bool))).bind fun TG => (if TG = 0 then (if (l1.length : Int) = 0 then (d_CheckClash.j0 k l1 true ae ac) else (d_CheckClash.j0 k l1 (decide ((l1.length : Int) > ae)) ae ac)) else (some TG)))) = some r := h; clear h; obtain ⟨O6, A3, H⟩ := oZ_ H; obtain ⟨aEF, aea⟩ : ∃ y_ : List Bool, y_ = (([O6] : List Bool)) := ⟨_, rfl⟩; replace H : ((d_asked.f k ae ac aEF).bind fun TG => (if TG = 0 then (if (l1.length : Int) = 0 then (d_CheckClash.j0 k l1 true ae ac) else (d_CheckClash.j0 k l1 (decide ((l1.length : Int) > ae)) ae ac)) else (some TG))) = some r := by first | (rw [aea]; with_reducible exact H) | (have H2_ := (oB_ _ _).symm.trans H; rw [aea]; with_reducible exact H2_) | (have H2_ := (oB_ _ _).symm.trans H; with_reducible exact H2_) | with_reducible exact H | (rw [aea]; exact H) | exact H
 have aDn := Z_ aea; clear aea; obtain ⟨TG, A4, H⟩ := oZ_ H; have HF5 := Z_ H; clear H; go_enter Try.func37, Try.ntmps37; try go_wp2_with (first | ((with_reducible refine gate_dst (N := 2) rfl ?_); (try (refine gate_guard (by rfl) ?_; dsimp only)); refine bX_ 2 #[.int .i64 ae, .slice ag ac.length af] 24 ?_; intro LG hg w6 hbox hb; have lD := Z_ (hbox); have bdp := Z_ ((by rw [hg]; exact (fZ_ hB_) : w.heap.size <= LG)); have bey := Z_ ((by rw [hg]; exact (fZ_ hB_) : w.heap.size <= LG)); replace HB := Z_ (fS_ hB_ hb); clear hb hbox hg))
 replace lD := Z_ (bD_ lD.out); replace HB := Z_ (fD_ HB.out); refine start_ (n := 7) (S := fun w' => w'.cell? ⟨LG, 0, none⟩ = some (.int .i64 ae) /\ w'.cell? ⟨LG, 1, none⟩ = some (.slice ag ac.length af)) (ds := []) _ (by kernel_rfl) rfl rfl ⟨(bC_ lD.out 0).trans rfl, (bC_ lD.out 1).trans rfl⟩ (fun hHeld => ?_); generalize w6.drew = w7 at lD HB hHeld ⊢; refine pP_ 2 15 ?_; refine pT_ 0 13 ?_; refine pT_ 1 14 ?_; refine oN_ 3 (some 16) (fun K hK => ?_); refine gO_ Try.func90 #[.agg #[.int .i64 ae, .slice ag ac.length af], .slice A1 l1.length c1] ?_; with_reducible refine (d_indices.calls ae _ _ ac _ _ l1 O6 _ ?side1 ?side2 ?side3 ?side4 A3.out).mono ?_
 (case side1 => exact cS_ (cB_ ah.out HB.out))
 (case side2 => exact ai.out)
 (case side3 => exact cS_ (cB_ HR1.out HB.out))
 (case side4 => exact HC1.out)
 rintro e w8 ⟨rfl, hb⟩; refine ⟨_, rfl, ?_⟩; replace lD := Z_ (bS_ lD.out hb); replace HB := Z_ (fS_ hB_ hb); (try clear hb)
 refine hK.out _ _ ⟨(bC_ lD.out 0).trans rfl, (bC_ lD.out 1).trans rfl⟩ (fun hHeld => ?_); clear hK K; refine nP_ 16 ?_; refine oN_ 4 (some 17) (fun K hK => ?_); refine Kd.R_lit_step Kd.bool _ 4 ?hg (N := 17) ?hd (xs := ([O6] : List Bool)) (inner := [.bool O6]) (ok := fun _ => True) (okp := fun _ => True) ?hr ?hp (fun _ hk => hk) trivial (Below.refl _ _) (nR_ _) (by simp) ?_; (case hd => rfl); (case hg => rfl); (case hr => first | (go_simp; done) | (go_simp; rfl)); (case hp => exact (Reps.one (show Kd.M Kd.bool _ _ _ O6 [.bool O6] from rfl) (Reps.none _ _))); intro bgM w9 Vl hb hg_ hnew_; clear hg_ hnew_; (first | rw [<- aDn.out] at Vl | (simp only [Int.reduceToNat] at Vl; rw [<- aDn.out] at Vl))
 have agC := Z_ (rL_ Vl (fZ_ hB_)); replace lD := Z_ (bS_ lD.out hb); replace HB := Z_ (fS_ hB_ hb); clear hb Vl; obtain ⟨Ie, GE, abD⟩ := rS_ agC.out; (first | subst abD | (injection abD with f1_ f2_ f3_; have f4_ := f1_.symm; have f5_ := f3_.symm; clear f1_ f2_ f3_; subst f4_; subst f5_))
 refine hK.out _ _ ⟨(bC_ lD.out 0).trans rfl, (bC_ lD.out 1).trans rfl⟩ (fun hHeld => ?_); clear hK K; refine nP_ 17 ?_; refine oN_ 5 (some 18) (fun K hK => ?_); refine gO_ Try.func77 #[.agg #[.int .i64 ae, .slice ag ac.length af], .slice Ie aEF.length GE] ?_; with_reducible refine (d_asked.calls k ae _ _ ac _ _ aEF TG _ ?side1 ?side2 ?side3 ?side4 A4.out).mono ?_
 (case side1 => exact cS_ (cB_ ah.out HB.out))
 (case side2 => exact ai.out)
 (case side3 => exact cS_ (rR_ agC.out).2.2)
 (case side4 => exact (rR_ agC.out).2.1)
 rintro e w12 ⟨rfl, hb⟩; refine ⟨_, rfl, ?_⟩; replace agC := Z_ (rB_ (rK_ agC.out) hb); replace lD := Z_ (bS_ lD.out hb); replace HB := Z_ (fS_ hB_ hb); (try clear hb)
 refine hK.out _ _ ⟨(bC_ lD.out 0).trans rfl, (bC_ lD.out 1).trans rfl⟩ (fun hHeld => ?_); clear hK K; refine nP_ 18 ?_; refine pP_ 6 5 ?_; refine dN_ ?_; go_upto_if 20 with (fail); have H := HF5.out; clear HF5; by_cases c13 : TG = 0
 .rw [if_pos c13] at H
  obtain ⟨jM, xw⟩ := be_ c13; clear c13; (try rw [jM])
  have ajf := Z_ H; clear H; go_upto_region 4 with (fail); go_cut [31] (fun v31 wc => ∃ (kq : Nat) (ZZ : Bool), v31 = .bool ZZ /\ Aside0 (d_CheckClash.j0 kq l1 ZZ ae ac = some r) /\ Aside0 (kq <= k) /\ Aside0 (wc.heap[LG]? = some (.cells #[.int .i64 ae, (.slice ag ac.length af)] 24 (0, 0))) /\ Aside0 (Below w.heap.size w wc))
  case first =>
   have H := ajf.out; clear ajf; by_cases c15 : (l1.length : Int) = 0
   .rw [if_pos c15] at H
    have wx : ((l1.length : Int) == 0) = true := beq_iff_eq.mpr c15; have Ov : ((l1.length : Int) != 0) = false := bne_eq_false_iff_eq.mpr c15; clear c15; (try rw [wx])
    have H' := Z_ H; clear H; go_wp2; go_meet
    case rel => exact ⟨_, (true), rf_, H', ⟨oL_⟩, ⟨bR_ lD.out⟩, ⟨hB_⟩⟩
   rw [if_neg c15] at H; have wx : ((l1.length : Int) == 0) = false := beq_eq_false_iff_ne.mpr c15; have Ov : ((l1.length : Int) != 0) = true := bne_iff_ne.mpr c15; have aga : ¬ (l1 = []) := fun h_ => c15 (by rw [h_]; rfl)
   (try rw [wx])
   have H' := Z_ H; clear H; obtain ⟨⟨gG, gE⟩, gB, gA⟩ := f2_ lD.out; go_wp2; go_meet
   case rel => exact ⟨_, (decide ((l1.length : Int) > ae)), rf_, H', ⟨oL_⟩, ⟨bR_ lD.out⟩, ⟨hB_⟩⟩
  case rest =>
   clear ajf; obtain ⟨kq, ZZ, rfl, HA, WH, lD, HB⟩ := hcut
   cases kq with
   | zero => exact absurd HA.out (by simp [d_CheckClash.j0])
   | succ ade =>
    have H := HA.out; clear HA; simp only [d_CheckClash.j0] at H; by_cases c17 : ZZ = true
    .subst c17
     rw [if_pos rfl] at H; obtain rfl := oI_ H; go_wp2; go_ret; exact ⟨eW_, hB_⟩
    replace c17 := bE_.mpr c17; subst c17; have H1 : (if 0 <= ae then (if (ae : Int).toNat <= 281474976710656 then (d_CheckClash.l0 ade l1 (List.replicate (ae : Int).toNat false) l1 (l1.length : Int) 0 ae ac) else (none)) else (none)) = some r := by rw [if_neg (show ¬ (false = true) by decide)] at H; exact H
    clear H; have H := H1; clear H1; by_cases c18 : 0 <= ae
    .rw [if_pos c18] at H
     have mP := eq_true c18; have Ou : decide (0 <= ae) = true := eT_ c18; clear c18; by_cases c19 : (ae : Int).toNat <= 281474976710656
     .rw [if_pos c19] at H
      have px := eq_true c19; have aCT : decide ((ae : Int).toNat <= 281474976710656) = true := eT_ c19; clear c19; obtain ⟨aLj, ad9⟩ : ∃ y_ : List Bool, y_ = (List.replicate (ae : Int).toNat false) := ⟨_, rfl⟩; replace H : (d_CheckClash.l0 ade l1 aLj l1 (l1.length : Int) 0 ae ac) = some r := by first | (rw [ad9]; with_reducible exact H) | (have H2_ := (oB_ _ _).symm.trans H; rw [ad9]; with_reducible exact H2_) | (have H2_ := (oB_ _ _).symm.trans H; with_reducible exact H2_) | with_reducible exact H | (rw [ad9]; exact H) | exact H
      have aDm := Z_ ad9; clear ad9; have H' := Z_ H; clear H; obtain ⟨⟨lq, lp⟩, lg, ld⟩ := f2_ lD.out; go_wp2_with (first | ((with_reducible refine gate_dst (N := 34) rfl ?_); (try (refine gate_guard (by rfl) ?_; dsimp only)); refine Kd.R_make Kd.bool _ 4 rfl (N := 34) rfl 41 _ _ rfl ae rfl rfl Try.underlying41 (.bool false) 1 info4 rfl (by decide) (by omega) false (ok := fun _ => True) (okp := fun _ => True) rfl (fun _ hk => hk) trivial (dT_ as_) (Nat.le_trans (Nat.mul_le_mul_right _ (dT_ as_ : ae.toNat <= 281474976710656)) (by omega)) (Below.refl _ _) (nR_ _) ?_; intro a2T w21 ary hb hg_ hnew_; clear hg_ hnew_; (first | rw [<- aDm.out] at ary | (simp only [Int.reduceToNat] at ary; rw [<- aDm.out] at ary)); have aXg := Z_ (rL_ ary (fZ_ hB_)); replace lD := Z_ (bS_ lD.out hb); replace HB := Z_ (fS_ hB_ hb); clear hb ary)); go_loopg [37] ade (fun kq v37 w' => ∃ (O1 : List Bool) (lv : Int), v37 = .int .i64 lv /\ Aside0 (d_CheckClash.l0 kq l1 O1 l1 (l1.length : Int) lv ae ac = some r) /\ Aside0 (kq <= ade) /\ Aside0 (Kd.R Kd.bool 4 w' w.heap.size (fun _ => True) a2T O1) /\ Aside0 (w'.heap[LG]? = some (.cells #[.int .i64 ae, (.slice ag ac.length af)] 24 (0, 0))) /\ Aside0 (Below w.heap.size w w'))
      case atStart => exact ⟨(aLj), (0), rf_, H', ⟨nR_ _⟩, ⟨rK_ aXg.out⟩, ⟨bR_ lD.out⟩, ⟨hB_⟩⟩
      case round =>
       clear H'; obtain ⟨O1, lv, rfl, HA, HK2, df, lD, HB⟩ := hrel
       cases gk with
       | zero => exact absurd HA.out (by simp [d_CheckClash.l0])
       | succ k2 =>
        have H := HA.out; clear HA; simp only [d_CheckClash.l0] at H; by_cases c23 : lv < (l1.length : Int)
        .rw [if_pos c23] at H
         replace c23 := eT_ c23; by_cases c24 : 0 <= lv
         .rw [if_pos c24] at H
          replace c24 := eT_ c24; by_cases c25 : lv < (l1.length : Int)
          .rw [if_pos c25] at H
           replace c25 := eT_ c25; by_cases c26 : 0 <= (rd l1 lv)
           .rw [if_pos c26] at H
            replace c26 := eT_ c26; by_cases c27 : (rd l1 lv) < (ac.length : Int)
            .rw [if_pos c27] at H
             replace c27 := eT_ c27; by_cases c28 : 0 <= ((rT39 ac (rd l1 lv)).f0)
             .rw [if_pos c28] at H
              have Cx : decide (0 <= ((rT39 ac (rd l1 lv)).f0)) = true := eT_ c28; clear c28; by_cases c29 : ((rT39 ac (rd l1 lv)).f0) < (O1.length : Int)
              .rw [if_pos c29] at H
               have xu : decide (((rT39 ac (rd l1 lv)).f0) < (O1.length : Int)) = true := eT_ c29; clear c29; obtain ⟨aVh, auN⟩ : ∃ b_ : Bool, b_ = (rdOf false O1 ((rT39 ac (rd l1 lv)).f0)) := ⟨_, rfl⟩; replace H : (if aVh = true then (some 43) else (d_CheckClash.l0 k2 l1 (O1.set (((rT39 ac (rd l1 lv)).f0) : Int).toNat true) l1 (l1.length : Int) (wrap64 (lv + 1)) ae ac)) = some r := by rw [<- auN] at H; exact H
               have aDv := Z_ auN; clear auN; by_cases c31 : aVh = true
               .subst c31
                rw [if_pos rfl] at H; obtain rfl := oI_ H; have aie : 0 <= (lv : Int) := dT_ as_; have ahQ : lv < (l1.length : Int) := dT_ as_; obtain ⟨aV1, aJf, Nv⟩ := Kd.at_int HR1.out lv aie ahQ; cases aJf
                replace Nv := pw_cell_below HB.out Nv; replace aie := eq_true aie; replace ahQ := eq_true ahQ; obtain ⟨⟨qJ, qI⟩, qF, qE⟩ := f2_ lD.out; have aid : 0 <= ((rd l1 lv) : Int) := dT_ as_; have ahP : (rd l1 lv) < (ac.length : Int) := dT_ as_; obtain ⟨aDa, aJe, Nu, Nt, Ns⟩ := at_T39 ah.out (rd l1 lv) aid ahP; cases aJe
                replace Nu := pw_cell_below HB.out Nu; replace Nt := pw_cell_below HB.out Nt; replace Ns := pw_cell_below HB.out Ns; replace aid := eq_true aid; replace ahP := eq_true ahP; obtain ⟨Gd, EV, VZ⟩ := rS_ df.out; subst VZ; have aic : 0 <= (((rT39 ac (rd l1 lv)).f0) : Int) := dT_ as_; have ahO : ((rT39 ac (rd l1 lv)).f0) < (O1.length : Int) := dT_ as_; obtain ⟨aV0, aJd, Sr⟩ := Kd.at_bool (rR_ df.out).2.2 ((rT39 ac (rd l1 lv)).f0) aic ahO; (try rw [<- aDv.out] at Sr)
                cases aJd
                replace aic := eq_true aic; replace ahO := eq_true ahO; go_wp2; go_ret; exact ⟨eW_, hB_⟩
               replace c31 := bE_.mpr c31; subst c31; have H1 : (d_CheckClash.l0 k2 l1 (O1.set (((rT39 ac (rd l1 lv)).f0) : Int).toNat true) l1 (l1.length : Int) (wrap64 (lv + 1)) ae ac) = some r := by rw [if_neg (show ¬ (false = true) by decide)] at H; exact H
               clear H; have H := H1; clear H1; obtain ⟨aEE, ad8⟩ : ∃ y_ : List Bool, y_ = (O1.set (((rT39 ac (rd l1 lv)).f0) : Int).toNat true) := ⟨_, rfl⟩; replace H : (d_CheckClash.l0 k2 l1 aEE l1 (l1.length : Int) (wrap64 (lv + 1)) ae ac) = some r := by first | (rw [ad8]; with_reducible exact H) | (have H2_ := (oB_ _ _).symm.trans H; rw [ad8]; with_reducible exact H2_) | (have H2_ := (oB_ _ _).symm.trans H; with_reducible exact H2_) | with_reducible exact H | (rw [ad8]; exact H) | exact H
               have aWD := Z_ ad8; clear ad8; have H' := Z_ H; clear H; have aie : 0 <= (lv : Int) := dT_ as_; have ahQ : lv < (l1.length : Int) := dT_ as_; obtain ⟨aV1, aJf, Nv⟩ := Kd.at_int HR1.out lv aie ahQ; cases aJf
               replace Nv := pw_cell_below HB.out Nv; replace aie := eq_true aie; replace ahQ := eq_true ahQ; obtain ⟨⟨ku, kt⟩, ko, kn⟩ := f2_ lD.out; have aid : 0 <= ((rd l1 lv) : Int) := dT_ as_; have ahP : (rd l1 lv) < (ac.length : Int) := dT_ as_; obtain ⟨aDa, aJe, Nu, Nt, Ns⟩ := at_T39 ah.out (rd l1 lv) aid ahP; cases aJe
               replace Nu := pw_cell_below HB.out Nu; replace Nt := pw_cell_below HB.out Nt; replace Ns := pw_cell_below HB.out Ns; replace aid := eq_true aid; replace ahP := eq_true ahP; obtain ⟨vY, tH, GB⟩ := rS_ df.out; subst GB; have aic : 0 <= (((rT39 ac (rd l1 lv)).f0) : Int) := dT_ as_; have ahO : ((rT39 ac (rd l1 lv)).f0) < (O1.length : Int) := dT_ as_; obtain ⟨aV0, aJd, Sr⟩ := Kd.at_bool (rR_ df.out).2.2 ((rT39 ac (rd l1 lv)).f0) aic ahO; (try rw [<- aDv.out] at Sr)
               cases aJd
               replace aic := eq_true aic; replace ahO := eq_true ahO; have p34 : 0 <= (((rT39 ac (rd l1 lv)).f0) : Int) := dT_ as_; have q34 : (((rT39 ac (rd l1 lv)).f0) : Int) < ((O1.length : Int) : Int) := dT_ as_; obtain ⟨aIA, Pj, L5, aTi, a63, bh3, aXA⟩ := Kd.R_form df.out (by omega); (first | cases L5 | (injection L5 with ea_ en_ ec_; (first | subst ea_ | (injection ea_ with ea_; subst ea_)); subst ec_; clear en_))
               have a93 := Z_ aTi; have bil := Z_ aXA; clear aTi a63 aXA; (first | simp only [add_plain] at Sr | skip)
               obtain ⟨arm, atB⟩ := Kd.R_celln false df.out (((rT39 ac (rd l1 lv)).f0) : Int) p34 q34; replace p34 := eq_true p34; replace q34 := eq_true q34; have ai1 := Kd.R_putg df.out (((rT39 ac (rd l1 lv)).f0) : Int) true; go_wp2_with (first | ((with_reducible refine gate_store (t := 4) (p := 53) rfl ?_); refine store_event (t := 4) (p := 53) (v := ?vo_w38) (w1 := (wr.setCell ⟨aIA, (((rT39 ac (rd l1 lv)).f0) : Int).toNat, none⟩ (.bool true))) ?hg ?ho ?hn ?hr ?_; (case ho => rfl); (case hg => rfl); (case hn => rfl); (case hr => first | (go_simp; done) | (go_simp; rfl)); intro w38 hw; have hg : wr.grownBy w38 (some aIA) := (by rw [hw]; exact ai1.2); have hp_ : Kd.R Kd.bool 4 w38 w.heap.size (fun _ => True) (.slice (some ⟨aIA, 0, none⟩) O1.length tH) aEE := (by rw [hw, aWD.out]; exact ai1.1); clear ai1; replace lD := Z_ (blk_grown (g := LG) (o := .cells #[.int .i64 ae, .slice (some aDa) ac.length af] 24 (0, 0)) (bR_ lD.out) hg (Kd.R_ne df.out lD.out (by decide))); replace df := Z_ (hp_); replace HB := Z_ ((by rw [hw]; exact fE_ (HB.out) a93.out : Below w.heap.size w w38)); clear hg hw hp_)); go_roundg k2
               case measure => have := WH.out; have := HK2.out; omega
               case rel => exact ⟨(aEE), (wrap64 (lv + 1)), rf_, H', ⟨by have := WH.out; have := HK2.out; omega⟩, ⟨rK_ df.out⟩, ⟨bR_ lD.out⟩, ⟨hB_⟩⟩
              exact nN_ c29 H
             exact nN_ c28 H
            exact nN_ c27 H
           exact nN_ c26 H
          exact nN_ c25 H
         exact nN_ c24 H
        rw [if_neg c23] at H; replace c23 := eF_ c23; by_cases c39 : 0 < (l1.length : Int)
        .rw [if_pos c39] at H
         have rZ : decide (0 < (l1.length : Int)) = true := eT_ c39; have Ot : decide (0 < l1.length) = true := eT_ (by omega); clear c39; by_cases c40 : 0 <= (rd l1 0)
         .rw [if_pos c40] at H
          replace c40 := eT_ c40; by_cases c41 : (rd l1 0) < (ac.length : Int)
          .rw [if_pos c41] at H
           replace c41 := eT_ c41; replace H := oS_.mp H; obtain ⟨⟨aL1, aL0⟩, ag0, H⟩ := H; have A42 := Z_ ag0; clear ag0; have ai7 := Z_ H; clear H; try go_wp2
           replace df := Z_ (rD_ df.out); replace lD := Z_ (bD_ lD.out); replace HB := Z_ (fD_ HB.out); have aHa : 0 <= (0 : Int) := (by omega); have aF5 : 0 < (l1.length : Int) := dT_ as_; obtain ⟨aC9, a8r, Ku⟩ := Kd.at_int HR1.out 0 aHa aF5; have ND := Ku; (try rw [show ((0 : Int)).toNat = 0 from rfl] at ND)
           (try rw [show 0 * 1 = 0 from rfl] at ND)
           (try rw [Addr.add_zero'] at ND)
           cases a8r
           have baE : (0 < l1.length) = True := eq_true (by omega); (try rw [show ((0 : Int)).toNat = 0 from rfl] at Ku)
           (try rw [Addr.add_zero'] at Ku)
           replace Ku := pw_cell_below HB.out Ku; replace aHa := eq_true aHa; replace aF5 := eq_true aF5; have aG9 : 0 <= ((rd l1 0) : Int) := dT_ as_; have aF4 : (rd l1 0) < (ac.length : Int) := dT_ as_; obtain ⟨QB, a8q, Sq, Sp, Sn⟩ := at_T39 ah.out (rd l1 0) aG9 aF4; have alK := Sn; have alL := Sp; have alM := Sq; cases a8q
           replace Sq := pw_cell_below HB.out Sq; replace Sp := pw_cell_below HB.out Sp; replace Sn := pw_cell_below HB.out Sn; replace aG9 := eq_true aG9; replace aF4 := eq_true aF4; refine start_ (n := 9) (S := fun w' => w'.cell? ⟨LG, 0, none⟩ = some (.int .i64 ae) /\ w'.cell? ⟨LG, 1, none⟩ = some (.slice (some QB) ac.length af) /\ w'.cell? aC9 = some (.int .i64 (rd l1 0)) /\ w'.cell? (QB.add (((rd l1 0)).toNat * 3)) = some (.int .i64 ((rT39 ac (rd l1 0)).f0)) /\ w'.cell? ⟨(QB.add (((rd l1 0)).toNat * 3)).block, (QB.add (((rd l1 0)).toNat * 3)).off + 1, none⟩ = some (.int .i64 ((rT39 ac (rd l1 0)).f1)) /\ w'.cell? ⟨(QB.add (((rd l1 0)).toNat * 3)).block, (QB.add (((rd l1 0)).toNat * 3)).off + 2, none⟩ = some (.int .i64 ((rT39 ac (rd l1 0)).f2))) (ds := []) _ (by kernel_rfl) rfl rfl ⟨(bC_ lD.out 0).trans rfl, (bC_ lD.out 1).trans rfl, ((HB.out.cell (World.block_lt_of_cell? w _ ND)).trans ND), ((HB.out.cell (World.block_lt_of_cell? w _ alM)).trans alM), ((HB.out.cell (World.block_lt_of_cell? w _ alL)).trans alL), ((HB.out.cell (World.block_lt_of_cell? w _ alK)).trans alK)⟩ (fun hHeld => ?_); refine with_tabW d_CheckClash.tab15 d_CheckClash.bits15 (fun HT_ HW_ => ?_); generalize wr.drew = w44 at df lD HB Ku Sq Sp Sn hHeld ⊢; refine pP_ 0 55 ?_; refine pP_ 2 57 ?_; refine pP_ 3 58 ?_; refine pT_ 1 56 ?_; refine pT_ 4 59 ?_; refine pP_ 5 60 ?_; refine pP_ 6 61 ?_; refine pT_ 7 62 ?_; refine pP_ 8 10 ?_; refine dN_ ?_; obtain ⟨⟨BW, BV⟩, BJ, BI⟩ := f2_ lD.out; go_upto_region 17 with (first | ((with_reducible refine gate_callee (f := 91) rfl ?_); refine gL_ (some 68) Try.func91 #[.agg #[.int .i64 ae, .slice (some QB) ac.length af], .int .i64 ((rT39 ac (rd l1 0)).f0), .int .i64 ((rT39 ac (rd l1 0)).f0), .slice (some aC9) l1.length c1] ?_; (with_reducible refine (d_walk.calls k2 ae _ _ ac ((rT39 ac (rd l1 0)).f0) ((rT39 ac (rd l1 0)).f0) _ _ l1 aL1 aL0 _ ?side1 ?side2 ?side3 ?side4 A42.out).mono ?_); (case side1 => exact cS_ (cB_ ah.out HB.out)); (case side2 => exact ai.out); (case side3 => exact cS_ (cB_ HR1.out HB.out)); (case side4 => exact HC1.out); rintro e w46 ⟨rfl, hb⟩; refine ⟨_, rfl, ?_⟩; replace df := Z_ (rB_ (rK_ df.out) hb); replace lD := Z_ (bS_ lD.out hb); replace HB := Z_ (fS_ hB_ hb); (try clear hb))); (try simp only [Act.put, sT_, sZ_, sS_])
           go_cut [76] (fun v76 wc => ∃ (kq : Nat) (Zt : Bool), v76 = .bool Zt /\ Aside0 (d_CheckClash.j2 kq Zt = some r) /\ Aside0 (kq <= k2) /\ Aside0 (wc.heap[LG]? = some (.cells #[.int .i64 ae, (.slice (some QB) ac.length af)] 24 (0, 0))) /\ Aside0 (Below w.heap.size w wc))
           case first =>
            have H := ai7.out; clear ai7; by_cases c47 : aL0 = true
            .subst c47
             rw [if_pos rfl] at H; have H' := Z_ H; clear H; go_wp2; go_meet
             case rel => exact ⟨_, (decide (aL1 >= 0)), rf_, H', ⟨by have := WH.out; have := HK2.out; first | omega | exact nR_ _⟩, ⟨bR_ lD.out⟩, ⟨hB_⟩⟩
            replace c47 := bE_.mpr c47; subst c47; have H1 : (d_CheckClash.j2 k2 true) = some r := by rw [if_neg (show ¬ (false = true) by decide)] at H; exact H
            clear H; have H := H1; clear H1; have H' := Z_ H; clear H; go_wp2; go_meet
            case rel => exact ⟨_, (true), rf_, H', ⟨by have := WH.out; have := HK2.out; first | omega | exact nR_ _⟩, ⟨bR_ lD.out⟩, ⟨hB_⟩⟩
           case rest =>
            clear ai7; obtain ⟨kq, Zt, rfl, HA, axb, lD, HB⟩ := hcut
            cases kq with
            | zero => exact absurd HA.out (by simp [d_CheckClash.j2])
            | succ LY =>
             have H := HA.out; clear HA; simp only [d_CheckClash.j2] at H; by_cases c48 : Zt = true
             .subst c48
              rw [if_pos rfl] at H; obtain rfl := oI_ H; go_wp2; go_ret; exact ⟨eW_, hB_⟩
             replace c48 := bE_.mpr c48; subst c48; have H1 : (some 0) = some r := by rw [if_neg (show ¬ (false = true) by decide)] at H; exact H
             clear H; have H := H1; clear H1; obtain rfl := oI_ H; go_wp2; go_ret; exact ⟨eW_, hB_⟩
          exact nN_ c41 H
         exact nN_ c40 H
        exact nN_ c39 H
     exact nN_ c19 H
    exact nN_ c18 H
 rw [if_neg c13] at H; obtain ⟨jM, xw⟩ := bn_ c13; (try rw [jM])
 obtain rfl := oI_ H; go_wp2; go_ret; exact ⟨eW_, hB_⟩
def s_Reverse_int_int.l0 : Nat -> List Int -> Int -> Int -> Option (List Int)
 | 0, _, _, _ => none
 | k + 1, x0, x2, x3 => if x2 < x3 then (if 0 <= x3 then (if x3 < (x0.length : Int) then (if 0 <= x2 then (if x2 < (x0.length : Int) then (s_Reverse_int_int.l0 k ((x0.set (x2 : Int).toNat (rd x0 x3)).set (x3 : Int).toNat (rd x0 x2)) (wrap64 (x2 + 1)) (wrap64 (x3 - 1))) else (none)) else (none)) else (none)) else (none)) else (some x0)
def s_Reverse_int_int.f (k : Nat) (l0 : List Int) : Option (List Int) := s_Reverse_int_int.l0 k l0 0 (wrap64 ((l0.length : Int) - 1))
theorem s_Reverse_int_int.mono_l : ∀ k, (∀ y0 y1 y2, LeO (s_Reverse_int_int.l0 k y0 y1 y2) (s_Reverse_int_int.l0 (k + 1) y0 y1 y2))
 | 0 => fun _ _ _ r h => by simp [s_Reverse_int_int.l0] at h
 | k + 1 => by
  have ih0 := s_Reverse_int_int.mono_l k; intro y0 y1 y2; unfold s_Reverse_int_int.l0; repeat' first | (with_reducible first | exact ih0 _ _ _ | exact LeO.refl _ | exact LeO.none _ | refine LeO.ite ?_ ?_ | refine LeO.bind ?_ (fun _ => ?_))
theorem s_Reverse_int_int.mono : ∀ a0 k, LeO (s_Reverse_int_int.f k a0) (s_Reverse_int_int.f (k + 1) a0) := by
 intro a0 k; have ih0 := s_Reverse_int_int.mono_l k; unfold s_Reverse_int_int.f; repeat' first | (with_reducible first | exact ih0 _ _ _ | exact LeO.refl _ | exact LeO.none _ | refine LeO.ite ?_ ?_ | refine LeO.bind ?_ (fun _ => ?_))
def s_Reverse_int_int.T3 : Bool × List (List Nat × List Nat) := (true, [([], []), ([], []), ([], []), ([], []), ([], []), ([], []), ([4, 5], [4, 5]), ([6], [6]), ([], []), ([], []), ([8, 9], [8, 9]), ([10], [10]), ([0, 1, 0, 1, 4, 5, 6, 7, 11], [0, 1]), ([12, 7, 0, 1, 4, 5, 6, 7, 11], [7, 12]), ([2, 3, 0, 1, 2, 3, 4, 5, 6, 7, 8, 9, 10, 11, 12, 13], [2, 3]), ([14, 11, 13, 0, 1, 2, 3, 4, 5, 6, 7, 8, 9, 10, 11, 12, 13], [11, 14])])
def s_Reverse_int_int.B3 : List Nat := [0, 0, 0, 0, 0, 0, 48, 112, 0, 0, 768, 1792, 4083, 8179, 16383, 32767]
theorem s_Reverse_int_int.tab3 : rtab .any (opsOf Try.f94 3) = s_Reverse_int_int.T3 := by kernel_rfl
theorem s_Reverse_int_int.bits3 : waitsOk s_Reverse_int_int.T3.2 s_Reverse_int_int.B3 = true := by kernel_rfl
theorem s_Reverse_int_int.calls (k : Nat) (P0_ : Nat -> Prop) (zb : Value) (l0 : List Int) (r : List Int) (w0 w : World) (hB : Below w0.heap.size w0 w) (ho0 : Kd.R (Kd.int .i64) 3 w w0.heap.size P0_ zb l0) (h : s_Reverse_int_int.f k l0 = some r) :
  Calls Try.prog 94 #[zb] w fun e w' => e = .returned (.tuple #[]) /\ Kd.R (Kd.int .i64) 3 w' w0.heap.size (fun k_ => (P0_ k_ ∨ w.heap.size <= k_)) zb r /\ Below w0.heap.size w0 w' /\ Kept w w' (fun k_ => P0_ k_) := by
 have HO0 := Z_ (show Kd.R (Kd.int .i64) 3 w w0.heap.size (fun k_ => (P0_ k_ ∨ w.heap.size <= k_)) zb l0 from rM_ ho0 (fun k_ hk => (.inl hk))); have HK := Z_ (Kept.refl w (fun k_ => P0_ k_)); have HW0 := Z_ hB.size; have HB := Z_ hB; clear hB; have H : (s_Reverse_int_int.l0 k l0 0 (wrap64 ((l0.length : Int) - 1))) = some r := h; clear h; have H' := Z_ H; clear H; obtain ⟨Ao2, co2, eo2⟩ := rS_ HO0.out; subst eo2; go_enter Try.func94, Try.ntmps94; go_wp2; go_loopg [2, 3] k (fun kq v2 v3 w' => ∃ (IW : List Int) (qz : Int) (tG : Int), v2 = .int .i64 qz /\ v3 = .int .i64 tG /\ Aside0 (s_Reverse_int_int.l0 kq IW qz tG = some r) /\ Aside0 (kq <= k) /\ Aside0 (Kd.R (Kd.int .i64) 3 w' w0.heap.size (fun k_ => (P0_ k_ ∨ w.heap.size <= k_)) (.slice Ao2 l0.length co2) IW) /\ Aside0 (Kept w w' (fun k_ => P0_ k_)) /\ Aside0 (Below w0.heap.size w0 w'))
 case atStart => exact ⟨(l0), (0), (wrap64 ((l0.length : Int) - 1)), rf_, rf_, H', ⟨nR_ _⟩, ⟨rK_ HO0.out⟩, ⟨by repeat (first | (with_reducible first | exact HK.out | apply Kept.alloc | apply Kept.drewN | apply Kept.drew) | exact HK.out)⟩, ⟨hB_⟩⟩
 case round =>
  clear H'; obtain ⟨IW, qz, tG, rfl, rfl, HA, HK1, PJ, HK, HB⟩ := hrel; have aeY := (rR_ PJ.out).1; rw [aeY] at PJ; (try simp only [aeY])
  cases gk with
  | zero => exact absurd HA.out (by simp [s_Reverse_int_int.l0])
  | succ k1 =>
   have H := HA.out; clear HA; simp only [s_Reverse_int_int.l0] at H; by_cases c3 : qz < tG
   .rw [if_pos c3] at H
    replace c3 := eT_ c3; by_cases c4 : 0 <= tG
    .rw [if_pos c4] at H
     replace c4 := eT_ c4; by_cases c5 : tG < (IW.length : Int)
     .rw [if_pos c5] at H
      replace c5 := eT_ c5; by_cases c6 : 0 <= qz
      .rw [if_pos c6] at H
       replace c6 := eT_ c6; by_cases c7 : qz < (IW.length : Int)
       .rw [if_pos c7] at H
        replace c7 := eT_ c7; obtain ⟨aLi, ad7⟩ : ∃ y_ : List Int, y_ = (IW.set (qz : Int).toNat (rd IW tG)) := ⟨_, rfl⟩; replace H : (s_Reverse_int_int.l0 k1 (aLi.set (tG : Int).toNat (rd IW qz)) (wrap64 (qz + 1)) (wrap64 (tG - 1))) = some r := by first | (rw [ad7]; with_reducible exact H) | (have H2_ := (oB_ _ _).symm.trans H; rw [ad7]; with_reducible exact H2_) | (have H2_ := (oB_ _ _).symm.trans H; with_reducible exact H2_) | with_reducible exact H | (rw [ad7]; exact H) | exact H
        have aWC := Z_ ad7; clear ad7; obtain ⟨aLh, ad6⟩ : ∃ y_ : List Int, y_ = (aLi.set (tG : Int).toNat (rd IW qz)) := ⟨_, rfl⟩; replace H : (s_Reverse_int_int.l0 k1 aLh (wrap64 (qz + 1)) (wrap64 (tG - 1))) = some r := by first | (rw [ad6]; with_reducible exact H) | (have H2_ := (oB_ _ _).symm.trans H; rw [ad6]; with_reducible exact H2_) | (have H2_ := (oB_ _ _).symm.trans H; with_reducible exact H2_) | with_reducible exact H | (rw [ad6]; exact H) | exact H
        have aWB := Z_ ad6; clear ad6; have H' := Z_ H; clear H; try go_wp2
        replace PJ := Z_ (rD_ PJ.out); replace HK := Z_ (Kept.drew HK.out); replace HB := Z_ (fD_ HB.out); have aG8 : 0 <= (tG : Int) := dT_ as_; have aF3 : tG < (IW.length : Int) := dT_ as_; obtain ⟨aVZ, a8p, aaI⟩ := Kd.at_int (rR_ PJ.out).2.2 tG aG8 aF3; cases a8p
        replace aG8 := eq_true aG8; replace aF3 := eq_true aF3; have aG7 : 0 <= (qz : Int) := dT_ as_; have aF2 : qz < (IW.length : Int) := dT_ as_; obtain ⟨aVY, a8o, aaH⟩ := Kd.at_int (rR_ PJ.out).2.2 qz aG7 aF2; obtain rfl : aVZ = aVY := (by injection a8o); replace aG7 := eq_true aG7; replace aF2 := eq_true aF2; have p8 : 0 <= (qz : Int) := dT_ as_; have q8 : (qz : Int) < ((IW.length : Int) : Int) := dT_ as_; obtain ⟨go8, co8, eo8, gb8, gl8, cl8, HG8⟩ := Kd.R_form PJ.out (by omega); (first | cases eo8 | (injection eo8 with ea_ en_ ec_; (first | subst ea_ | (injection ea_ with ea_; subst ea_)); subst ec_; clear en_))
        have GB8 := Z_ gb8; have GG8 := Z_ HG8; clear gb8 gl8 HG8; have anv := Z_ (show (P0_ go8 ∨ w.heap.size <= go8) from (PJ.out.1 _ rfl)); (first | simp only [add_plain] at aaI | skip)
        (first | simp only [add_plain] at aaH | skip)
        obtain ⟨ari, aty⟩ := Kd.R_celln 0 PJ.out (qz : Int) p8 q8; replace p8 := eq_true p8; replace q8 := eq_true q8; have aKm := Kd.R_putn PJ.out (qz : Int) (rd IW tG); rw [<- aWC.out] at aKm; have aJ4 := Z_ aKm; clear aKm; have p9 : 0 <= (tG : Int) := dT_ as_; have q9 : (tG : Int) < ((IW.length : Int) : Int) := dT_ as_; obtain ⟨aMd, aPX⟩ := Kd.R_celln 0 aJ4.out (tG : Int) p9 q9; replace p9 := eq_true p9; replace q9 := eq_true q9; have WA := Kd.R_putn aJ4.out (tG : Int) (rd IW qz); rw [<- aWB.out] at WA; have aW4 := Z_ WA; clear WA; refine start_ (n := 16) (S := fun w' => w'.cell? ⟨go8, (tG).toNat, none⟩ = some (.int .i64 (rd IW tG)) /\ w'.cell? ⟨go8, (qz).toNat, none⟩ = some (.int .i64 (rd IW qz))) (ds := [13, 15]) _ (by kernel_rfl) rfl rfl ⟨aaI, aaH⟩ (fun hHeld => ?_); refine with_tabW s_Reverse_int_int.tab3 s_Reverse_int_int.bits3 (fun HT_ HW_ => ?_); generalize wr.drew = w10 at PJ HK HB GG8 aJ4 aW4 aty aPX aaI aaH ari aMd hHeld ⊢; refine pP_ 0 14 ?_; refine pP_ 1 15 ?_; refine pP_ 2 16 ?_; refine pP_ 3 17 ?_; refine pP_ 4 18 ?_; refine pP_ 5 19 ?_; refine pP_ 6 20 ?_; refine pP_ 8 22 ?_; refine pP_ 9 23 ?_; refine pP_ 10 24 ?_; refine pT_ 7 21 ?_; refine pT_ 11 25 ?_; refine pP_ 12 26 ?_; refine lN_ 13 none (fun K hK => ?_); refine skip_ (w1 := ?_) (by rfl) rfl ?_ ?_; rotate_left
        .go_simp
         rfl
        refine hK.out _ _ ?_; clear hK K; refine pP_ 14 27 ?_; refine lN_ 15 none (fun K hK => ?_); refine skip_ (w1 := ?_) (by rfl) rfl ?_ ?_; rotate_left
        .go_simp
         rfl
        refine hK.out _ _ ?_; clear hK K; refine dN_ ?_; try go_wp2
        (try simp only [<- aeY])
        go_roundg k1
        case measure => have := HK1.out; omega
        case rel => exact ⟨(aLh), (wrap64 (qz + 1)), (wrap64 (tG - 1)), rf_, rf_, H', ⟨by have := HK1.out; omega⟩, ⟨by (try simp only [aeY]); (with_reducible repeat (first | apply rN_ | apply rD_)); exact aW4.out⟩, ⟨by repeat (first | (with_reducible first | exact HK.out | apply Kept.alloc | apply Kept.drewN | apply Kept.drew | refine Kept.setCell ?_ anv.out _ | refine Kept.setCell ?_ anv.out _) | exact HK.out)⟩, ⟨hB_⟩⟩
       exact nN_ c7 H
      exact nN_ c6 H
     exact nN_ c5 H
    exact nN_ c4 H
   rw [if_neg c3] at H; replace c3 := eF_ c3; obtain rfl := oI_ H; go_wp2; first | go_end0 | ((try simp only [Exit.inBlock, Exit.then]); refine bodyPost_ret (results_none rfl _ _ _) rfl ?_)
   exact ⟨eW_, (by first | exact (rK_ PJ.out) | (simp only [aeY]; exact (rK_ PJ.out))), hB_, by repeat (first | (with_reducible first | exact HK.out | apply Kept.alloc | apply Kept.drewN | apply Kept.drew) | exact HK.out)⟩
def d_Clash.l0 : Nat -> Int -> List Int -> Int -> Int -> List (S39) -> List Int -> List Bool -> List Int -> Option (List Int × Bool × Int)
 | 0, _, _, _, _, _, _, _, _ => none
 | k + 1, x8, x9, x10, ayj, Rl, ayi, ayh, G9 => if 0 <= x10 then (if x10 < (G9.length : Int) then (if x9.length < 17592186044416 then ((some (x9 ++ [rd G9 x10] : List Int)).bind fun QP => (if 0 <= (rd G9 x10) then (if (rd G9 x10) < (Rl.length : Int) then (if ((rT39 Rl (rd G9 x10)).f0) = x8 then ((s_Reverse_int_int.f k QP).bind fun apX => (some (apX, true, 0))) else (d_Clash.l0 k x8 QP ((rT39 Rl (rd G9 x10)).f0) ayj Rl ayi ayh G9)) else (none)) else (none))) else (none)) else (none)) else (none)
def d_Clash.f (k : Nat) (ae : Int) (ac : List (S39)) : Option (List Int × Bool × Int) := (d_Check.f k ae ac).bind fun acu => (if acu = 0 then ((d_solve.f k ae ac).bind fun GJ => (if GJ.2.2.2.2 < 0 then (some (([] : List Int), false, 0)) else (d_Clash.l0 k GJ.2.2.2.2 ([] : List Int) GJ.2.2.2.2 ae ac GJ.2.1 GJ.2.2.1 GJ.2.2.2.1))) else (some (([] : List Int), false, acu)))
theorem d_Clash.mono_l : ∀ k, (∀ y0 y1 y2 y3 y4 y5 y6 y7, LeO (d_Clash.l0 k y0 y1 y2 y3 y4 y5 y6 y7) (d_Clash.l0 (k + 1) y0 y1 y2 y3 y4 y5 y6 y7))
 | 0 => fun _ _ _ _ _ _ _ _ r h => by simp [d_Clash.l0] at h
 | k + 1 => by
  have ih0 := d_Clash.mono_l k; intro y0 y1 y2 y3 y4 y5 y6 y7; unfold d_Clash.l0; repeat' first | (with_reducible first | exact ih0 _ _ _ _ _ _ _ _ | exact d_Check.mono _ _ _ | exact d_solve.mono _ _ _ | exact s_Reverse_int_int.mono _ _ | exact LeO.refl _ | exact LeO.none _ | refine LeO.ite ?_ ?_ | refine LeO.bind ?_ (fun _ => ?_))
theorem d_Clash.mono : ∀ a0 a1 k, LeO (d_Clash.f k a0 a1) (d_Clash.f (k + 1) a0 a1) := by
 intro a0 a1 k; have ih0 := d_Clash.mono_l k; unfold d_Clash.f; repeat' first | (with_reducible first | exact ih0 _ _ _ _ _ _ _ _ | exact d_Check.mono _ _ _ | exact d_solve.mono _ _ _ | exact s_Reverse_int_int.mono _ _ | exact LeO.refl _ | exact LeO.none _ | refine LeO.ite ?_ ?_ | refine LeO.bind ?_ (fun _ => ?_))
theorem d_Clash.calls (k : Nat) (ae : Int) (ag : Option Addr) (af : Nat) (ac : List (S39)) (r1 : List Int) (r2 : Bool) (r3 : Int) (w : World) (aA : Kd.C k39 w ag ac.length ac) (aC : ac.length <= af) (h : d_Clash.f k ae ac = some (r1, r2, r3)) :
  Calls Try.prog 40 #[.agg #[.int .i64 ae, .slice ag ac.length af]] w fun e w' => ∃ v0_ : Value, e = .returned (.tuple #[v0_, .bool r2, .int .i64 r3]) /\ Kd.R (Kd.int .i64) 3 w' w.heap.size (fun _ => True) v0_ r1 /\ Below w.heap.size w w' := by
 have ja := Try.underlying24; have Vj := Try.underlying88; have ah := Z_ aA; have ai := Z_ aC; clear aA aC; have HB := Z_ (Below.refl w.heap.size w); have H : ((d_Check.f k ae ac).bind fun acu => (if acu = 0 then ((d_solve.f k ae ac).bind fun GJ => (if GJ.2.2.2.2 < 0 then (some (([] : List Int), false, 0)) else (d_Clash.l0 k GJ.2.2.2.2 ([] : List Int) GJ.2.2.2.2 ae ac GJ.2.1 GJ.2.2.1 GJ.2.2.2.1))) else (some (([] : List Int), false, acu)))) = some (r1, r2, r3) := h; clear h; obtain ⟨acu, A2, H⟩ := oZ_ H; have HF3 := Z_ H; clear H; go_enter Try.func40, Try.ntmps40; go_upto_if 15 with (first | ((with_reducible refine gate_dst (N := 1) rfl ?_); refine bX_ 1 #[.int .i64 ae, .slice ag ac.length af] 24 ?_; intro VV hg w4 hbox hb; have yI := Z_ (hbox); have bdo := Z_ ((by rw [hg]; exact (fZ_ hB_) : w.heap.size <= VV)); have aX8 := Z_ ((by rw [hg]; exact (fZ_ hB_) : w.heap.size <= VV)); replace HB := Z_ (fS_ hB_ hb); clear hb hbox hg; obtain ⟨⟨qe, qd⟩, qc, qb⟩ := f2_ yI.out) | ((with_reducible refine gate_callee (f := 29) rfl ?_); refine gL_ (some 13) Try.func29 #[.agg #[.int .i64 ae, .slice ag ac.length af]] ?_; (with_reducible refine (d_Check.calls k ae _ _ ac acu _ ?side1 ?side2 A2.out).mono ?_); (case side1 => exact cS_ (cB_ ah.out HB.out)); (case side2 => exact ai.out); rintro e w6 ⟨rfl, hb⟩; refine ⟨_, rfl, ?_⟩; replace yI := Z_ (bS_ yI.out hb); replace HB := Z_ (fS_ hB_ hb); (try clear hb))); (try simp only [Act.put, sT_, sZ_, sS_])
 have H := HF3.out; clear HF3; by_cases c7 : acu = 0
 .rw [if_pos c7] at H
  obtain ⟨pw, IP⟩ := be_ c7; clear c7; (try rw [pw])
  replace H := oS_.mp H; obtain ⟨⟨a3d, I6, TF, xT, ahv⟩, A80, H⟩ := H; have A8 := Z_ A80; clear A80; have HF9 := Z_ H; clear H; obtain ⟨⟨gP, gO⟩, gM, gK⟩ := f2_ yI.out; go_upto_if 26 with (first | ((with_reducible refine gate_callee (f := 81) rfl ?_); refine gL_ (some 21) Try.func81 #[.iface 100 (.agg #[.int .i64 ae, .slice ag ac.length af])] ?_; (with_reducible refine (d_solve.calls k ae _ _ ac a3d I6 TF xT ahv _ ?side1 ?side2 A8.out).mono ?_); (case side1 => exact cS_ (cB_ ah.out HB.out)); (case side2 => exact ai.out); rintro e w11 ⟨bgJ, bgI, bgH, bgG, rfl, ho0, ho1, ho2, ho3, hb⟩; refine ⟨_, rfl, ?_⟩; have aDN := Z_ (rL_ ho0 (fZ_ hB_)); have anr := Z_ (rL_ ho1 (fZ_ hB_)); have anq := Z_ (rL_ ho2 (fZ_ hB_)); have anp := Z_ (rL_ ho3 (fZ_ hB_)); replace yI := Z_ (bS_ yI.out hb); replace HB := Z_ (fS_ hB_ hb); (try clear hb); (try clear ho0); (try clear ho1); (try clear ho2); (try clear ho3)) | ((with_reducible refine gate_dst (N := 7) rfl ?_); refine bX_ 7 #[.slice none 0 0, .slice none 0 0, .slice none 0 0] 88 ?_; intro Ee hg w12 hbox hb; replace aDN := Z_ (rB_ (rK_ aDN.out) hb); replace anr := Z_ (rB_ (rK_ anr.out) hb); replace anq := Z_ (rB_ (rK_ anq.out) hb); replace anp := Z_ (rB_ (rK_ anp.out) hb); have FZ := Z_ (hbox); have bdn := Z_ ((by rw [hg]; exact (fZ_ hB_) : w.heap.size <= Ee)); have aX7 := Z_ ((by rw [hg]; exact (fZ_ hB_) : w.heap.size <= Ee)); replace HB := Z_ (fS_ hB_ hb); have YL := Z_ ((nB_ hg yI.out : VV ≠ Ee)); have YK := Z_ ((by rw [hg]; exact Nat.ne_of_gt (blk_lt (g := VV) (o := .cells #[.int .i64 ae, .slice ag ac.length af] 24 (0, 0)) (bR_ yI.out)) : Ee ≠ VV)); replace yI := Z_ (bS_ yI.out hb); clear hb hbox hg; obtain ⟨tj, sW, aiB⟩ := rS_ anr.out; subst aiB; have Qe := YK.out; have Qa := YL.out; obtain ⟨⟨mM, mL, abt⟩, mI, mH, aa9⟩ := f3_ FZ.out; obtain ⟨EZ, EX, Xv⟩ := rS_ anq.out; subst Xv; obtain ⟨WQ, Ma, aoI⟩ := rS_ anp.out; subst aoI)); (try simp only [Act.put, sT_, sZ_, sS_])
  have H := HF9.out; clear HF9; by_cases c18 : ahv < 0
  .rw [if_pos c18] at H
   replace c18 := eT_ c18; (try rw [c18])
   simp only [oJ_, pI_] at H; obtain ⟨rfl, rfl, rfl⟩ := H; go_wp2; go_ret3; exact ⟨_, eW_, by first | exact Kd.R_nil _ _ _ _ _ | exact Kd.N_nil _ _ _ _ _ | exact Kd.V_nil _ _ _ _ _ | exact Kd.Q_nil _ _ _ _ _ | exact Kd.S_nil _ _ _ _ _, hB_⟩
  rw [if_neg c18] at H; replace c18 := eF_ c18; (try rw [c18])
  have H' := Z_ H; clear H; go_wp2; go_loopg [9, 10] k (fun kq v9 v10 w' => ∃ (IE : List Int) (i8 : Int), v10 = .int .i64 i8 /\ Aside0 (d_Clash.l0 kq ahv IE i8 ae ac I6 TF xT = some (r1, r2, r3)) /\ Aside0 (kq <= k) /\ Aside0 (Kd.R (Kd.int .i64) 3 w' w.heap.size (fun k_ => some k_ ≠ ((.slice tj I6.length sW) : Value).ownBlock /\ some k_ ≠ ((.slice WQ xT.length Ma) : Value).ownBlock) v9 IE) /\ Aside0 (Kd.R (Kd.int .i64) 3 w' w.heap.size (fun k_ => some k_ ≠ (v9 : Value).ownBlock /\ some k_ ≠ ((.slice WQ xT.length Ma) : Value).ownBlock) (.slice tj I6.length sW) I6) /\ Aside0 (Kd.R Kd.bool 4 w' w.heap.size (fun _ => True) (.slice EZ TF.length EX) TF) /\ Aside0 (Kd.R (Kd.int .i64) 3 w' w.heap.size (fun k_ => some k_ ≠ (v9 : Value).ownBlock /\ some k_ ≠ ((.slice tj I6.length sW) : Value).ownBlock) (.slice WQ xT.length Ma) xT) /\ Aside0 (w'.heap[VV]? = some (.cells #[.int .i64 ae, (.slice ag ac.length af)] 24 (0, 0))) /\ Aside0 (w'.heap[Ee]? = some (.cells #[(.slice tj I6.length sW), (.slice EZ TF.length EX), (.slice WQ xT.length Ma)] 88 (0, 0))) /\ Aside0 (Below w.heap.size w w'))
  case atStart => exact ⟨(([] : List Int)), (ahv), rf_, H', ⟨nR_ _⟩, ⟨by first | exact Kd.R_nil _ _ _ _ _ | exact Kd.N_nil _ _ _ _ _ | exact Kd.V_nil _ _ _ _ _ | exact Kd.Q_nil _ _ _ _ _ | exact Kd.S_nil _ _ _ _ _⟩, ⟨by (with_reducible repeat (first | apply rN_ | apply rD_)); exact rM_ (rF_ (p := ⟨Ee, 2, none⟩) (rF_ (p := ⟨Ee, 1, none⟩) (rF_ (p := ⟨Ee, 0, none⟩) (Kd.R_types anr.out FZ.out (by decide)) (fun _ hk => hk.2) (.slice tj I6.length sW)) (fun _ hk => hk.2) (.slice EZ TF.length EX)) (fun _ hk => hk.2) (.slice WQ xT.length Ma)) (fun _ hk => ⟨(by simp [Value.ownBlock]), hk.1.2⟩)⟩, ⟨by (with_reducible repeat (first | apply rN_ | apply rD_)); exact rM_ (rF_ (p := ⟨Ee, 2, none⟩) (rF_ (p := ⟨Ee, 1, none⟩) (rF_ (p := ⟨Ee, 0, none⟩) (Kd.R_types anq.out FZ.out (by decide)) (fun _ hk => hk.2) (.slice tj I6.length sW)) (fun _ hk => hk.2) (.slice EZ TF.length EX)) (fun _ hk => hk.2) (.slice WQ xT.length Ma)) (fun _ hk => trivial)⟩, ⟨by (with_reducible repeat (first | apply rN_ | apply rD_)); exact rM_ (rF_ (p := ⟨Ee, 2, none⟩) (rF_ (p := ⟨Ee, 1, none⟩) (rF_ (p := ⟨Ee, 0, none⟩) (Kd.R_types anp.out FZ.out (by decide)) (fun _ hk => hk.2) (.slice tj I6.length sW)) (fun _ hk => hk.2) (.slice EZ TF.length EX)) (fun _ hk => hk.2) (.slice WQ xT.length Ma)) (fun _ hk => ⟨(by simp [Value.ownBlock]), hk.1.2⟩)⟩, ⟨bQ_ yI.out⟩, ⟨by refine bM_ ?_; refine blk_put (cs := #[.slice tj I6.length sW, .slice EZ TF.length EX, .slice none 0 0]) ?_ 2 _ rfl; refine bM_ ?_; refine blk_put (cs := #[.slice tj I6.length sW, .slice none 0 0, .slice none 0 0]) ?_ 1 _ rfl; refine bM_ ?_; refine blk_put (cs := #[.slice none 0 0, .slice none 0 0, .slice none 0 0]) ?_ 0 _ rfl; exact bR_ FZ.out⟩, ⟨hB_⟩⟩
  case round =>
   clear H'; obtain ⟨IE, i8, rfl, HA, HK1, dK, DJ, GS, Bu, yI, FZ, HB⟩ := hrel
   cases gk with
   | zero => exact absurd HA.out (by simp [d_Clash.l0])
   | succ k1 =>
    have H := HA.out; clear HA; simp only [d_Clash.l0] at H; by_cases c19 : 0 <= i8
    .rw [if_pos c19] at H
     replace c19 := eT_ c19; by_cases c20 : i8 < (xT.length : Int)
     .rw [if_pos c20] at H
      replace c20 := eT_ c20; by_cases c21 : IE.length < 17592186044416
      .rw [if_pos c21] at H
       have awR := Z_ c21; clear c21; obtain ⟨QP, ad5⟩ : ∃ y_ : List Int, y_ = (IE ++ [rd xT i8]) := ⟨_, rfl⟩; replace H : (if 0 <= (rd xT i8) then (if (rd xT i8) < (ac.length : Int) then (if ((rT39 ac (rd xT i8)).f0) = ahv then ((s_Reverse_int_int.f k1 QP).bind fun apX => (some (apX, true, 0))) else (d_Clash.l0 k1 ahv QP ((rT39 ac (rd xT i8)).f0) ae ac I6 TF xT)) else (none)) else (none)) = some (r1, r2, r3) := by first | (rw [ad5]; with_reducible exact H) | (have H2_ := (oB_ _ _).symm.trans H; rw [ad5]; with_reducible exact H2_) | (have H2_ := (oB_ _ _).symm.trans H; with_reducible exact H2_) | with_reducible exact H | (rw [ad5]; exact H) | exact H
       have aWA := Z_ ad5; clear ad5; by_cases c22 : 0 <= (rd xT i8)
       .rw [if_pos c22] at H
        replace c22 := eT_ c22; by_cases c23 : (rd xT i8) < (ac.length : Int)
        .rw [if_pos c23] at H
         replace c23 := eT_ c23; have aXL := Z_ H; clear H; have asd := YK.out; have arQ := YL.out; obtain ⟨⟨oh, og, HY⟩, oc, ob, Hw⟩ := f3_ FZ.out; have aG6 : 0 <= (i8 : Int) := dT_ as_; have aF1 : i8 < (xT.length : Int) := dT_ as_; obtain ⟨am6, a8n, aYR⟩ := Kd.at_int (rR_ Bu.out).2.2 i8 aG6 aF1; cases a8n
         replace aG6 := eq_true aG6; replace aF1 := eq_true aF1; go_upto_if 45 with (first | ((with_reducible refine gate_builtin (b := .append) (xs := #[.tmp 33, .tmp 35]) rfl ?_); at_builtin; refine Kd.R_append (Kd.int .i64) (w0 := w) w.heap.size rfl (.tmp 33) (.tmp 35) 29 3 (.int .i64 0) 8 rfl Try.underlying29 info3 rfl (by decide) (by omega) u9 IE (rd xT i8) [.int .i64 (rd xT i8)] (fun k_ => some k_ ≠ (.slice tj I6.length sW : Value).ownBlock /\ some k_ ≠ (.slice (some am6) xT.length Ma : Value).ownBlock) (fun _ => False) rfl rfl ?aP (fun _ hk => hk.elim) ?aF ?aO ?aB ?aS ?aL ?_; (case aP => exact rfl); (case aB => exact hB_); (case aF => exact (fun k_ hk => ⟨Kd.fresh' (Kd.R_lt (rK_ DJ.out)) k_ hk, Kd.fresh' (Kd.R_lt (rK_ Bu.out)) k_ hk⟩)); (case aO => exact (rK_ dK.out)); (case aS => exact (fZ_ hB_)); (case aL => have := awR.out; omega); intro bgF w27 ho hb hg hat; rw [<- aWA.out] at ho; replace DJ := Z_ (Kd.R_after (ok := (fun k_ => some k_ ≠ (.slice (some am6) xT.length Ma : Value).ownBlock)) (by (with_reducible repeat (first | apply rN_ | apply rD_)); exact rM_ DJ.out (fun _ hk => ⟨hk.2, hk.1⟩)) hg hat); replace GS := Z_ (Kd.R_over' (rK_ GS.out) (Kd.R_typed (rK_ dK.out)) (by decide) hg); replace Bu := Z_ (Kd.R_after (ok := (fun k_ => some k_ ≠ (.slice tj I6.length sW : Value).ownBlock)) (by (with_reducible repeat (first | apply rN_ | apply rD_)); exact rM_ Bu.out (fun _ hk => ⟨hk.2, hk.1⟩)) hg hat); replace yI := Z_ (blk_grown (g := VV) (o := .cells #[.int .i64 ae, .slice ag ac.length af] 24 (0, 0)) (bR_ yI.out) hg (Kd.R_ne dK.out yI.out (by decide))); replace FZ := Z_ (blk_grown (g := Ee) (o := .cells #[.slice tj I6.length sW, .slice EZ TF.length EX, .slice (some am6) xT.length Ma] 88 (0, 0)) (bR_ FZ.out) hg (Kd.R_ne dK.out FZ.out (by decide))); replace HB := Z_ (hb); have ON := Z_ (ho); clear dK; clear ho hb hg hat; obtain ⟨⟨qL, qK⟩, qH, qG⟩ := f2_ yI.out; have aG5 : 0 <= ((rd xT i8) : Int) := dT_ as_; have aF0 : (rd xT i8) < (ac.length : Int) := dT_ as_; obtain ⟨bca, a8m, ale, ald, alc⟩ := at_T39 ah.out (rd xT i8) aG5 aF0; cases a8m; replace ale := pw_cell_below HB.out ale; replace ald := pw_cell_below HB.out ald; replace alc := pw_cell_below HB.out alc; replace aG5 := eq_true aG5; replace aF0 := eq_true aF0)); (try simp only [Act.put, sT_, sZ_, sS_])
         have H := aXL.out; clear aXL; by_cases c29 : ((rT39 ac (rd xT i8)).f0) = ahv
         .rw [if_pos c29] at H
          obtain ⟨xu, Qu⟩ := be_ c29; clear c29; (try rw [xu])
          obtain ⟨apX, A30, H⟩ := oZ_ H; simp only [oJ_, pI_] at H; obtain ⟨rfl, rfl, rfl⟩ := H; obtain ⟨Ge, EW, L6⟩ := rS_ ON.out; subst L6; go_wp2_with (first | ((with_reducible refine gate_callee (f := 94) rfl ?_); refine gL_ (some 47) Try.func94 #[.slice Ge QP.length EW] ?_; (with_reducible refine (s_Reverse_int_int.calls k1 (fun k_ => some k_ = (.slice Ge QP.length EW : Value).ownBlock) (.slice Ge QP.length EW) QP apX w _ ?side1 ?side2 A30.out).mono ?_); (case side1 => repeat (first | (with_reducible first | exact HB.out | apply fA_ | apply pB_ | apply fD_ | refine fE_ ?_ aX8.out | refine fE_ ?_ aX7.out) | exact HB.out)); (case side2 => exact Kd.R_tight rfl ON.out); rintro e w32 ⟨rfl, hy0, hb, hkp⟩; refine ⟨_, rfl, ?_⟩; replace DJ := Z_ (rM_ (ok' := fun k_ => some k_ ≠ (.slice (some am6) xT.length Ma : Value).ownBlock /\ some k_ ≠ (.slice Ge QP.length EW : Value).ownBlock) (Kd.R_keptB (DJ.out) hkp (fun k_ hk_ hs_ => (hk_.2) hs_)) (fun k_ hk_ => ⟨hk_.1.1, hk_.1.2⟩)); replace GS := Z_ (rM_ (ok' := fun k_ => True) (Kd.R_keptB ((Kd.R_apart' GS.out (Kd.R_typed ON.out) (by decide))) hkp (fun k_ hk_ hs_ => (hk_.2) hs_)) (fun k_ hk_ => trivial)); replace Bu := Z_ (rM_ (ok' := fun k_ => some k_ ≠ (.slice tj I6.length sW : Value).ownBlock /\ some k_ ≠ (.slice Ge QP.length EW : Value).ownBlock) (Kd.R_keptB (Bu.out) hkp (fun k_ hk_ hs_ => (hk_.2) hs_)) (fun k_ hk_ => ⟨hk_.1.1, hk_.1.2⟩)); replace yI := Z_ (blk_kept (bR_ yI.out) hkp (fun hs_ => (fun e_ => (Kd.R_ne ON.out yI.out (by decide)) e_) hs_)); replace FZ := Z_ (blk_kept (bR_ FZ.out) hkp (fun hs_ => (fun e_ => (Kd.R_ne ON.out FZ.out (by decide)) e_) hs_)); replace ON := Z_ (Kd.R_reok rfl hy0 (fun k_ e_ => ON.out.1 k_ e_)); replace HB := Z_ (hb); (try clear hb); (try clear hkp); (try clear hy0))); go_ret3; exact ⟨_, eW_, by (with_reducible repeat (first | apply rN_ | apply rD_)); exact rM_ ON.out (fun _ hk => trivial), hB_⟩
         rw [if_neg c29] at H; obtain ⟨xu, Qu⟩ := bn_ c29; (try rw [xu])
         have H' := Z_ H; clear H; go_wp2; go_roundg k1
         case measure => have := HK1.out; omega
         case rel => exact ⟨(QP), ((rT39 ac (rd xT i8)).f0), rf_, H', ⟨by have := HK1.out; omega⟩, ⟨rK_ ON.out⟩, ⟨by (with_reducible repeat (first | apply rN_ | apply rD_)); exact rM_ DJ.out (fun _ hk => ⟨hk.2, hk.1⟩)⟩, ⟨rK_ GS.out⟩, ⟨by (with_reducible repeat (first | apply rN_ | apply rD_)); exact rM_ Bu.out (fun _ hk => ⟨hk.2, hk.1⟩)⟩, ⟨bR_ yI.out⟩, ⟨bR_ FZ.out⟩, ⟨hB_⟩⟩
        exact nN_ c23 H
       exact nN_ c22 H
      exact nN_ c21 H
     exact nN_ c20 H
    exact nN_ c19 H
 rw [if_neg c7] at H; obtain ⟨pw, IP⟩ := bn_ c7; (try rw [pw])
 simp only [oJ_, pI_] at H; obtain ⟨rfl, rfl, rfl⟩ := H; go_wp2; go_ret3; exact ⟨_, eW_, by first | exact Kd.R_nil _ _ _ _ _ | exact Kd.N_nil _ _ _ _ _ | exact Kd.V_nil _ _ _ _ _ | exact Kd.Q_nil _ _ _ _ _ | exact Kd.S_nil _ _ _ _ _, hB_⟩
def d_CheckPath.j0 : Nat -> Bool -> Option (Int)
 | 0, _ => none
 | k + 1, x55 => if x55 = true then (some 43) else (some 0)
def d_CheckPath.f (k : Nat) (ae : Int) (ac : List (S39)) (a1 : Int) (a2 : Int) (a3 : Int) (l4 : List Int) : Option (Int) := (d_in.f a1 0 (wrap64 (ae - 1))).bind fun Xl => ((d_in.f a2 0 (wrap64 (ae - 1))).bind fun Xk => ((d_indices.f ae ac l4).bind fun Xj => ((d_asked.f k ae ac (([Xl, Xk, Xj] : List Bool))).bind fun TE => (if TE = 0 then ((d_walk.f k ae ac a1 a2 l4).bind fun Qx => (if Qx.2 = true then (if (l4.length : Int) > (wrap64 (ae - 1)) then (d_CheckPath.j0 k true) else (d_CheckPath.j0 k (decide (Qx.1 > a3)))) else (d_CheckPath.j0 k true))) else (some TE)))))
theorem d_CheckPath.mono_l : ∀ k, (∀ y0, LeO (d_CheckPath.j0 k y0) (d_CheckPath.j0 (k + 1) y0))
 | 0 => fun _ r h => by simp [d_CheckPath.j0] at h
 | k + 1 => by
  have ih0 := d_CheckPath.mono_l k; intro y0; unfold d_CheckPath.j0; repeat' first | (with_reducible first | exact ih0 _ | exact d_asked.mono _ _ _ _ | exact d_walk.mono _ _ _ _ _ _ | exact LeO.refl _ | exact LeO.none _ | refine LeO.ite ?_ ?_ | refine LeO.bind ?_ (fun _ => ?_))
theorem d_CheckPath.mono : ∀ a0 a1 a2 a3 a4 a5 k, LeO (d_CheckPath.f k a0 a1 a2 a3 a4 a5) (d_CheckPath.f (k + 1) a0 a1 a2 a3 a4 a5) := by
 intro a0 a1 a2 a3 a4 a5 k; have ih0 := d_CheckPath.mono_l k; unfold d_CheckPath.f; repeat' first | (with_reducible first | exact ih0 _ | exact d_asked.mono _ _ _ _ | exact d_walk.mono _ _ _ _ _ _ | exact LeO.refl _ | exact LeO.none _ | refine LeO.ite ?_ ?_ | refine LeO.bind ?_ (fun _ => ?_))
def d_CheckPath.T1 : Bool × List (List Nat × List Nat) := (true, [([], []), ([], []), ([], []), ([2], [2]), ([3], [3]), ([1, 4], [1, 4]), ([], []), ([], []), ([7], [7]), ([8], [8]), ([6, 9, 5], [6, 9]), ([], []), ([], []), ([11, 12, 10], [11, 12]), ([5, 10, 13], [5, 10, 13]), ([0, 14, 13], [0, 14]), ([15, 15, 0, 1, 2, 3, 4, 5, 6, 7, 8, 9, 10, 11, 12, 13, 14, 15], [15])])
def d_CheckPath.B1 : List Nat := [0, 0, 0, 4, 12, 30, 0, 0, 128, 384, 1022, 0, 0, 8190, 16382, 32767, 65535]
theorem d_CheckPath.tab1 : rtab .any (opsOf Try.f43 1) = d_CheckPath.T1 := by kernel_rfl
theorem d_CheckPath.bits1 : waitsOk d_CheckPath.T1.2 d_CheckPath.B1 = true := by kernel_rfl
theorem d_CheckPath.calls (k : Nat) (ae : Int) (ag : Option Addr) (af : Nat) (ac : List (S39)) (a1 : Int) (a2 : Int) (a3 : Int) (A4 : Option Addr) (c4 : Nat) (l4 : List Int) (r : Int) (w : World) (aA : Kd.C k39 w ag ac.length ac) (aC : ac.length <= af) (hr4 : Kd.C (Kd.int .i64) w A4 l4.length l4) (hc4 : l4.length <= c4) (h : d_CheckPath.f k ae ac a1 a2 a3 l4 = some r) :
  Calls Try.prog 43 #[.agg #[.int .i64 ae, .slice ag ac.length af], .int .i64 a1, .int .i64 a2, .int .i64 a3, .slice A4 l4.length c4] w fun e w' => e = .returned (.int .i64 r) /\ Below w.heap.size w w' := by
 have ja := Try.underlying24; have ah := Z_ aA; have ai := Z_ aC; clear aA aC; have HR4 := Z_ hr4; have HC4 := Z_ hc4; clear hr4 hc4; have HB := Z_ (Below.refl w.heap.size w); have H : ((d_in.f a1 0 (wrap64 (ae - 1))).bind fun Xl => ((d_in.f a2 0 (wrap64 (ae - 1))).bind fun Xk => ((d_indices.f ae ac l4).bind fun Xj => ((d_asked.f k ae ac (([Xl, Xk, Xj] : List Bool))).bind fun TE => (if TE = 0 then ((d_walk.f k ae ac a1 a2 l4).bind fun Qx => (if Qx.2 = true then (if (l4.length : Int) > (wrap64 (ae - 1)) then (d_CheckPath.j0 k true) else (d_CheckPath.j0 k (decide (Qx.1 > a3)))) else (d_CheckPath.j0 k true))) else (some TE)))))) = some r := h; clear h; obtain ⟨Xl, A6, H⟩ := oZ_ H; obtain ⟨Xk, A7, H⟩ := oZ_ H; obtain ⟨Xj, A8, H⟩ := oZ_ H; obtain ⟨aED, ad4⟩ : ∃ y_ : List Bool, y_ = (([Xl, Xk, Xj] : List Bool)) := ⟨_, rfl⟩; replace H : ((d_asked.f k ae ac aED).bind fun TE => (if TE = 0 then ((d_walk.f k ae ac a1 a2 l4).bind fun Qx => (if Qx.2 = true then (if (l4.length : Int) > (wrap64 (ae - 1)) then (d_CheckPath.j0 k true) else (d_CheckPath.j0 k (decide (Qx.1 > a3)))) else (d_CheckPath.j0 k true))) else (some TE))) = some r := by first | (rw [ad4]; with_reducible exact H) | (have H2_ := (oB_ _ _).symm.trans H; rw [ad4]; with_reducible exact H2_) | (have H2_ := (oB_ _ _).symm.trans H; with_reducible exact H2_) | with_reducible exact H | (rw [ad4]; exact H) | exact H
 have aDl := Z_ ad4; clear ad4; obtain ⟨TE, A9, H⟩ := oZ_ H; have GU := Z_ H; clear H; go_enter Try.func43, Try.ntmps43; try go_wp2_with (first | ((with_reducible refine gate_dst (N := 5) rfl ?_); (try (refine gate_guard (by rfl) ?_; dsimp only)); refine bX_ 5 #[.int .i64 ae, .slice ag ac.length af] 24 ?_; intro afE hg w11 hbox hb; have qa := Z_ (hbox); have bdm := Z_ ((by rw [hg]; exact (fZ_ hB_) : w.heap.size <= afE)); have bex := Z_ ((by rw [hg]; exact (fZ_ hB_) : w.heap.size <= afE)); replace HB := Z_ (fS_ hB_ hb); clear hb hbox hg))
 replace qa := Z_ (bD_ qa.out); replace HB := Z_ (fD_ HB.out); refine start_ (n := 17) (S := fun w' => w'.cell? ⟨afE, 0, none⟩ = some (.int .i64 ae) /\ w'.cell? ⟨afE, 1, none⟩ = some (.slice ag ac.length af)) (ds := []) _ (by kernel_rfl) rfl rfl ⟨(bC_ qa.out 0).trans rfl, (bC_ qa.out 1).trans rfl⟩ (fun hHeld => ?_); refine with_tabW d_CheckPath.tab1 d_CheckPath.bits1 (fun HT_ HW_ => ?_); generalize w11.drew = w12 at qa HB hHeld ⊢; refine pP_ 1 15 ?_; refine pP_ 2 16 ?_; refine pP_ 6 20 ?_; refine pP_ 7 21 ?_; refine pP_ 12 26 ?_; refine pT_ 0 14 ?_; refine pT_ 3 17 ?_; refine pP_ 4 18 ?_; refine pT_ 8 22 ?_; refine pP_ 9 23 ?_; refine pT_ 11 25 ?_; refine oN_ 5 (some 19) (fun K hK => ?_); refine gO_ Try.func75 #[.int .i64 a1, .int .i64 0, .int .i64 (wrap64 (ae - 1))] ?_; with_reducible refine (d_in.calls a1 0 (wrap64 (ae - 1)) Xl _ A6.out).mono ?_
 rintro e w' ⟨rfl, ⟨nd, rfl⟩⟩; refine ⟨_, rfl, ?_⟩; refine hK.out _ _ ⟨(bC_ qa.out 0).trans rfl, (bC_ qa.out 1).trans rfl⟩ (fun hHeld => ?_); clear hK K; refine nP_ 19 ?_; refine oN_ 10 (some 24) (fun K hK => ?_); refine gO_ Try.func75 #[.int .i64 a2, .int .i64 0, .int .i64 (wrap64 (ae - 1))] ?_; with_reducible refine (d_in.calls a2 0 (wrap64 (ae - 1)) Xk _ A7.out).mono ?_
 rintro e w' ⟨rfl, ⟨nd, rfl⟩⟩; refine ⟨_, rfl, ?_⟩; refine hK.out _ _ ⟨(bC_ qa.out 0).trans rfl, (bC_ qa.out 1).trans rfl⟩ (fun hHeld => ?_); clear hK K; refine nP_ 24 ?_; refine oN_ 13 (some 27) (fun K hK => ?_); refine gO_ Try.func90 #[.agg #[.int .i64 ae, .slice ag ac.length af], .slice A4 l4.length c4] ?_; with_reducible refine (d_indices.calls ae _ _ ac _ _ l4 Xj _ ?side1 ?side2 ?side3 ?side4 A8.out).mono ?_
 (case side1 => repeat (first | exact (cB_ ah.out hB_) | (with_reducible refine Kd.C_alloc ?_ _) | (with_reducible refine Kd.C_drewN ?_ _) | (with_reducible refine Kd.C_drew ?_)))
 (case side2 => exact ai.out)
 (case side3 => repeat (first | exact (cB_ HR4.out hB_) | (with_reducible refine Kd.C_alloc ?_ _) | (with_reducible refine Kd.C_drewN ?_ _) | (with_reducible refine Kd.C_drew ?_)))
 (case side4 => exact HC4.out)
 rintro e w13 ⟨rfl, hb⟩; refine ⟨_, rfl, ?_⟩; replace qa := Z_ (bS_ qa.out hb); replace HB := Z_ (fS_ hB_ hb); (try clear hb)
 refine hK.out _ _ ⟨(bC_ qa.out 0).trans rfl, (bC_ qa.out 1).trans rfl⟩ (fun hHeld => ?_); clear hK K; refine nP_ 27 ?_; refine oN_ 14 (some 28) (fun K hK => ?_); refine Kd.R_lit_step Kd.bool _ 4 ?hg (N := 28) ?hd (xs := ([Xl, Xk, Xj] : List Bool)) (inner := [.bool Xl, .bool Xk, .bool Xj]) (ok := fun _ => True) (okp := fun _ => True) ?hr ?hp (fun _ hk => hk) trivial (Below.refl _ _) (nR_ _) (by simp) ?_; (case hd => rfl); (case hg => rfl); (case hr => first | (go_simp; done) | (go_simp; rfl)); (case hp => exact (Reps.one (show Kd.M Kd.bool _ _ _ Xl [.bool Xl] from rfl) (Reps.one (show Kd.M Kd.bool _ _ _ Xk [.bool Xk] from rfl) (Reps.one (show Kd.M Kd.bool _ _ _ Xj [.bool Xj] from rfl) (Reps.none _ _))))); intro bgE w14 arB hb hg_ hnew_; clear hg_ hnew_; (first | rw [<- aDl.out] at arB | (simp only [Int.reduceToNat] at arB; rw [<- aDl.out] at arB))
 have WD := Z_ (rL_ arB (fZ_ hB_)); replace qa := Z_ (bS_ qa.out hb); replace HB := Z_ (fS_ hB_ hb); clear hb arB; obtain ⟨EZ, EX, Xv⟩ := rS_ WD.out; (first | subst Xv | (injection Xv with f1_ f2_ f3_; have f4_ := f1_.symm; have f5_ := f3_.symm; clear f1_ f2_ f3_; subst f4_; subst f5_))
 refine hK.out _ _ ⟨(bC_ qa.out 0).trans rfl, (bC_ qa.out 1).trans rfl⟩ (fun hHeld => ?_); clear hK K; refine nP_ 28 ?_; refine oN_ 15 (some 29) (fun K hK => ?_); refine gO_ Try.func77 #[.agg #[.int .i64 ae, .slice ag ac.length af], .slice EZ aED.length EX] ?_; with_reducible refine (d_asked.calls k ae _ _ ac _ _ aED TE _ ?side1 ?side2 ?side3 ?side4 A9.out).mono ?_
 (case side1 => exact cS_ (cB_ ah.out HB.out))
 (case side2 => exact ai.out)
 (case side3 => exact cS_ (rR_ WD.out).2.2)
 (case side4 => exact (rR_ WD.out).2.1)
 rintro e w17 ⟨rfl, hb⟩; refine ⟨_, rfl, ?_⟩; replace WD := Z_ (rB_ (rK_ WD.out) hb); replace qa := Z_ (bS_ qa.out hb); replace HB := Z_ (fS_ hB_ hb); (try clear hb)
 refine hK.out _ _ ⟨(bC_ qa.out 0).trans rfl, (bC_ qa.out 1).trans rfl⟩ (fun hHeld => ?_); clear hK K; refine nP_ 29 ?_; refine pP_ 16 11 ?_; refine dN_ ?_; go_upto_if 31 with (fail); have H := GU.out; clear GU; by_cases c18 : TE = 0
 .rw [if_pos c18] at H
  obtain ⟨mP, Ou⟩ := be_ c18; clear c18; (try rw [mP])
  replace H := oS_.mp H; obtain ⟨⟨aLZ, aLY⟩, G1, H⟩ := H; have A19 := Z_ G1; clear G1; have aKN := Z_ H; clear H; obtain ⟨⟨hJ, g8⟩, g7, gZ⟩ := f2_ qa.out; go_upto_region 5 with (first | ((with_reducible refine gate_callee (f := 91) rfl ?_); refine gL_ (some 38) Try.func91 #[.agg #[.int .i64 ae, .slice ag ac.length af], .int .i64 a1, .int .i64 a2, .slice A4 l4.length c4] ?_; (with_reducible refine (d_walk.calls k ae _ _ ac a1 a2 _ _ l4 aLZ aLY _ ?side1 ?side2 ?side3 ?side4 A19.out).mono ?_); (case side1 => exact cS_ (cB_ ah.out HB.out)); (case side2 => exact ai.out); (case side3 => exact cS_ (cB_ HR4.out HB.out)); (case side4 => exact HC4.out); rintro e w22 ⟨rfl, hb⟩; refine ⟨_, rfl, ?_⟩; replace WD := Z_ (rB_ (rK_ WD.out) hb); replace qa := Z_ (bS_ qa.out hb); replace HB := Z_ (fS_ hB_ hb); (try clear hb))); (try simp only [Act.put, sT_, sZ_, sS_])
  go_cut [55] (fun v55 wc => ∃ (kq : Nat) (ZD : Bool), v55 = .bool ZD /\ Aside0 (d_CheckPath.j0 kq ZD = some r) /\ Aside0 (kq <= k) /\ Aside0 (wc.heap[afE]? = some (.cells #[.int .i64 ae, (.slice ag ac.length af)] 24 (0, 0))) /\ Aside0 (Below w.heap.size w wc))
  case first =>
   have H := aKN.out; clear aKN; by_cases c23 : aLY = true
   .subst c23
    rw [if_pos rfl] at H; by_cases c24 : (l4.length : Int) > (wrap64 (ae - 1))
    .rw [if_pos c24] at H
     replace c24 : decide ((wrap64 (ae - 1)) < (l4.length : Int)) = true := eT_ c24; (try rw [c24])
     have H' := Z_ H; clear H; obtain ⟨⟨gD, gC⟩, gz, gy⟩ := f2_ qa.out; go_wp2; go_meet
     case rel => exact ⟨_, (true), rf_, H', ⟨oL_⟩, ⟨bR_ qa.out⟩, ⟨hB_⟩⟩
    rw [if_neg c24] at H; replace c24 : decide ((wrap64 (ae - 1)) < (l4.length : Int)) = false := eF_ c24; (try rw [c24])
    have H' := Z_ H; clear H; obtain ⟨⟨oh, og⟩, oc, ob⟩ := f2_ qa.out; go_wp2; go_meet
    case rel => exact ⟨_, (decide (aLZ > a3)), rf_, H', ⟨oL_⟩, ⟨bR_ qa.out⟩, ⟨hB_⟩⟩
   replace c23 := bE_.mpr c23; subst c23; have H1 : (d_CheckPath.j0 k true) = some r := by rw [if_neg (show ¬ (false = true) by decide)] at H; exact H
   clear H; have H := H1; clear H1; have H' := Z_ H; clear H; go_wp2; go_meet
   case rel => exact ⟨_, (true), rf_, H', ⟨oL_⟩, ⟨bR_ qa.out⟩, ⟨hB_⟩⟩
  case rest =>
   clear aKN; obtain ⟨kq, ZD, rfl, HA, bid, qa, HB⟩ := hcut
   cases kq with
   | zero => exact absurd HA.out (by simp [d_CheckPath.j0])
   | succ bhd =>
    have H := HA.out; clear HA; simp only [d_CheckPath.j0] at H; by_cases c27 : ZD = true
    .subst c27
     rw [if_pos rfl] at H; obtain rfl := oI_ H; go_wp2; go_ret; exact ⟨eW_, hB_⟩
    replace c27 := bE_.mpr c27; subst c27; have H1 : (some 0) = some r := by rw [if_neg (show ¬ (false = true) by decide)] at H; exact H
    clear H; have H := H1; clear H1; obtain rfl := oI_ H; go_wp2; go_ret; exact ⟨eW_, hB_⟩
 rw [if_neg c18] at H; obtain ⟨mP, Ou⟩ := bn_ c18; (try rw [mP])
 obtain rfl := oI_ H; go_wp2; go_ret; exact ⟨eW_, hB_⟩
end Go.Proofs.Ytpolojoeabmhdaa.A
