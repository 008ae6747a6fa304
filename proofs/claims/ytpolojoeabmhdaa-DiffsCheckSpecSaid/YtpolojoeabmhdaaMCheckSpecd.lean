import Derived.Test.YtpolojoeabmhdaaMZcoreHFacts
import Derived.Test.YtpolojoeabmhdaaMCheckSpeca
import Derived.Test.YtpolojoeabmhdaaMCheckSpecb
import Derived.Test.YtpolojoeabmhdaaMCheckSpecc
import Derived.Test.YtpolojoeabmhdaaMZcoref
import Derived.Test.YtpolojoeabmhdaaMZcoreh
import Derived.Test.YtpolojoeabmhdaaRows
set_option linter.unusedVariables false
set_option linter.unusedSimpArgs false
/- DiffsCheckSpec, over numbers and lists alone. -/
namespace Go.Proofs.Ytpolojoeabmhdaa.A
open Go.RowKit Go.Proofs.YtpolojoeabmhdaaW.PrintWords Go.Proofs.YtpolojoeabmhdaaW.PrintLast Go.Proofs.YtpolojoeabmhdaaW.PrintMore
section
variable {n : Nat} {L : List S39}
theorem rholds_ev (hV : Valid n L) (x : List Int) : ∃ b e, Ev (fun k => snowlineref04_Holds.f k n L x) (b, e) ∧ (b = true ↔ Ful n L x) ∧ (¬ NumOk n x → e = 1) ∧ (NumOk n x → e = 0) := by
  have hn2 := hV.n2
  have hc := rcheck_ev n L
  rw [if_pos (validB_iff.2 hV)] at hc
  obtain ⟨p, p1, p2⟩ := rnumbers_ev n (by omega) L x
  unfold snowlineref04_Holds.f
  cases p with
  | false => exact ⟨false, 1, hc.bind (Ev.pos rfl (p1.bind (Ev.neg (by decide) (Ev.now _)))), ⟨fun h => (by cases h), fun h => p2.2 h.num⟩, fun _ => rfl, fun h => absurd (p2.2 h) (by decide)⟩
  | true =>
    obtain ⟨b, b1, b2⟩ := rful_ev hV x
    exact ⟨b, 0, hc.bind (Ev.pos rfl (p1.bind (Ev.pos rfl (b1.bind (Ev.now _))))), b2, fun h => absurd (p2.1 rfl) h, fun _ => rfl⟩
theorem rholds_bad {m : Int} (hv : ¬ validB m L = true) (x : List Int) : Ev (fun k => snowlineref04_Holds.f k m L x) (false, 40) := by
  have hc := rcheck_ev m L
  rw [if_neg hv] at hc
  unfold snowlineref04_Holds.f
  exact hc.bind (Ev.neg (by decide) (Ev.now _))
theorem rhigher_l0 {x y : List Int} (hx : x.length = n) (hy : y.length = n) (hn : n ≤ 256) : ∀ (q : Nat) (i : Int) (z : List Int), (q : Int) + i = n → 0 ≤ i → (z.length : Int) = i → (∀ v, 0 ≤ v → v < i → rd z v = mx (rd x v) (rd y v)) →
    ∃ z', Ev (fun k => snowlineref04_Higher.l0 k x y z i) (z', 0) ∧ (z'.length : Int) = n ∧ ∀ v, 0 ≤ v → v < (n : Int) → rd z' v = mx (rd x v) (rd y v) := by
  intro q
  induction q with
  | zero =>
    intro i z hq h0 hz hv
    exact ⟨z, Ev.step (f := fun _ => some (z, 0)) (fun k => by rw [snowlineref04_Higher.l0, if_neg (by omega)]) (Ev.now _), by omega, fun v v0 v1 => hv v v0 (by omega)⟩
  | succ q ih =>
    intro i z hq h0 hz hv
    obtain ⟨z', g1, g2⟩ := ih (i + 1) (z ++ [mx (rd x i) (rd y i)]) (by omega) (by omega) (by rw [List.length_append]; simp; omega) (fun v v0 v1 => by
      unfold rd at *
      by_cases e : v = i
      · rw [List.getD_eq_getElem?_getD, List.getElem?_append_right (by omega), show v.toNat - z.length = 0 from by omega, e]; rfl
      · rw [List.getD_eq_getElem?_getD, List.getElem?_append_left (by omega), ← List.getD_eq_getElem?_getD]
        exact hv v v0 (by omega))
    refine ⟨z', Ev.step (fun k => ?_) g1, g2⟩
    rw [snowlineref04_Higher.l0, if_pos (by omega), if_pos h0, if_pos (by omega), if_pos (by omega), wrap_id (x := i + 1) (by omega) (by omega)]
theorem rhigher_ev (hV : Valid n L) (x y : List Int) : ∃ z e, Ev (fun k => snowlineref04_Higher.f k n L x y) (z, e) ∧ HigherIs n L x y z e := by
  have hn2 := hV.n2
  have hc := rcheck_ev n L
  rw [if_pos (validB_iff.2 hV)] at hc
  obtain ⟨p, p1, p2⟩ := rnumbers_ev n (by omega) L x
  obtain ⟨q, q1, q2⟩ := rnumbers_ev n (by omega) L y
  have hT : Ev (fun k => snowlineref04_Higher.j0 k x y true n L) ([], 1) := Ev.step (f := fun _ => some ([], 1)) (fun k => by rw [snowlineref04_Higher.j0]; rfl) (Ev.now _)
  have hT1 : Ev (fun k => snowlineref04_Higher.j1 k x y true) ([], 43) := Ev.step (f := fun _ => some ([], 43)) (fun k => by rw [snowlineref04_Higher.j1]; rfl) (Ev.now _)
  unfold snowlineref04_Higher.f
  cases p with
  | false => exact ⟨[], 1, hc.bind (Ev.pos rfl (p1.bind (Ev.neg (by decide) hT))), fun _ => ⟨rfl, rfl⟩, fun h => absurd (p2.2 h.1) (by decide), fun h => absurd (p2.2 h.1.num) (by decide)⟩
  | true =>
    cases q with
    | false => exact ⟨[], 1, hc.bind (Ev.pos rfl (p1.bind (Ev.pos rfl (q1.bind hT)))), fun _ => ⟨rfl, rfl⟩, fun h => absurd (q2.2 h.2) (by decide), fun h => absurd (q2.2 h.2.num) (by decide)⟩
    | true =>
      have hx := p2.1 rfl
      have hy := q2.1 rfl
      obtain ⟨b, b1, b2⟩ := rful_ev hV x
      obtain ⟨c, c1, c2⟩ := rful_ev hV y
      have hin : ∀ {r}, Ev (fun k => (snowlineref04_Fulfils.f k n L x).bind fun t1307 => (if t1307 = true then ((snowlineref04_Fulfils.f k n L y).bind fun t1308 => (snowlineref04_Higher.j1 k x y (!t1308))) else (snowlineref04_Higher.j1 k x y true))) r → Ev (fun k => (snowlineref04_Check.f k n L).bind fun t1304 => (if t1304 = 0 then ((snowlineref04_Numbers.f k n L x).bind fun t1305 => (if t1305 = true then ((snowlineref04_Numbers.f k n L y).bind fun t1306 => (snowlineref04_Higher.j0 k x y (!t1306) n L)) else (snowlineref04_Higher.j0 k x y true n L))) else (some (([] : List Int), 40)))) r := fun h =>
        hc.bind (Ev.pos rfl (p1.bind (Ev.pos rfl (q1.bind (Ev.step (fun k => by rw [snowlineref04_Higher.j0, if_neg (by decide)]) h)))))
      cases b with
      | false => exact ⟨[], 43, hin (b1.bind (Ev.neg (by decide) hT1)), fun h => absurd ⟨hx, hy⟩ h, fun _ _ => ⟨rfl, rfl⟩, fun h => absurd (b2.2 h.1) (by decide)⟩
      | true =>
        cases c with
        | false => exact ⟨[], 43, hin (b1.bind (Ev.pos rfl (c1.bind hT1))), fun h => absurd ⟨hx, hy⟩ h, fun _ _ => ⟨rfl, rfl⟩, fun h => absurd (c2.2 h.2) (by decide)⟩
        | true =>
          have hlx := hx.l
          have hly := hy.l
          obtain ⟨z, g1, g2, g3⟩ := rhigher_l0 (x := x) (y := y) (n := n) (by omega) (by omega) (by omega) n 0 [] (by omega) (by omega) (by simp) (fun v v0 v1 => by omega)
          refine ⟨z, 0, hin (b1.bind (Ev.pos rfl (c1.bind (Ev.step (f := fun k => snowlineref04_Higher.l0 k x y [] 0) (fun k => ?_) g1)))), fun h => absurd ⟨hx, hy⟩ h, fun _ h => absurd ⟨b2.1 rfl, c2.1 rfl⟩ h, fun _ => ⟨rfl, g2, g3⟩⟩
          rw [snowlineref04_Higher.j1, if_neg (by decide)]
theorem rhigher_bad {m : Int} (hv : ¬ validB m L = true) (x y : List Int) : Ev (fun k => snowlineref04_Higher.f k m L x y) ([], 40) := by
  have hc := rcheck_ev m L
  rw [if_neg hv] at hc
  unfold snowlineref04_Higher.f
  exact hc.bind (Ev.neg (by decide) (Ev.now _))
theorem HigherIs.unique {x y z z' : List Int} {e e' : Int} (h : HigherIs n L x y z e) (h' : HigherIs n L x y z' e') : z = z' ∧ e = e' := by
  by_cases hA : NumOk n x ∧ NumOk n y
  · by_cases hF : Ful n L x ∧ Ful n L y
    · obtain ⟨rfl, h1, h2⟩ := h.yes hF
      obtain ⟨rfl, h3, h4⟩ := h'.yes hF
      exact ⟨ext_rd (by omega) (fun v v0 v1 => by rw [h2 v v0 (by omega), h4 v v0 (by omega)]), rfl⟩
    · obtain ⟨rfl, rfl⟩ := h.no hA hF
      obtain ⟨rfl, rfl⟩ := h'.no hA hF
      exact ⟨rfl, rfl⟩
  · obtain ⟨rfl, rfl⟩ := h.arg hA
    obtain ⟨rfl, rfl⟩ := h'.arg hA
    exact ⟨rfl, rfl⟩
end
theorem with_l0 (n : Int) (L : List S39) (hL : L.length ≤ 65536) (d : S39) : ∀ (q i : Nat), q + i = L.length →
    Ev (fun k => snowlineref04_With.l0 k (L.take i) i n L d.f0 d.f1 d.f2) (n, L ++ [d]) := by
  intro q
  induction q with
  | zero =>
    intro i hq
    refine Ev.step (f := fun _ => some (n, L ++ [d])) (fun k => ?_) (Ev.now _)
    rw [snowlineref04_With.l0, if_neg (by omega), if_pos (by rw [List.length_take]; omega), List.take_of_length_le (by omega)]
  | succ q ih =>
    intro i hq
    refine Ev.step (fun k => ?_) (ih (i + 1) (by omega))
    have e1 : rd_T39 L (i : Int) = L[i]'(by omega) := by
      unfold rd_T39
      rw [List.getD_eq_getElem?_getD, Int.toNat_natCast, List.getElem?_eq_getElem (by omega)]; rfl
    rw [snowlineref04_With.l0, if_pos (by omega), if_pos (by omega), if_pos (by rw [List.length_take]; omega), wrap_id (by omega) (by omega), e1, take_snoc L i (by omega)]
    rfl
theorem same_l0 (n m : Int) (L : List S39) (hL : L.length ≤ 65536) : ∀ (q : Nat) (i : Int), (q : Int) + i = L.length → 0 ≤ i →
    Ev (fun k => snowlineref04_SameNets.l0 k i n L m L) true := by
  intro q
  induction q with
  | zero =>
    intro i hq h0
    exact Ev.step (f := fun _ => some true) (fun k => by rw [snowlineref04_SameNets.l0, if_neg (by omega)]) (Ev.now _)
  | succ q ih =>
    intro i hq h0
    refine Ev.step (fun k => ?_) (ih (i + 1) (by omega) (by omega))
    rw [snowlineref04_SameNets.l0, if_pos (by omega), if_pos h0, if_pos (by omega), if_neg (by simp), wrap_id (x := i + 1) (by omega) (by omega)]
theorem same_ev (n : Int) (L : List S39) (hL : L.length ≤ 65536) : Ev (fun k => snowlineref04_SameNets.f k n L n L) true := by
  unfold snowlineref04_SameNets.f
  refine Ev.pos rfl ?_
  simp only [bne_self_eq_false]
  exact Ev.step (f := fun k => snowlineref04_SameNets.l0 k 0 n L n L) (fun k => by rw [snowlineref04_SameNets.j0, if_neg (by decide)]) (same_l0 n n L hL L.length 0 (by omega) (by omega))
theorem adds (n : Int) (L : List S39) (d : S39) : ∃ r : Int × List S39 × Int, Ev (fun k => diffs_Add.f k n L d.f0 d.f1 d.f2) r ∧ Ev (fun k => snowlineref04_Add.f k n L d.f0 d.f1 d.f2) r ∧ r.2.1.length ≤ 65536 := by
  have hc := check_ev n L
  have hr := rcheck_ev n L
  unfold diffs_Add.f snowlineref04_Add.f
  by_cases hv : validB n L = true
  case neg =>
    rw [if_neg hv] at hc hr
    exact ⟨(0, [], 40), hc.bind (Ev.neg (by decide) (Ev.now _)), hr.bind (Ev.neg (by decide) (Ev.now _)), by simp⟩
  rw [if_pos hv] at hc hr
  have hV := validB_iff.1 hv
  have hn1 := hV.n1
  have hn2 := hV.n2
  have hl := hV.l
  by_cases c1 : (L.length : Int) = 4096
  · exact ⟨(0, [], 2), hc.bind (Ev.pos rfl (Ev.pos c1 (Ev.now _))), hr.bind (Ev.pos rfl (Ev.pos c1 (Ev.now _))), by simp⟩
  simp only [right_some d n hn1 hn2, rvalid_some, Option.bind_some]
  by_cases c2 : edgeB n d = true
  · refine ⟨(n, L ++ [d], 0), hc.bind (Ev.pos rfl (Ev.neg c1 (Ev.pos c2 ?_))), hr.bind (Ev.pos rfl (Ev.neg c1 (Ev.pos c2 ?_))), by simp; omega⟩
    · unfold api_Diff_62.f
      rw [if_pos (by omega)]
      simp only [Option.bind_some]
      exact Ev.pos (by simp; omega) (Ev.now _)
    · have := with_l0 n L (by omega) d L.length 0 (by omega)
      rw [List.take_zero] at this
      exact Ev.bind this (Ev.now _)
  · exact ⟨(0, [], 40), hc.bind (Ev.pos rfl (Ev.neg c1 (Ev.neg c2 (Ev.now _)))), hr.bind (Ev.pos rfl (Ev.neg c1 (Ev.neg c2 (Ev.now _)))), by simp⟩
theorem checkspec_ev (n : Int) (L : List S39) (d0 d1 d2 : Int) (x y : List Int) : Ev (fun k => snowlinelaw04_DiffsCheckSpec.f k n L d0 d1 d2 x y) true := by
  unfold snowlinelaw04_DiffsCheckSpec.f snowlinelaw04_sane.f
  simp only [Option.bind_some, if_true]
  obtain ⟨r, a1, a2, a3⟩ := adds n L ⟨d0, d1, d2⟩
  have hc := check_ev n L
  have hr := rcheck_ev n L
  have hH : ∃ b e, Ev (fun k => diffs_Holds.f k n L x) (b, e) ∧ Ev (fun k => snowlineref04_Holds.f k n L x) (b, e) := by
    by_cases hv : validB n L = true
    · have hV := validB_iff.1 hv
      obtain ⟨N, rfl⟩ : ∃ N : Nat, n = N := ⟨n.toNat, by have := hV.n1; omega⟩
      obtain ⟨b, e, h1, h2, h3, h4⟩ := holds_ev hV x
      obtain ⟨b', e', g1, g2, g3, g4⟩ := rholds_ev hV x
      have eb : b = b' := by rw [Bool.eq_iff_iff, h2, g2]
      have ee : e = e' := by
        by_cases hx : NumOk N x
        · rw [h4 hx, g4 hx]
        · rw [h3 hx, g3 hx]
      subst eb ee
      exact ⟨b, e, h1, g1⟩
    · exact ⟨false, 40, holds_bad hv x, rholds_bad hv x⟩
  have hG : ∃ z e, Ev (fun k => diffs_Higher.f k n L x y) (z, e) ∧ Ev (fun k => snowlineref04_Higher.f k n L x y) (z, e) ∧ z.length ≤ 65536 := by
    by_cases hv : validB n L = true
    · have hV := validB_iff.1 hv
      obtain ⟨N, rfl⟩ : ∃ N : Nat, n = N := ⟨n.toNat, by have := hV.n1; omega⟩
      have hn2 := hV.n2
      obtain ⟨z, e, h1, h2⟩ := higher_ev hV x y
      obtain ⟨z', e', g1, g2⟩ := rhigher_ev hV x y
      obtain ⟨rfl, rfl⟩ := h2.unique g2
      refine ⟨z, e, h1, g1, ?_⟩
      by_cases hA : NumOk N x ∧ NumOk N y
      · by_cases hF : Ful N L x ∧ Ful N L y
        · have := (h2.yes hF).2.1; omega
        · rw [(h2.no hA hF).1]; simp
      · rw [(h2.arg hA).1]; simp
    · exact ⟨[], 40, higher_bad hv x y, rhigher_bad hv x y, by simp⟩
  obtain ⟨b, e, b1, b2⟩ := hH
  obtain ⟨z, f, z1, z2, z3⟩ := hG
  obtain ⟨q, q1, q2⟩ := equal_ev z z (by omega)
  obtain rfl := q2.2 rfl
  refine a1.bind (a2.bind (b1.bind (b2.bind (z1.bind (z2.bind (hc.bind (hr.bind (Ev.pos rfl ((same_ev r.1 r.2.1 a3).bind (Ev.pos rfl (Ev.pos rfl (Ev.pos (by simp) (Ev.pos rfl (q1.bind (Ev.pos rfl ?_)))))))))))))))
  simp only [beq_self_eq_true]
  exact Ev.now _
end Go.Proofs.Ytpolojoeabmhdaa.A
/- DiffsCheckSpec: for every input the law answers true, and what came in reads as it did. No conditions. -/
namespace Go.Proofs.Ytpolojoeabmhdaa.diffsCheckSpec
open Go.ChangeShapes Go.WideShapes Go.ChangeAt Go.RowKit
open Go.Proofs.Ytpolojoeabmhdaa.A
open Go.Proofs.YtpolojoeabmhdaaW.PrintWords
set_option maxRecDepth 100000 in
theorem lifted (os : Os) (started : os.Started) (H : Type) (enc : TypeId × Value → H) :
    ReturnsInHanded {} Try.checked os 20 .any (Rows.diffsCheckSpecSpec.pre6 enc Try.prog Try.f20 Rows.diffsCheckSpecRow.domain false) (Rows.diffsCheckSpecSpec.post enc Try.prog Try.f20 false true false false) := by
  refine returnsInHanded_of_change_sized (C := Try.checked) own started (by kernel_rfl) Try.func20
    (ChangeSpec.witness6 (enc := enc) (C := Try.checked) false ⟨#[], #[.agg #[.int .i64 0, .slice none 0 0], .agg #[.int .i64 0, .int .i64 0, .int .i64 0], .slice none 0 0, .slice none 0 0], []⟩ 8 (by kernel_rfl) (by kernel_rfl) (by kernel_rfl) (by kernel_rfl)) ?_
  intro W base args ds gs before hval0 hW hcnd hsz0 _
  have hsz : (DataW.weightsEach Try.prog (Try.f20.params.toList ++ Rows.diffsCheckSpecSpec.plain.varTypes Try.prog) (ds ++ gs)).all (· ≤ reachBytes) = true := hsz0
  have hval : ∀ (j : Nat) t v, Try.f20.params[j]? = some t → args[j]? = some v → Value.okWide Try.prog W .any base t v := hval0
  have hW' := hW
  obtain ⟨p, q, hA0, hV, rfl, hfz, hnd⟩ := hW
  have hA : DataW.TrodAll enc Try.prog W 0 (fun _ => true) true Try.f20.params.toList args.toList ds p := hA0
  rw [Try.params20] at hA hval hsz
  obtain ⟨v0, vs0, d0, ds0, p0, q0, hargs, rfl, rfl, h0, r0⟩ := trodAll_cons hA
  obtain ⟨v1, vs1, d1, ds1, p1, q1, rfl, rfl, rfl, h1, r1⟩ := trodAll_cons r0
  obtain ⟨v2, vs2, d2, ds2, p2, q2, rfl, rfl, rfl, h2, r2⟩ := trodAll_cons r1
  obtain ⟨v3, vs3, d3, ds3, p3, q3, rfl, rfl, rfl, h3, r3⟩ := trodAll_cons r2
  obtain ⟨rfl, rfl, rfl⟩ := trodAll_nil r3
  obtain rfl : args = #[v0, v1, v2, v3] := by cases args; simp_all
  obtain ⟨rfl, rfl⟩ := trodVars_none hV
  have k0 := h0
  have lt0 : ∀ x ∈ p0, x.block < W.heap.size := by obtain ⟨m, hm⟩ := k0; exact DataW.trod_lt m _ _ _ hm
  obtain ⟨n0, A0, l0, c0, rfl, hC0, hc0, wz0, sz0⟩ := open_net (hval 0 24 v0 rfl rfl) h0
  have k1 := h1
  have lt1 : ∀ x ∈ p1, x.block < W.heap.size := by obtain ⟨m, hm⟩ := k1; exact DataW.trod_lt m _ _ _ hm
  obtain ⟨u1_0, u1_1, u1_2, s1_0, s1_1, s1_2, m1, rfl, rfl, _, t1_0, t1_1, t1_2⟩ := Go.Joins.open_agg3 Try.underlying39 (by kernel_rfl) (by kernel_rfl) (hval 1 39 v1 rfl rfl) h1
  obtain ⟨x1, e1_0, _, _⟩ := DataW.trod_int Try.underlying3 t1_0
  obtain ⟨y1, e1_1, _, _⟩ := DataW.trod_int Try.underlying3 t1_1
  obtain ⟨z1, e1_2, _, _⟩ := DataW.trod_int Try.underlying3 t1_2
  simp only [List.cons.injEq, and_true] at e1_0 e1_1 e1_2
  subst e1_0 e1_1 e1_2
  have k2 := h2
  have lt2 : ∀ x ∈ p2, x.block < W.heap.size := by obtain ⟨m, hm⟩ := k2; exact DataW.trod_lt m _ _ _ hm
  obtain ⟨A2, l2, c2, rfl, hC2, hc2, wz2⟩ := open_list (hval 2 29 v2 rfl rfl) h2
  have k3 := h3
  have lt3 : ∀ x ∈ p3, x.block < W.heap.size := by obtain ⟨m, hm⟩ := k3; exact DataW.trod_lt m _ _ _ hm
  obtain ⟨A3, l3, c3, rfl, hC3, hc3, wz3⟩ := open_list (hval 3 29 v3 rfl rfl) h3
  obtain ⟨rk, hk⟩ := Ev.rounds (checkspec_ev n0 l0 x1 y1 z1 l2 l3)
  clear hA0 hval0 hsz0 hsz
  refine (snowlinelaw04_DiffsCheckSpec.calls rk n0 A0 c0 l0 x1 y1 z1 A2 c2 l2 A3 c3 l3 true W hC0 hc0 hC2 hc2 hC3 hc3 hk).mono fun e W' ⟨he, bel⟩ => ?_
  subst he
  exact ⟨_, rfl, _, _, _, [], _, [], hW', trodAll_mk1 (shut_bool Try.underlying4 _), (trodAll_cons_mk (Below.trod laidOut (by kernel_rfl) (of_decide_eq_true (by kernel_rfl)) k0 bel lt0) (trodAll_cons_mk (Below.trod laidOut (by kernel_rfl) (of_decide_eq_true (by kernel_rfl)) k1 bel lt1) (trodAll_cons_mk (Below.trod laidOut (by kernel_rfl) (of_decide_eq_true (by kernel_rfl)) k2 bel lt2) (trodAll_cons_mk (Below.trod laidOut (by kernel_rfl) (of_decide_eq_true (by kernel_rfl)) k3 bel lt3) trodAll_mk0)))), rfl, bel.frame _, fun h => by cases h⟩
theorem joined : joinedFacts Try.prog 20 Try.f20 Rows.diffsCheckSpecSpec Rows.diffsCheckSpecRow = true := (andB (andB (andB (andB (andB (andB (andB (andB (andB (andB (andB (andB (andB (andB (andB (andB (andB (andB (andB (andB (andB (andB (andB (andB (andB (andB (andB (andB (andB (andB (andB (by kernel_rfl) laidOut) pMapsRowed) (by kernel_rfl)) (by kernel_rfl)) (by kernel_rfl)) pStops) (by kernel_rfl)) pKnobs) (by kernel_rfl)) (by kernel_rfl)) (by kernel_rfl)) (by kernel_rfl)) (by kernel_rfl)) (by kernel_rfl)) (by kernel_rfl)) (by kernel_rfl)) (by kernel_rfl)) (by kernel_rfl)) (by kernel_rfl)) (by kernel_rfl)) (by kernel_rfl)) pPlain) (by kernel_rfl)) pHeard) pEnter) pLifted) pMake) (by kernel_rfl)) (by kernel_rfl)) (by kernel_rfl)) (by kernel_rfl))
theorem over : Rows.diffsCheckSpecRow.holds Try.pinned (OpenSpec.ofChange Rows.diffsCheckSpecSpec) :=
  OpenClaim.holds_of_wide 20 Try.f20 rfl rfl rfl rfl rfl rfl rfl ⟨rfl, rfl, rfl, rfl, rfl⟩ rfl rfl rfl rfl rfl (by kernel_rfl) Try.func20 joined
    (of_decide_eq_true (by kernel_rfl)) (by unfold Func.isWrapper; first | (rw [if_pos (by decide +kernel)]; kernel_rfl) | (rw [if_neg (by decide +kernel)]; exact ⟨rfl, rfl⟩))
    (fun os started H enc _ => lifted os started H enc)
theorem proved : Rows.DiffsCheckSpecSaid := over
#print axioms proved
end Go.Proofs.Ytpolojoeabmhdaa.diffsCheckSpec
namespace Go.Proofs.Ytpolojoeabmhdaa
/-- The row, under a short name, for the claim. -/
theorem diffsCheckSpec_holds : Rows.DiffsCheckSpecSaid := diffsCheckSpec.proved
end Go.Proofs.Ytpolojoeabmhdaa
