import Derived.Test.YtpolojoeabmhdaaMZcoreHFacts
import Derived.Test.YtpolojoeabmhdaaMAddedb
import Derived.Test.YtpolojoeabmhdaaMZcorei
import Derived.Test.YtpolojoeabmhdaaMZflowa
import Derived.Test.YtpolojoeabmhdaaRows
set_option linter.unusedVariables false
set_option linter.unusedSimpArgs false
/- DiffsAdded, over numbers and lists alone. -/
namespace Go.Proofs.Ytpolojoeabmhdaa.A
open Go.RowKit Go.Proofs.YtpolojoeabmhdaaW.PrintWords Go.Proofs.YtpolojoeabmhdaaW.PrintLast Go.Proofs.YtpolojoeabmhdaaW.PrintMore
theorem small_some (n : Int) (L : List S39) : snowlinelaw04_small.f n L = some (decide (n ≤ 16 ∧ L.length ≤ 60)) := by
  unfold snowlinelaw04_small.f
  by_cases h : n ≤ 16
  · rw [if_pos h]
    congr 1
    exact decide_eq_decide.2 (by omega)
  · rw [if_neg h]
    congr 1
    rw [decide_eq_false]
    omega
def addL (F G : List Int) : List Int := List.zipWith (· + ·) F G
theorem addL_len {F G : List Int} (h : F.length = G.length) : (addL F G).length = F.length := by unfold addL; rw [List.length_zipWith]; omega
theorem rd_addL {F G : List Int} (h : F.length = G.length) {k : Int} (k0 : 0 ≤ k) (k1 : k < F.length) : rd (addL F G) k = rd F k + rd G k := by
  unfold rd addL
  rw [List.getD_eq_getElem?_getD, List.getD_eq_getElem?_getD, List.getD_eq_getElem?_getD, List.getElem?_zipWith, List.getElem?_eq_getElem (by omega), List.getElem?_eq_getElem (by omega)]
  rfl
theorem netF_addL : ∀ (D : List S39) (F G : List Int) (v : Int), F.length = D.length → G.length = D.length → netF D (addL F G) v = netF D F v + netF D G v
  | [], F, G, v, h1, h2 => by
    cases F with
    | nil => rfl
    | cons _ _ => simp at h1
  | d :: ds, [], G, v, h1, h2 => by simp at h1
  | d :: ds, f :: fs, [], v, h1, h2 => by simp at h2
  | d :: ds, f :: fs, g :: gs, v, h1, h2 => by
    have ih := netF_addL ds fs gs v (by simpa using h1) (by simpa using h2)
    have e : addL (f :: fs) (g :: gs) = (f + g) :: addL fs gs := rfl
    rw [e]
    simp only [netF]
    rw [ih]
    split <;> split <;> omega
theorem Feas.add {n : Nat} {D : List S39} {w1 w2 w F G : List Int} (h1 : Feas n D w1 F) (h2 : Feas n D w2 G) (hw : ∀ v, 1 ≤ v → v < (n : Int) → rd w v = rd w1 v + rd w2 v) : Feas n D w (addL F G) where
  lf := by rw [addL_len (by rw [h1.lf, h2.lf]), h1.lf]
  pos := fun k k0 k1 => by
    rw [rd_addL (by rw [h1.lf, h2.lf]) k0 (by rw [h1.lf]; exact k1)]
    have := h1.pos k k0 k1
    have := h2.pos k k0 k1
    omega
  bal := fun v v0 v1 => by rw [netF_addL D F G v h1.lf h2.lf, h1.bal v v0 v1, h2.bal v v0 v1, hw v v0 v1]
theorem sumW_add {n : Nat} {w1 w2 w : List Int} {x : Int → Int} (hw : ∀ v, 1 ≤ v → v < (n : Int) → rd w v = rd w1 v + rd w2 v) : sumW n w x = sumW n w1 x + sumW n w2 x := by
  unfold sumW
  rw [← sumN_add]
  refine sumN_congr n (fun v v0 v1 => ?_)
  by_cases e : v = 0
  · rw [if_pos e, if_pos e, if_pos e]; rfl
  · rw [if_neg e, if_neg e, if_neg e, hw v (by omega) v1, Int.add_mul]
theorem most_added {n : Nat} {D : List S39} {w1 w2 w : List Int} (hV : Valid n D) (hw1 : Weighty n w1) (hw2 : Weighty n w2) (hw3 : Weighty n w) (hw : ∀ v, 1 ≤ v → v < (n : Int) → rd w v = rd w1 v + rd w2 v) {a e a' e' a'' e'' : Int} {b b' b'' : Bool} (h1 : MostIs n D w1 a b e) (h2 : MostIs n D w2 a' b' e') (h3 : MostIs n D w a'' b'' e'') : e = e' ∧ e' = e'' ∧ (b = true → b' = true → b'' = true ∧ a'' ≤ a + a') := by
  by_cases hs : Solv D
  case neg =>
    obtain ⟨rfl, rfl, rfl⟩ := h1.clash hw1 hs
    obtain ⟨rfl, rfl, rfl⟩ := h2.clash hw2 hs
    obtain ⟨rfl, rfl, rfl⟩ := h3.clash hw3 hs
    exact ⟨rfl, rfl, fun h => by cases h⟩
  obtain ⟨rfl, m1⟩ := h1.ok hw1 hs
  obtain ⟨rfl, m2⟩ := h2.ok hw2 hs
  obtain ⟨rfl, m3⟩ := h3.ok hw3 hs
  refine ⟨rfl, rfl, fun hb hb' => ?_⟩
  obtain ⟨F, x, f1, f2, f3, f4⟩ := m1.yes hb
  obtain ⟨G, y, g1, g2, g3, g4⟩ := m2.yes hb'
  cases b'' with
  | false => exact absurd (f1.add g1 hw) ((m3.no rfl).2 _)
  | true =>
    obtain ⟨K, z, k1, k2, k3, k4⟩ := m3.yes rfl
    have e1 := weak f1 hV.e k2
    have e2 := weak g1 hV.e k2
    rw [sumW_add hw] at k4
    exact ⟨rfl, by omega⟩
theorem added_ev (n : Int) (L : List S39) (p q : List Int) : Ev (fun k => snowlinelaw04_DiffsAdded.f k n L p q) true := by
  unfold snowlinelaw04_DiffsAdded.f snowlinelaw04_sane.f
  simp only [Option.bind_some, if_true]
  refine (check_ev n L).bind ?_
  have hquit : Ev (fun k => snowlinelaw04_DiffsAdded.j0 k p q true n L) true :=
    Ev.step (f := fun _ => some true) (fun q => by rw [snowlinelaw04_DiffsAdded.j0]; rfl) (Ev.now _)
  by_cases hv : validB n L = true
  case neg =>
    rw [if_neg hv]
    exact Ev.neg (by decide) hquit
  rw [if_pos hv]
  refine Ev.pos rfl ?_
  rw [small_some]
  simp only [Option.bind_some]
  by_cases hsm : n ≤ 16 ∧ L.length ≤ 60
  case neg =>
    rw [decide_eq_false hsm]
    exact hquit
  rw [decide_eq_true hsm]
  refine Ev.pos rfl ?_
  have hV := validB_iff.1 hv
  obtain ⟨N, rfl⟩ : ∃ N : Nat, n = N := ⟨n.toNat, by have := hV.n1; omega⟩
  by_cases l1 : (p.length : Int) = N
  case neg => exact Ev.neg l1 hquit
  refine Ev.pos l1 ?_
  by_cases l2 : (q.length : Int) = N
  case neg => rw [show ((q.length : Int) != N) = true from bne_iff_ne.mpr l2]; exact hquit
  rw [show ((q.length : Int) != N) = false from bne_eq_false_iff_eq.mpr l2]
  have l0 : (List.replicate (N : Int).toNat (0 : Int)).length = N := by rw [List.length_replicate]; omega
  refine Ev.step (f := fun q => _) (fun q => by rw [snowlinelaw04_DiffsAdded.j0, if_neg (by decide)]) ?_
  refine Ev.pos (by omega) (Ev.pos (by omega) ?_)
  simp only [Option.bind_some]
  rw [l0]
  -- the loop
  have loop : ∀ (m : Nat) (i : Int) (s : List Int), (m : Int) + i = N → 0 ≤ i → s.length = N → (∀ v, 0 ≤ v → v < i → rd s v = rd p v + rd q v ∧ -4096 ≤ rd p v ∧ rd p v ≤ 4096 ∧ -4096 ≤ rd q v ∧ rd q v ≤ 4096 ∧ -4096 ≤ rd s v ∧ rd s v ≤ 4096) →
      Ev (fun k => snowlinelaw04_DiffsAdded.l0 k p q s N i N L) true := by
    intro m
    induction m with
    | zero =>
      intro i s hm hi hs hz
      refine Ev.step (f := fun q => _) (fun q => by rw [snowlinelaw04_DiffsAdded.l0, if_neg (by omega)]) ?_
      have hw1 : Weighty N p := ⟨l1, fun v v0 v1 => by have := hz v v0 (by omega); omega⟩
      have hw2 : Weighty N q := ⟨l2, fun v v0 v1 => by have := hz v v0 (by omega); omega⟩
      have hw3 : Weighty N s := ⟨by omega, fun v v0 v1 => by have := hz v v0 (by omega); omega⟩
      obtain ⟨a, b, e, v1, h1⟩ := most_ev hV p
      obtain ⟨a', b', e', v2, h2⟩ := most_ev hV q
      obtain ⟨a'', b'', e'', v3, h3⟩ := most_ev hV s
      obtain ⟨rfl, rfl, hk⟩ := most_added hV hw1 hw2 hw3 (fun v v0 v1 => (hz v (by omega) (by omega)).1) h1 h2 h3
      have s1 := h1.small
      have s2 := h2.small
      refine v1.bind (v2.bind (v3.bind (Ev.pos rfl ?_)))
      simp only [bne_self_eq_false]
      refine Ev.step (f := fun q => _) (fun q => by rw [snowlinelaw04_DiffsAdded.j3, if_neg (by decide)]) ?_
      cases b with
      | false => exact Ev.neg (by simp) (Ev.now _)
      | true =>
        refine Ev.pos rfl ?_
        cases b' with
        | false => exact Ev.neg (by simp) (Ev.now _)
        | true =>
          obtain ⟨rfl, hle⟩ := hk rfl rfl
          refine Ev.pos rfl (Ev.pos rfl ?_)
          rw [wrap_id (by omega) (by omega), decide_eq_true hle]
          exact Ev.now _
    | succ m ih =>
      intro i s hm hi hs hz
      have hj : Ev (fun k => snowlinelaw04_DiffsAdded.j2 k p q s i N i true N L) true :=
        Ev.step (f := fun _ => some true) (fun q => by rw [snowlinelaw04_DiffsAdded.j2]; rfl) (Ev.now _)
      refine Ev.step (f := fun q => _) (fun q => by rw [snowlinelaw04_DiffsAdded.l0, if_pos (by omega), if_pos hi, if_pos (by omega), if_pos (by omega)]) ?_
      by_cases c1 : mn (rd p i) (rd q i) < -4096
      · exact Ev.pos c1 hj
      refine Ev.neg c1 ?_
      by_cases c2 : mx (rd p i) (rd q i) > 4096
      · exact Ev.pos c2 hj
      refine Ev.neg c2 ?_
      have b1 : -4096 ≤ rd p i ∧ rd p i ≤ 4096 ∧ -4096 ≤ rd q i ∧ rd q i ≤ 4096 := by
        unfold mn at c1; unfold mx at c2
        split at c1 <;> split at c2 <;> omega
      rw [wrap_id (x := rd p i + rd q i) (by omega) (by omega)]
      by_cases c3 : rd p i + rd q i < -4096
      · exact Ev.pos c3 hj
      refine Ev.neg c3 ?_
      by_cases c4 : rd p i + rd q i > 4096
      · rw [decide_eq_true c4]; exact hj
      rw [decide_eq_false c4]
      refine Ev.step (f := fun q => _) (fun q => by rw [snowlinelaw04_DiffsAdded.j2, if_neg (by decide), if_pos hi, if_pos (by omega), if_pos (by omega), if_pos (by omega), wrap_id (x := rd p i + rd _ i) (by omega) (by omega), wrap_id (x := i + 1) (by omega) (by omega)]) ?_
      refine ih (i + 1) _ (by omega) (by omega) (by rw [List.length_set]; exact hs) (fun v v0 v1 => ?_)
      rw [rd_set _ _ _ _ hi (by omega) v0]
      by_cases ev : v = i
      · rw [if_pos ev, ev]; omega
      · rw [if_neg ev]; exact hz v v0 (by omega)
  exact loop N 0 _ (by omega) (by omega) l0 (fun v v0 v1 => by omega)
end Go.Proofs.Ytpolojoeabmhdaa.A
/- DiffsAdded: for every input the law answers true, and what came in reads as it did. No conditions. -/
namespace Go.Proofs.Ytpolojoeabmhdaa.diffsAdded
open Go.ChangeShapes Go.WideShapes Go.ChangeAt Go.RowKit
open Go.Proofs.Ytpolojoeabmhdaa.A
open Go.Proofs.YtpolojoeabmhdaaW.PrintWords
set_option maxRecDepth 100000 in
theorem lifted (os : Os) (started : os.Started) (H : Type) (enc : TypeId × Value → H) :
    ReturnsInHanded {} Try.checked os 8 .any (Rows.diffsAddedSpec.pre6 enc Try.prog Try.f8 Rows.diffsAddedRow.domain false) (Rows.diffsAddedSpec.post enc Try.prog Try.f8 false true false false) := by
  refine returnsInHanded_of_change_sized (C := Try.checked) own started (by kernel_rfl) Try.func8
    (ChangeSpec.witness6 (enc := enc) (C := Try.checked) false ⟨#[], #[.agg #[.int .i64 0, .slice none 0 0], .slice none 0 0, .slice none 0 0], []⟩ 8 (by kernel_rfl) (by kernel_rfl) (by kernel_rfl) (by kernel_rfl)) ?_
  intro W base args ds gs before hval0 hW hcnd hsz0 _
  have hsz : (DataW.weightsEach Try.prog (Try.f8.params.toList ++ Rows.diffsAddedSpec.plain.varTypes Try.prog) (ds ++ gs)).all (· ≤ reachBytes) = true := hsz0
  have hval : ∀ (j : Nat) t v, Try.f8.params[j]? = some t → args[j]? = some v → Value.okWide Try.prog W .any base t v := hval0
  have hW' := hW
  obtain ⟨p, q, hA0, hV, rfl, hfz, hnd⟩ := hW
  have hA : DataW.TrodAll enc Try.prog W 0 (fun _ => true) true Try.f8.params.toList args.toList ds p := hA0
  rw [Try.params8] at hA hval hsz
  obtain ⟨v0, vs0, d0, ds0, p0, q0, hargs, rfl, rfl, h0, r0⟩ := trodAll_cons hA
  obtain ⟨v1, vs1, d1, ds1, p1, q1, rfl, rfl, rfl, h1, r1⟩ := trodAll_cons r0
  obtain ⟨v2, vs2, d2, ds2, p2, q2, rfl, rfl, rfl, h2, r2⟩ := trodAll_cons r1
  obtain ⟨rfl, rfl, rfl⟩ := trodAll_nil r2
  obtain rfl : args = #[v0, v1, v2] := by cases args; simp_all
  obtain ⟨rfl, rfl⟩ := trodVars_none hV
  have k0 := h0
  have lt0 : ∀ x ∈ p0, x.block < W.heap.size := by obtain ⟨m, hm⟩ := k0; exact DataW.trod_lt m _ _ _ hm
  obtain ⟨n0, A0, l0, c0, rfl, hC0, hc0, wz0, sz0⟩ := open_net (hval 0 24 v0 rfl rfl) h0
  have k1 := h1
  have lt1 : ∀ x ∈ p1, x.block < W.heap.size := by obtain ⟨m, hm⟩ := k1; exact DataW.trod_lt m _ _ _ hm
  obtain ⟨A1, l1, c1, rfl, hC1, hc1, wz1⟩ := open_list (hval 1 29 v1 rfl rfl) h1
  have k2 := h2
  have lt2 : ∀ x ∈ p2, x.block < W.heap.size := by obtain ⟨m, hm⟩ := k2; exact DataW.trod_lt m _ _ _ hm
  obtain ⟨A2, l2, c2, rfl, hC2, hc2, wz2⟩ := open_list (hval 2 29 v2 rfl rfl) h2
  obtain ⟨rk, hk⟩ := Ev.rounds (added_ev n0 l0 l1 l2)
  clear hA0 hval0 hsz0 hsz
  refine (snowlinelaw04_DiffsAdded.calls rk n0 A0 c0 l0 A1 c1 l1 A2 c2 l2 true W hC0 hc0 hC1 hc1 hC2 hc2 hk).mono fun e W' ⟨he, bel⟩ => ?_
  subst he
  exact ⟨_, rfl, _, _, _, [], _, [], hW', trodAll_mk1 (shut_bool Try.underlying4 _), (trodAll_cons_mk (Below.trod laidOut (by kernel_rfl) (of_decide_eq_true (by kernel_rfl)) k0 bel lt0) (trodAll_cons_mk (Below.trod laidOut (by kernel_rfl) (of_decide_eq_true (by kernel_rfl)) k1 bel lt1) (trodAll_cons_mk (Below.trod laidOut (by kernel_rfl) (of_decide_eq_true (by kernel_rfl)) k2 bel lt2) trodAll_mk0))), rfl, bel.frame _, fun h => by cases h⟩
theorem joined : joinedFacts Try.prog 8 Try.f8 Rows.diffsAddedSpec Rows.diffsAddedRow = true := (andB (andB (andB (andB (andB (andB (andB (andB (andB (andB (andB (andB (andB (andB (andB (andB (andB (andB (andB (andB (andB (andB (andB (andB (andB (andB (andB (andB (andB (andB (andB (by kernel_rfl) laidOut) pMapsRowed) (by kernel_rfl)) (by kernel_rfl)) (by kernel_rfl)) pStops) (by kernel_rfl)) pKnobs) (by kernel_rfl)) (by kernel_rfl)) (by kernel_rfl)) (by kernel_rfl)) (by kernel_rfl)) (by kernel_rfl)) (by kernel_rfl)) (by kernel_rfl)) (by kernel_rfl)) (by kernel_rfl)) (by kernel_rfl)) (by kernel_rfl)) (by kernel_rfl)) pPlain) (by kernel_rfl)) pHeard) pEnter) pLifted) pMake) (by kernel_rfl)) (by kernel_rfl)) (by kernel_rfl)) (by kernel_rfl))
theorem over : Rows.diffsAddedRow.holds Try.pinned (OpenSpec.ofChange Rows.diffsAddedSpec) :=
  OpenClaim.holds_of_wide 8 Try.f8 rfl rfl rfl rfl rfl rfl rfl ⟨rfl, rfl, rfl, rfl, rfl⟩ rfl rfl rfl rfl rfl (by kernel_rfl) Try.func8 joined
    (of_decide_eq_true (by kernel_rfl)) (by unfold Func.isWrapper; first | (rw [if_pos (by decide +kernel)]; kernel_rfl) | (rw [if_neg (by decide +kernel)]; exact ⟨rfl, rfl⟩))
    (fun os started H enc _ => lifted os started H enc)
theorem proved : Rows.DiffsAddedSaid := over
#print axioms proved
end Go.Proofs.Ytpolojoeabmhdaa.diffsAdded
namespace Go.Proofs.Ytpolojoeabmhdaa
/-- The row, under a short name, for the claim. -/
theorem diffsAdded_holds : Rows.DiffsAddedSaid := diffsAdded.proved
end Go.Proofs.Ytpolojoeabmhdaa
