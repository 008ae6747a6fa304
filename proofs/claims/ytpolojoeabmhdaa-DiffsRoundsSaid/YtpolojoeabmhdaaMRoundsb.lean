import Derived.Test.YtpolojoeabmhdaaMZcoreHFacts
import Derived.Test.YtpolojoeabmhdaaMRoundsa
import Derived.Test.YtpolojoeabmhdaaMZcoreb
import Derived.Test.YtpolojoeabmhdaaMZcoree
import Derived.Test.YtpolojoeabmhdaaMZcoreg
import Derived.Test.YtpolojoeabmhdaaMZcoreh
import Derived.Test.YtpolojoeabmhdaaMZcorei
import Derived.Test.YtpolojoeabmhdaaRows
set_option linter.unusedVariables false
set_option linter.unusedSimpArgs false
/- Holds, Solve: what they answer. -/
namespace Go.Proofs.Ytpolojoeabmhdaa.A
open Go.RowKit Go.Proofs.YtpolojoeabmhdaaW.PrintWords Go.Proofs.YtpolojoeabmhdaaW.PrintLast Go.Proofs.YtpolojoeabmhdaaW.PrintMore
structure NumOk (n : Int) (x : List Int) : Prop where
  l : (x.length : Int) = n
  b : ∀ v, 0 ≤ v → v < n → -1099511627776 ≤ rd x v ∧ rd x v ≤ 1099511627776
theorem Ful.num {n : Int} {L : List S39} {x : List Int} (h : Ful n L x) : NumOk n x := ⟨h.l, h.b⟩
theorem numbers_some (n : Int) (x : List Int) : ∃ b, diffs_numbers.f n x = some b ∧ (b = true ↔ NumOk n x) := by
  unfold diffs_numbers.f
  by_cases c : (x.length : Int) = n
  · rw [if_pos c]
    unfold cf122.f
    refine ⟨_, rfl, ?_⟩
    rw [Bool.not_eq_true', List.any_eq_false]
    constructor
    · intro h
      refine ⟨c, fun v v0 v1 => ?_⟩
      have := h (rd x v) (rd_mem v0 (by omega))
      simpa [in_] using this
    · intro h y hy
      obtain ⟨v, v0, v1, rfl⟩ := mem_rd hy
      have := h.b v v0 (by omega)
      simp [in_, this.1, this.2]
  · rw [if_neg c]
    exact ⟨false, rfl, fun h => (by cases h), fun h => absurd h.l c⟩
section
variable {n : Nat} {L : List S39}
theorem holds_some (hV : Valid n L) {x : List Int} (hx : NumOk n x) : ∃ b, diffs_holds.f n L x = some b ∧ (b = true ↔ Ful n L x) := by
  have hn1 := hV.n1
  have hl := hx.l
  have hE := edges_mem hV.e
  unfold diffs_holds.f
  rw [if_neg (by omega)]
  by_cases c : rd x 0 = 0
  · have hok : L.all (holdsOk x) = true := by
      rw [List.all_eq_true]
      intro d hd
      have he := hE d hd
      have b0 := hx.b _ he.a he.b
      have b1 := hx.b _ he.c he.g
      unfold holdsOk
      simp only [Bool.and_eq_true, decide_eq_true_eq]
      have h1 := he.a
      have h2 := he.b
      have h3 := he.c
      have h4 := he.g
      exact ⟨⟨⟨⟨⟨h1, by omega⟩, h3⟩, by omega⟩, by omega⟩, by omega⟩
    rw [if_pos c, if_pos hok]
    refine ⟨_, rfl, ?_⟩
    rw [List.all_eq_true]
    constructor
    · intro h
      refine ⟨hl, by omega, c, hx.b, fun k k0 k1 => ?_⟩
      have he := hV.e k k0 k1
      have hm : rd_T39 L k ∈ L := by
        unfold rd_T39
        rw [List.getD_eq_getElem?_getD, List.getElem?_eq_getElem (by omega)]; exact List.getElem_mem _
      exact ⟨he.a, he.b, he.c, he.g, by simpa using h _ hm⟩
    · intro h d hd
      obtain ⟨i, hi, rfl⟩ := List.getElem_of_mem hd
      have := (h.e i (by omega) (by omega)).2.2.2.2
      unfold rd_T39 at this
      rw [List.getD_eq_getElem?_getD, Int.toNat_natCast, List.getElem?_eq_getElem hi] at this
      exact decide_eq_true this
  · rw [if_neg c]
    exact ⟨false, rfl, fun h => (by cases h), fun h => absurd h.z c⟩
theorem holds_ev (hV : Valid n L) (x : List Int) : ∃ b e, Ev (fun k => diffs_Holds.f k n L x) (b, e) ∧ (b = true ↔ Ful n L x) ∧ (¬ NumOk n x → e = 1) ∧ (NumOk n x → e = 0) := by
  obtain ⟨p, p1, p2⟩ := numbers_some n x
  have hask := asked_ev n L [p] (by simp)
  rw [if_pos (validB_iff.2 hV)] at hask
  unfold diffs_Holds.f
  rw [p1]
  simp only [Option.bind_some]
  cases p with
  | false => exact ⟨false, 1, hask.bind (Ev.neg (by decide) (Ev.now _)), ⟨fun h => (by cases h), fun h => p2.2 h.num⟩, fun _ => rfl, fun h => absurd (p2.2 h) (by decide)⟩
  | true =>
    have hx := p2.1 rfl
    obtain ⟨b, b1, b2⟩ := holds_some hV hx
    rw [b1]
    exact ⟨b, 0, hask.bind (Ev.pos (by decide) (Ev.now _)), b2, fun h => absurd hx h, fun _ => rfl⟩
theorem holds_bad {m : Int} (hv : ¬ validB m L = true) (x : List Int) : Ev (fun k => diffs_Holds.f k m L x) (false, 40) := by
  obtain ⟨p, p1, p2⟩ := numbers_some m x
  have hask := asked_ev m L [p] (by simp)
  rw [if_neg hv] at hask
  unfold diffs_Holds.f
  rw [p1]
  simp only [Option.bind_some]
  exact hask.bind (Ev.neg (by decide) (Ev.now _))
theorem Ful.solv {m : Int} {x : List Int} (h : Ful m L x) : Solv L := ⟨_, h.asg.p⟩
theorem dsolve_ev (hV : Valid n L) : ∃ x e, Ev (fun k => diffs_Solve.f k n L) (x, e) ∧ (Solv L → e = 0 ∧ Ful n L x) ∧ (¬ Solv L → e = 41 ∧ x = []) := by
  have hn0 : 0 < n := by have := hV.n1; omega
  have hn : n ≤ 256 := by have := hV.n2; omega
  have hc := check_ev n L
  rw [if_pos (validB_iff.2 hV)] at hc
  unfold diffs_Solve.f
  by_cases hs : Solv L
  · obtain ⟨x, s, h1, h2⟩ := solve_ful hn0 hn hV.e (hmul hV) hs
    exact ⟨x, 0, hc.bind (Ev.pos rfl (h1.bind (Ev.neg (by simp) (Ev.now _)))), fun _ => ⟨rfl, h2⟩, fun h => absurd hs h⟩
  · obtain ⟨x, s, bad, h1, h2, h3, h4, h5⟩ := solve_ev hn0 (by omega) hV.e (hmul hV)
    have hb : ¬ bad = -1 := fun e => hs ((h2.bad_iff hV.e (fun v a b => mem_allL.2 ⟨a, b⟩)).1 e)
    exact ⟨[], 41, hc.bind (Ev.pos rfl (h3.bind (Ev.pos (by rcases h2.res with ⟨a, _⟩ | ⟨a, _⟩; exact absurd a hb; exact a) (Ev.now _)))), fun h => absurd h hs, fun _ => ⟨rfl, rfl⟩⟩
theorem dsolve_bad {m : Int} (hv : ¬ validB m L = true) : Ev (fun k => diffs_Solve.f k m L) ([], 40) := by
  have hc := check_ev m L
  rw [if_neg hv] at hc
  unfold diffs_Solve.f
  exact hc.bind (Ev.neg (by decide) (Ev.now _))
end
end Go.Proofs.Ytpolojoeabmhdaa.A
namespace Go.Proofs.Ytpolojoeabmhdaa.A
open Go.RowKit Go.Proofs.YtpolojoeabmhdaaW.PrintWords Go.Proofs.YtpolojoeabmhdaaW.PrintLast Go.Proofs.YtpolojoeabmhdaaW.PrintMore
attribute [local go_sem] max2_int min2_int max_two min_two max_three min_three max_four min_four
def snowlinelaw04_small.f (a0_0 : Int) (l0_1 : List (S39)) : Option (Bool) := if a0_0 ≤ 16 then (some (decide ((l0_1.length : Int) ≤ 60))) else (some false)
set_option maxHeartbeats 8000000 in
set_option maxRecDepth 100000 in
theorem snowlinelaw04_small.calls (a0_0 : Int) (A0_1 : Option Addr) (c0_1 : Nat) (l0_1 : List (S39)) (r : Bool) (w : World) (hr0_1 : Kd.C k39 w A0_1 l0_1.length l0_1) (hc0_1 : l0_1.length ≤ c0_1) (h : snowlinelaw04_small.f a0_0 l0_1 = some r) :
    Calls Try.prog 23 #[.agg #[.int .i64 a0_0, .slice A0_1 l0_1.length c0_1]] w fun e w' => e = .returned (.bool r) ∧ Below w.heap.size w w' := by
  have hu24 := Try.underlying24; have HR0_1 := Z_ hr0_1; have HC0_1 := Z_ hc0_1; clear hr0_1 hc0_1; have HB := Z_ (Below.refl w.heap.size w); have H : (if a0_0 ≤ 16 then (some (decide ((l0_1.length : Int) ≤ 60))) else (some false)) = some r := h; clear h; by_cases c2 : a0_0 ≤ 16
  · rw [if_pos c2] at H
    have c2b0 : decide (a0_0 ≤ 16) = true := eT_ c2; clear c2; obtain rfl := oI_ H; go_enter Try.func23, Try.ntmps23; go_wp2_with (first | ((with_reducible refine gate_dst (N := 1) rfl ?_); (try (refine gate_guard (by rfl) ?_; dsimp only)); refine box_event ?hg (N := 1) ?hd (cs := #[.int .i64 a0_0, .slice A0_1 l0_1.length c0_1]) (t := 24) ?hr ?_; (case hd => rfl); (case hg => rfl); (case hr => first | (go_simp; done) | (go_simp; rfl)); intro gb338 hg w3 hbox hb; have n0_ := Z_ (fS_ (by repeat (first | (with_reducible first | exact HB.out | apply fA_ | apply pB_ | apply fD_) | exact HB.out)) hb); have n1_ := Z_ (hbox); have n2_ := Z_ ((by rw [hg]; exact (fZ_ (by repeat (first | (with_reducible first | exact HB.out | apply fA_ | apply pB_ | apply fD_) | exact HB.out))) : w.heap.size ≤ gb338)); have n3_ := Z_ ((by rw [hg]; exact (fZ_ (by repeat (first | (with_reducible first | exact HB.out | apply fA_ | apply pB_ | apply fD_) | exact HB.out))) : w.heap.size ≤ gb338)); clear HB; have HB := n0_; have BK338 := n1_; have GW338 := n2_; have GE338 := n3_; clear n0_ n1_ n2_ n3_; clear hb hbox hg; have hcz4_0 : w3.cell? ⟨gb338, 0, none⟩ = some (.int .i64 a0_0) := (bC_ BK338.out 0).trans rfl; have hcz4_1 : w3.cell? ⟨gb338, 1, none⟩ = some (.slice A0_1 l0_1.length c0_1) := (bC_ BK338.out 1).trans rfl; have hfz4_0 := bF_ BK338.out 0; have hfz4_1 := bF_ BK338.out 1)); go_ret; exact ⟨by first | rfl | (simp [errW_none, errW_some] <;> rfl) | (simp [*, errW_none, errW_some] <;> rfl), by repeat (first | (with_reducible first | exact HB.out | apply fA_ | apply pB_ | apply fD_ | refine fE_ ?_ GE338.out) | exact HB.out)⟩
  rw [if_neg c2] at H; have c2b0 : decide (a0_0 ≤ 16) = false := eF_ c2; clear c2; obtain rfl := oI_ H; go_enter Try.func23, Try.ntmps23; go_wp2_with (first | ((with_reducible refine gate_dst (N := 1) rfl ?_); (try (refine gate_guard (by rfl) ?_; dsimp only)); refine box_event ?hg (N := 1) ?hd (cs := #[.int .i64 a0_0, .slice A0_1 l0_1.length c0_1]) (t := 24) ?hr ?_; (case hd => rfl); (case hg => rfl); (case hr => first | (go_simp; done) | (go_simp; rfl)); intro gb338 hg w5 hbox hb; have n0_ := Z_ (fS_ (by repeat (first | (with_reducible first | exact HB.out | apply fA_ | apply pB_ | apply fD_) | exact HB.out)) hb); have n1_ := Z_ (hbox); have n2_ := Z_ ((by rw [hg]; exact (fZ_ (by repeat (first | (with_reducible first | exact HB.out | apply fA_ | apply pB_ | apply fD_) | exact HB.out))) : w.heap.size ≤ gb338)); have n3_ := Z_ ((by rw [hg]; exact (fZ_ (by repeat (first | (with_reducible first | exact HB.out | apply fA_ | apply pB_ | apply fD_) | exact HB.out))) : w.heap.size ≤ gb338)); clear HB; have HB := n0_; have BK338 := n1_; have GW338 := n2_; have GE338 := n3_; clear n0_ n1_ n2_ n3_; clear hb hbox hg; have hcz6_0 : w5.cell? ⟨gb338, 0, none⟩ = some (.int .i64 a0_0) := (bC_ BK338.out 0).trans rfl; have hcz6_1 : w5.cell? ⟨gb338, 1, none⟩ = some (.slice A0_1 l0_1.length c0_1) := (bC_ BK338.out 1).trans rfl; have hfz6_0 := bF_ BK338.out 0; have hfz6_1 := bF_ BK338.out 1)); go_ret; exact ⟨by first | rfl | (simp [errW_none, errW_some] <;> rfl) | (simp [*, errW_none, errW_some] <;> rfl), by repeat (first | (with_reducible first | exact HB.out | apply fA_ | apply pB_ | apply fD_ | refine fE_ ?_ GE338.out) | exact HB.out)⟩
mutual
def snowlinelaw04_DiffsRounds.j0 : Nat → List Int → List Int → Bool → Int → List (S39) → Option (Bool)
  | 0, _, _, _, _, _ => none
  | k + 1, x1, x2, x23, x1182000, x1182001 => if x23 = true then (some true) else ((diffs_Solve.f k x1182000 x1182001).bind fun bt1185 => ((diffs_Clash.f k x1182000 x1182001).bind fun bt1189 => (if bt1189.2.2 = 0 then (if (bt1189.2.1 == (bt1185.2 == 0)) = true then (snowlinelaw04_DiffsRounds.j1 k x1 x2 bt1185.1 bt1185.2 bt1189.1 true x1182000 x1182001) else (if bt1185.2 = 0 then (snowlinelaw04_DiffsRounds.j1 k x1 x2 bt1185.1 bt1185.2 bt1189.1 false x1182000 x1182001) else (snowlinelaw04_DiffsRounds.j1 k x1 x2 bt1185.1 bt1185.2 bt1189.1 (bt1185.2 != 41) x1182000 x1182001))) else (snowlinelaw04_DiffsRounds.j1 k x1 x2 bt1185.1 bt1185.2 bt1189.1 true x1182000 x1182001))))
def snowlinelaw04_DiffsRounds.j1 : Nat → List Int → List Int → List Int → Int → List Int → Bool → Int → List (S39) → Option (Bool)
  | 0, _, _, _, _, _, _, _, _ => none
  | k + 1, x1, x2, x7, x8, x9, x50, x1182000, x1182001 => if x50 = true then (some false) else (if x8 = 0 then ((snowlinelaw04_fulfils.f k x1182000 x1182001 x7).bind fun t1194 => (if t1194 = true then ((diffs_CheckClash.f k x1182000 x1182001 x1).bind fun t1195 => (some (t1195 != 0))) else (some false))) else ((diffs_Holds.f k x1182000 x1182001 x2).bind fun bt1196 => ((diffs_CheckClash.f k x1182000 x1182001 x9).bind fun t1198 => (if t1198 = 0 then (if bt1196.1 = true then (some false) else ((snowlinelaw04_fulfils.f k x1182000 x1182001 x2).bind fun t1199 => (some (!t1199)))) else (some false)))))
end
def snowlinelaw04_DiffsRounds.f (k : Nat) (a0_0 : Int) (l0_1 : List (S39)) (l1 : List Int) (l2 : List Int) : Option (Bool) := (snowlinelaw04_sane.f).bind fun t1182 => (if t1182 = true then ((diffs_Check.f k a0_0 l0_1).bind fun t1183 => (if t1183 = 0 then ((snowlinelaw04_small.f a0_0 l0_1).bind fun t1184 => (snowlinelaw04_DiffsRounds.j0 k l1 l2 (!t1184) a0_0 l0_1)) else (snowlinelaw04_DiffsRounds.j0 k l1 l2 true a0_0 l0_1))) else (some false))
theorem snowlinelaw04_DiffsRounds.mono_l : ∀ k, (∀ y0 y1 y2 y3 y4, LeO (snowlinelaw04_DiffsRounds.j0 k y0 y1 y2 y3 y4) (snowlinelaw04_DiffsRounds.j0 (k + 1) y0 y1 y2 y3 y4)) ∧ (∀ y0 y1 y2 y3 y4 y5 y6 y7, LeO (snowlinelaw04_DiffsRounds.j1 k y0 y1 y2 y3 y4 y5 y6 y7) (snowlinelaw04_DiffsRounds.j1 (k + 1) y0 y1 y2 y3 y4 y5 y6 y7))
  | 0 => ⟨fun _ _ _ _ _ r h => by simp [snowlinelaw04_DiffsRounds.j0] at h, fun _ _ _ _ _ _ _ _ r h => by simp [snowlinelaw04_DiffsRounds.j1] at h⟩
  | k + 1 => by
    obtain ⟨ih0, ih1⟩ := snowlinelaw04_DiffsRounds.mono_l k; refine ⟨?_, ?_⟩ <;> intros <;> (first | unfold snowlinelaw04_DiffsRounds.j0 | unfold snowlinelaw04_DiffsRounds.j1) <;> repeat' first | (with_reducible first | exact ih0 _ _ _ _ _ | exact ih1 _ _ _ _ _ _ _ _ | exact diffs_Check.mono _ _ _ | exact diffs_CheckClash.mono _ _ _ _ | exact diffs_Clash.mono _ _ _ | exact diffs_Holds.mono _ _ _ _ | exact diffs_Solve.mono _ _ _ | exact snowlinelaw04_fulfils.mono _ _ _ _ | exact LeO.refl _ | exact LeO.none _ | refine LeO.ite ?_ ?_ | refine LeO.bind ?_ (fun _ => ?_)) | exact ih0 _ _ _ _ _ | exact ih1 _ _ _ _ _ _ _ _ | exact diffs_Check.mono _ _ _ | exact diffs_CheckClash.mono _ _ _ _ | exact diffs_Clash.mono _ _ _ | exact diffs_Holds.mono _ _ _ _ | exact diffs_Solve.mono _ _ _ | exact snowlinelaw04_fulfils.mono _ _ _ _ | exact LeO.none _ | refine LeO.ite ?_ ?_ | refine LeO.bind ?_ (fun _ => ?_)
theorem snowlinelaw04_DiffsRounds.mono : ∀ a0 a1 a2 a3 k, LeO (snowlinelaw04_DiffsRounds.f k a0 a1 a2 a3) (snowlinelaw04_DiffsRounds.f (k + 1) a0 a1 a2 a3) := by
  intro a0 a1 a2 a3 k; obtain ⟨ih0, ih1⟩ := snowlinelaw04_DiffsRounds.mono_l k; unfold snowlinelaw04_DiffsRounds.f; repeat' first | (with_reducible first | exact ih0 _ _ _ _ _ | exact ih1 _ _ _ _ _ _ _ _ | exact diffs_Check.mono _ _ _ | exact diffs_CheckClash.mono _ _ _ _ | exact diffs_Clash.mono _ _ _ | exact diffs_Holds.mono _ _ _ _ | exact diffs_Solve.mono _ _ _ | exact snowlinelaw04_fulfils.mono _ _ _ _ | exact LeO.refl _ | exact LeO.none _ | refine LeO.ite ?_ ?_ | refine LeO.bind ?_ (fun _ => ?_)) | exact ih0 _ _ _ _ _ | exact ih1 _ _ _ _ _ _ _ _ | exact diffs_Check.mono _ _ _ | exact diffs_CheckClash.mono _ _ _ _ | exact diffs_Clash.mono _ _ _ | exact diffs_Holds.mono _ _ _ _ | exact diffs_Solve.mono _ _ _ | exact snowlinelaw04_fulfils.mono _ _ _ _ | exact LeO.none _ | refine LeO.ite ?_ ?_ | refine LeO.bind ?_ (fun _ => ?_)
set_option maxHeartbeats 8000000 in
set_option maxRecDepth 100000 in
theorem snowlinelaw04_DiffsRounds.calls (k : Nat) (a0_0 : Int) (A0_1 : Option Addr) (c0_1 : Nat) (l0_1 : List (S39)) (A1 : Option Addr) (c1 : Nat) (l1 : List Int) (A2 : Option Addr) (c2 : Nat) (l2 : List Int) (r : Bool) (w : World) (hr0_1 : Kd.C k39 w A0_1 l0_1.length l0_1) (hc0_1 : l0_1.length ≤ c0_1) (hr1 : Kd.C (Kd.int .i64) w A1 l1.length l1) (hc1 : l1.length ≤ c1) (hr2 : Kd.C (Kd.int .i64) w A2 l2.length l2) (hc2 : l2.length ≤ c2) (h : snowlinelaw04_DiffsRounds.f k a0_0 l0_1 l1 l2 = some r) :
    Calls Try.prog 16 #[.agg #[.int .i64 a0_0, .slice A0_1 l0_1.length c0_1], .slice A1 l1.length c1, .slice A2 l2.length c2] w fun e w' => e = .returned (.bool r) ∧ Below w.heap.size w w' := by
  have hu24 := Try.underlying24; have HR0_1 := Z_ hr0_1; have HC0_1 := Z_ hc0_1; clear hr0_1 hc0_1; have HR1 := Z_ hr1; have HC1 := Z_ hc1; clear hr1 hc1; have HR2 := Z_ hr2; have HC2 := Z_ hc2; clear hr2 hc2; have HB := Z_ (Below.refl w.heap.size w); have H : ((snowlinelaw04_sane.f).bind fun t1182 => (if t1182 = true then ((diffs_Check.f k a0_0 l0_1).bind fun t1183 => (if t1183 = 0 then ((snowlinelaw04_small.f a0_0 l0_1).bind fun t1184 => (snowlinelaw04_DiffsRounds.j0 k l1 l2 (!t1184) a0_0 l0_1)) else (snowlinelaw04_DiffsRounds.j0 k l1 l2 true a0_0 l0_1))) else (some false))) = some r := h; clear h; replace H := oS_.mp H; obtain ⟨t1182, A40, H⟩ := H; replace H : (if t1182 = true then ((diffs_Check.f k a0_0 l0_1).bind fun t1183 => (if t1183 = 0 then ((snowlinelaw04_small.f a0_0 l0_1).bind fun t1184 => (snowlinelaw04_DiffsRounds.j0 k l1 l2 (!t1184) a0_0 l0_1)) else (snowlinelaw04_DiffsRounds.j0 k l1 l2 true a0_0 l0_1))) else (some false)) = some r := H; have A4 := Z_ A40; clear A40; by_cases c5 : t1182 = true
  · subst c5
    have H1 : ((diffs_Check.f k a0_0 l0_1).bind fun t1183 => (if t1183 = 0 then ((snowlinelaw04_small.f a0_0 l0_1).bind fun t1184 => (snowlinelaw04_DiffsRounds.j0 k l1 l2 (!t1184) a0_0 l0_1)) else (snowlinelaw04_DiffsRounds.j0 k l1 l2 true a0_0 l0_1))) = some r := by rw [if_pos rfl] at H; exact H
    clear H; have H := H1; clear H1; have HC6 := Z_ H; clear H; go_enter Try.func16, Try.ntmps16; go_upto_region 3 with (first | ((with_reducible refine gate_dst (N := 3) rfl ?_); refine box_event ?hg (N := 3) ?hd (cs := #[.int .i64 a0_0, .slice A0_1 l0_1.length c0_1]) (t := 24) ?hr ?_; (case hd => rfl); (case hg => rfl); (case hr => first | (go_simp; done) | (go_simp; rfl)); intro gb1181 hg w7 hbox hb; have n0_ := Z_ (fS_ (by repeat (first | (with_reducible first | exact HB.out | apply fA_ | apply pB_ | apply fD_) | exact HB.out)) hb); have n1_ := Z_ (hbox); have n2_ := Z_ ((by rw [hg]; exact (fZ_ (by repeat (first | (with_reducible first | exact HB.out | apply fA_ | apply pB_ | apply fD_) | exact HB.out))) : w.heap.size ≤ gb1181)); have n3_ := Z_ ((by rw [hg]; exact (fZ_ (by repeat (first | (with_reducible first | exact HB.out | apply fA_ | apply pB_ | apply fD_) | exact HB.out))) : w.heap.size ≤ gb1181)); clear HB; have HB := n0_; have BK1181 := n1_; have GW1181 := n2_; have GE1181 := n3_; clear n0_ n1_ n2_ n3_; clear hb hbox hg) | ((with_reducible refine gate_callee (f := 21) rfl ?_); refine goesL_ (some 14) rfl rfl Try.func21 (by kernel_rfl) rfl #[] rfl (by (try simp only [mT_, mC_, mN_]); first | done | rfl | (simp only [lD_, lT_]; rfl)) ?_; (with_reducible refine (snowlinelaw04_sane.calls  true _ A4.out).mono ?_); rintro e w8 ⟨rfl, hb⟩; refine ⟨_, rfl, ?_⟩; have n0_ := Z_ (bB_ (g := gb1181) (o := .cells #[.int .i64 a0_0, .slice A0_1 l0_1.length c0_1] 24 (0, 0)) (by (with_reducible repeat (first | refine bN_ ?_ _ | refine bD_ ?_ | refine bA_ ?_ _)); exact BK1181.out) hb); have n1_ := Z_ (fS_ (by repeat (first | (with_reducible first | exact HB.out | apply fA_ | apply pB_ | apply fD_ | refine fE_ ?_ GE1181.out) | exact HB.out)) hb); clear BK1181; clear HB; have BK1181 := n0_; have HB := n1_; clear n0_ n1_; (try clear hb); (try clear hb2); (try clear hk); (try clear hi))); (try simp only [Act.put, sT_, sZ_, sS_])
    go_cut [23] (fun v23 wc => ∃ (kq : Nat) (x23_5 : Bool), v23 = .bool x23_5 ∧ Aside0 (snowlinelaw04_DiffsRounds.j0 kq l1 l2 x23_5 a0_0 l0_1 = some r) ∧ Aside0 (kq ≤ k) ∧ Aside0 (wc.heap[gb1181]? = some (.cells #[.int .i64 a0_0, (.slice A0_1 l0_1.length c0_1)] 24 (0, 0))) ∧ Aside0 (Below w.heap.size w wc))
    case first =>
      have H := HC6.out; clear HC6; replace H := oS_.mp H; obtain ⟨t1183, A90, H⟩ := H; replace H : (if t1183 = 0 then ((snowlinelaw04_small.f a0_0 l0_1).bind fun t1184 => (snowlinelaw04_DiffsRounds.j0 k l1 l2 (!t1184) a0_0 l0_1)) else (snowlinelaw04_DiffsRounds.j0 k l1 l2 true a0_0 l0_1)) = some r := H; have A9 := Z_ A90; clear A90; by_cases c10 : t1183 = 0
      · rw [if_pos c10] at H
        have c10b0 : (t1183 == 0) = true := beq_iff_eq.mpr c10; have c10b1 : (t1183 != 0) = false := bne_eq_false_iff_eq.mpr c10; clear c10; (first | rw [c10b0] | (simp only [i64_w, i32_w]; rw [c10b0]) | skip)
        replace H := oS_.mp H; obtain ⟨t1184, A110, H⟩ := H; replace H : (snowlinelaw04_DiffsRounds.j0 k l1 l2 (!t1184) a0_0 l0_1) = some r := H; have A11 := Z_ A110; clear A110; have H' := Z_ H; clear H; have hcz12_0 : w8.cell? ⟨gb1181, 0, none⟩ = some (.int .i64 a0_0) := (bC_ BK1181.out 0).trans rfl; have hcz12_1 : w8.cell? ⟨gb1181, 1, none⟩ = some (.slice A0_1 l0_1.length c0_1) := (bC_ BK1181.out 1).trans rfl; have hfz12_0 := bF_ BK1181.out 0; have hfz12_1 := bF_ BK1181.out 1; go_wp2_with (first | ((with_reducible refine gate_callee (f := 29) rfl ?_); refine goesL_ (some 17) rfl rfl Try.func29 (by kernel_rfl) rfl #[.agg #[.int .i64 a0_0, .slice A0_1 l0_1.length c0_1]] rfl (by (try simp only [mT_, mC_, mN_]); first | done | rfl | (simp only [lD_, lT_]; rfl)) ?_; (with_reducible refine (diffs_Check.calls k a0_0 _ _ l0_1 t1183 _ ?side1 ?side2 A9.out).mono ?_); (case side1 => repeat (first | exact (cB_ HR0_1.out HB.out) | (with_reducible refine Kd.C_alloc ?_ _) | (with_reducible refine Kd.C_drewN ?_ _) | (with_reducible refine Kd.C_drew ?_))); (case side2 => exact HC0_1.out); rintro e w13 ⟨rfl, hb⟩; refine ⟨_, rfl, ?_⟩; have n0_ := Z_ (bB_ (g := gb1181) (o := .cells #[.int .i64 a0_0, .slice A0_1 l0_1.length c0_1] 24 (0, 0)) (by (with_reducible repeat (first | refine bN_ ?_ _ | refine bD_ ?_ | refine bA_ ?_ _)); exact BK1181.out) hb); have n1_ := Z_ (fS_ (by repeat (first | (with_reducible first | exact HB.out | apply fA_ | apply pB_ | apply fD_ | refine fE_ ?_ GE1181.out) | exact HB.out)) hb); clear BK1181; clear HB; have BK1181 := n0_; have HB := n1_; clear n0_ n1_; (try clear hb); (try clear hb2); (try clear hk); (try clear hi); have hcz14_0 : w13.cell? ⟨gb1181, 0, none⟩ = some (.int .i64 a0_0) := (bC_ BK1181.out 0).trans rfl; have hcz14_1 : w13.cell? ⟨gb1181, 1, none⟩ = some (.slice A0_1 l0_1.length c0_1) := (bC_ BK1181.out 1).trans rfl; have hfz14_0 := bF_ BK1181.out 0; have hfz14_1 := bF_ BK1181.out 1) | (go_at_call 23; (with_reducible refine (snowlinelaw04_small.calls a0_0 _ _ l0_1 t1184 _ ?side1 ?side2 A11.out).mono ?_); (case side1 => repeat (first | exact (cB_ HR0_1.out HB.out) | (with_reducible refine Kd.C_alloc ?_ _) | (with_reducible refine Kd.C_drewN ?_ _) | (with_reducible refine Kd.C_drew ?_))); (case side2 => exact HC0_1.out); rintro e w15 ⟨rfl, hb⟩; have n0_ := Z_ (bB_ (g := gb1181) (o := .cells #[.int .i64 a0_0, .slice A0_1 l0_1.length c0_1] 24 (0, 0)) (by (with_reducible repeat (first | refine bN_ ?_ _ | refine bD_ ?_ | refine bA_ ?_ _)); exact BK1181.out) hb); have n1_ := Z_ (fS_ (by repeat (first | (with_reducible first | exact HB.out | apply fA_ | apply pB_ | apply fD_ | refine fE_ ?_ GE1181.out) | exact HB.out)) hb); clear BK1181; clear HB; have BK1181 := n0_; have HB := n1_; clear n0_ n1_; (try clear hb); (try clear hb2); (try clear hk); (try clear hi))); go_meet
        case rel => exact ⟨_, (!t1184), (by first | rfl | (simp; done) | (simp [*]; done)), H', ⟨by first | omega | exact nR_ _⟩, ⟨by (with_reducible repeat (first | refine bN_ ?_ _ | refine bD_ ?_ | refine bA_ ?_ _)); exact BK1181.out⟩, ⟨by repeat (first | (with_reducible first | exact HB.out | apply fA_ | apply pB_ | apply fD_ | refine fE_ ?_ GE1181.out) | exact HB.out)⟩⟩
      rw [if_neg c10] at H; have c10b0 : (t1183 == 0) = false := beq_eq_false_iff_ne.mpr c10; have c10b1 : (t1183 != 0) = true := bne_iff_ne.mpr c10; (first | rw [c10b0] | (simp only [i64_w, i32_w]; rw [c10b0]) | skip)
      have H' := Z_ H; clear H; have hcz16_0 : w8.cell? ⟨gb1181, 0, none⟩ = some (.int .i64 a0_0) := (bC_ BK1181.out 0).trans rfl; have hcz16_1 : w8.cell? ⟨gb1181, 1, none⟩ = some (.slice A0_1 l0_1.length c0_1) := (bC_ BK1181.out 1).trans rfl; have hfz16_0 := bF_ BK1181.out 0; have hfz16_1 := bF_ BK1181.out 1; go_wp2_with (first | ((with_reducible refine gate_callee (f := 29) rfl ?_); refine goesL_ (some 17) rfl rfl Try.func29 (by kernel_rfl) rfl #[.agg #[.int .i64 a0_0, .slice A0_1 l0_1.length c0_1]] rfl (by (try simp only [mT_, mC_, mN_]); first | done | rfl | (simp only [lD_, lT_]; rfl)) ?_; (with_reducible refine (diffs_Check.calls k a0_0 _ _ l0_1 t1183 _ ?side1 ?side2 A9.out).mono ?_); (case side1 => repeat (first | exact (cB_ HR0_1.out HB.out) | (with_reducible refine Kd.C_alloc ?_ _) | (with_reducible refine Kd.C_drewN ?_ _) | (with_reducible refine Kd.C_drew ?_))); (case side2 => exact HC0_1.out); rintro e w17 ⟨rfl, hb⟩; refine ⟨_, rfl, ?_⟩; have n0_ := Z_ (bB_ (g := gb1181) (o := .cells #[.int .i64 a0_0, .slice A0_1 l0_1.length c0_1] 24 (0, 0)) (by (with_reducible repeat (first | refine bN_ ?_ _ | refine bD_ ?_ | refine bA_ ?_ _)); exact BK1181.out) hb); have n1_ := Z_ (fS_ (by repeat (first | (with_reducible first | exact HB.out | apply fA_ | apply pB_ | apply fD_ | refine fE_ ?_ GE1181.out) | exact HB.out)) hb); clear BK1181; clear HB; have BK1181 := n0_; have HB := n1_; clear n0_ n1_; (try clear hb); (try clear hb2); (try clear hk); (try clear hi))); go_meet
      case rel => exact ⟨_, (true), (by first | rfl | (simp; done) | (simp [*]; done)), H', ⟨by first | omega | exact nR_ _⟩, ⟨by (with_reducible repeat (first | refine bN_ ?_ _ | refine bD_ ?_ | refine bA_ ?_ _)); exact BK1181.out⟩, ⟨by repeat (first | (with_reducible first | exact HB.out | apply fA_ | apply pB_ | apply fD_ | refine fE_ ?_ GE1181.out) | exact HB.out)⟩⟩
    case rest =>
      clear HC6; try clear c1
      try clear c2
      try clear p2
      try clear c5
      try clear c10
      try clear c10b0
      try clear c10b1
      try clear c16
      try clear hcz12_0
      try clear hcz12_1
      try clear hcz14_0
      try clear hcz14_1
      try clear hcz16_0
      try clear hcz16_1
      try clear hfz12_0
      try clear hfz12_1
      try clear hfz14_0
      try clear hfz14_1
      try clear hfz16_0
      try clear hfz16_1
      obtain ⟨kq, x23_5, rfl, HA, HJ5, BK1181, HB⟩ := hcut
      cases kq with
      | zero => exact absurd HA.out (by simp [snowlinelaw04_DiffsRounds.j0])
      | succ kj5 =>
        have H := HA.out; clear HA; simp only [snowlinelaw04_DiffsRounds.j0] at H; by_cases c18 : x23_5 = true
        · subst c18
          have H1 : (some true) = some r := by rw [if_pos rfl] at H; exact H
          clear H; have H := H1; clear H1; obtain rfl := oI_ H; go_wp2; go_ret; exact ⟨by first | rfl | (simp [errW_none, errW_some] <;> rfl) | (simp [*, errW_none, errW_some] <;> rfl), by repeat (first | (with_reducible first | exact HB.out | apply fA_ | apply pB_ | apply fD_ | refine fE_ ?_ GE1181.out) | exact HB.out)⟩
        replace c18 := bE_.mpr c18; subst c18; have H1 : ((diffs_Solve.f kj5 a0_0 l0_1).bind fun bt1185 => ((diffs_Clash.f kj5 a0_0 l0_1).bind fun bt1189 => (if bt1189.2.2 = 0 then (if (bt1189.2.1 == (bt1185.2 == 0)) = true then (snowlinelaw04_DiffsRounds.j1 kj5 l1 l2 bt1185.1 bt1185.2 bt1189.1 true a0_0 l0_1) else (if bt1185.2 = 0 then (snowlinelaw04_DiffsRounds.j1 kj5 l1 l2 bt1185.1 bt1185.2 bt1189.1 false a0_0 l0_1) else (snowlinelaw04_DiffsRounds.j1 kj5 l1 l2 bt1185.1 bt1185.2 bt1189.1 (bt1185.2 != 41) a0_0 l0_1))) else (snowlinelaw04_DiffsRounds.j1 kj5 l1 l2 bt1185.1 bt1185.2 bt1189.1 true a0_0 l0_1)))) = some r := by rw [if_neg (show ¬ (false = true) by decide)] at H; exact H
        clear H; have H := H1; clear H1; replace H := oS_.mp H; obtain ⟨⟨t1185, t1188⟩, A190, H⟩ := H; replace H : ((diffs_Clash.f kj5 a0_0 l0_1).bind fun bt1189 => (if bt1189.2.2 = 0 then (if (bt1189.2.1 == (t1188 == 0)) = true then (snowlinelaw04_DiffsRounds.j1 kj5 l1 l2 t1185 t1188 bt1189.1 true a0_0 l0_1) else (if t1188 = 0 then (snowlinelaw04_DiffsRounds.j1 kj5 l1 l2 t1185 t1188 bt1189.1 false a0_0 l0_1) else (snowlinelaw04_DiffsRounds.j1 kj5 l1 l2 t1185 t1188 bt1189.1 (t1188 != 41) a0_0 l0_1))) else (snowlinelaw04_DiffsRounds.j1 kj5 l1 l2 t1185 t1188 bt1189.1 true a0_0 l0_1))) = some r := H; have A19 := Z_ A190; clear A190; replace H := oS_.mp H; obtain ⟨⟨t1189, t1192, t1193⟩, A200, H⟩ := H; replace H : (if t1193 = 0 then (if (t1192 == (t1188 == 0)) = true then (snowlinelaw04_DiffsRounds.j1 kj5 l1 l2 t1185 t1188 t1189 true a0_0 l0_1) else (if t1188 = 0 then (snowlinelaw04_DiffsRounds.j1 kj5 l1 l2 t1185 t1188 t1189 false a0_0 l0_1) else (snowlinelaw04_DiffsRounds.j1 kj5 l1 l2 t1185 t1188 t1189 (t1188 != 41) a0_0 l0_1))) else (snowlinelaw04_DiffsRounds.j1 kj5 l1 l2 t1185 t1188 t1189 true a0_0 l0_1)) = some r := H; have A20 := Z_ A200; clear A200; have HC21 := Z_ H; clear H; have hcz22_0 : wc.cell? ⟨gb1181, 0, none⟩ = some (.int .i64 a0_0) := (bC_ BK1181.out 0).trans rfl; have hcz22_1 : wc.cell? ⟨gb1181, 1, none⟩ = some (.slice A0_1 l0_1.length c0_1) := (bC_ BK1181.out 1).trans rfl; have hfz22_0 := bF_ BK1181.out 0; have hfz22_1 := bF_ BK1181.out 1; go_upto_region 7 with (first | ((with_reducible refine gate_callee (f := 39) rfl ?_); refine goesL_ (some 26) rfl rfl Try.func39 (by kernel_rfl) rfl #[.agg #[.int .i64 a0_0, .slice A0_1 l0_1.length c0_1]] rfl (by (try simp only [mT_, mC_, mN_]); first | done | rfl | (simp only [lD_, lT_]; rfl)) ?_; (with_reducible refine (diffs_Solve.calls kj5 a0_0 _ _ l0_1 t1185 t1188 _ ?side1 ?side2 A19.out).mono ?_); (case side1 => repeat (first | exact (cB_ HR0_1.out HB.out) | (with_reducible refine Kd.C_alloc ?_ _) | (with_reducible refine Kd.C_drewN ?_ _) | (with_reducible refine Kd.C_drew ?_))); (case side2 => exact HC0_1.out); rintro e w23 ⟨v1186, rfl, ho0, hb⟩; refine ⟨_, rfl, ?_⟩; have n0_ := Z_ (rL_ ho0 (fZ_ (by repeat (first | (with_reducible first | exact HB.out | apply fA_ | apply pB_ | apply fD_ | refine fE_ ?_ GE1181.out) | exact HB.out)))); have n1_ := Z_ (bB_ (g := gb1181) (o := .cells #[.int .i64 a0_0, .slice A0_1 l0_1.length c0_1] 24 (0, 0)) (by (with_reducible repeat (first | refine bN_ ?_ _ | refine bD_ ?_ | refine bA_ ?_ _)); exact BK1181.out) hb); have n2_ := Z_ (fS_ (by repeat (first | (with_reducible first | exact HB.out | apply fA_ | apply pB_ | apply fD_ | refine fE_ ?_ GE1181.out) | exact HB.out)) hb); clear BK1181; clear HB; have HO1187 := n0_; have BK1181 := n1_; have HB := n2_; clear n0_ n1_ n2_; (try clear hb); (try clear hb2); (try clear hk); (try clear hi); (try clear ho0); have hcz24_0 : w23.cell? ⟨gb1181, 0, none⟩ = some (.int .i64 a0_0) := (bC_ BK1181.out 0).trans rfl; have hcz24_1 : w23.cell? ⟨gb1181, 1, none⟩ = some (.slice A0_1 l0_1.length c0_1) := (bC_ BK1181.out 1).trans rfl; have hfz24_0 := bF_ BK1181.out 0; have hfz24_1 := bF_ BK1181.out 1) | ((with_reducible refine gate_callee (f := 40) rfl ?_); refine goesL_ (some 31) rfl rfl Try.func40 (by kernel_rfl) rfl #[.agg #[.int .i64 a0_0, .slice A0_1 l0_1.length c0_1]] rfl (by (try simp only [mT_, mC_, mN_]); first | done | rfl | (simp only [lD_, lT_]; rfl)) ?_; (with_reducible refine (diffs_Clash.calls kj5 a0_0 _ _ l0_1 t1189 t1192 t1193 _ ?side1 ?side2 A20.out).mono ?_); (case side1 => repeat (first | exact (cB_ HR0_1.out HB.out) | (with_reducible refine Kd.C_alloc ?_ _) | (with_reducible refine Kd.C_drewN ?_ _) | (with_reducible refine Kd.C_drew ?_))); (case side2 => exact HC0_1.out); rintro e w25 ⟨v1190, rfl, ho0, hb⟩; refine ⟨_, rfl, ?_⟩; have n0_ := Z_ (Kd.R_elder' (by (with_reducible repeat (first | apply rA_ | apply rN_ | apply rD_)); exact HO1187.out) (Kd.R_base ho0) hb); have n1_ := Z_ (rL_ (Kd.R_new' ho0 (Kd.R_lt (by (with_reducible repeat (first | apply rA_ | apply rN_ | apply rD_)); exact HO1187.out))) (fZ_ (by repeat (first | (with_reducible first | exact HB.out | apply fA_ | apply pB_ | apply fD_ | refine fE_ ?_ GE1181.out) | exact HB.out)))); have n2_ := Z_ (bB_ (g := gb1181) (o := .cells #[.int .i64 a0_0, .slice A0_1 l0_1.length c0_1] 24 (0, 0)) (by (with_reducible repeat (first | refine bN_ ?_ _ | refine bD_ ?_ | refine bA_ ?_ _)); exact BK1181.out) hb); have n3_ := Z_ (fS_ (by repeat (first | (with_reducible first | exact HB.out | apply fA_ | apply pB_ | apply fD_ | refine fE_ ?_ GE1181.out) | exact HB.out)) hb); clear HO1187; clear BK1181; clear HB; have HO1187 := n0_; have HO1191 := n1_; have BK1181 := n2_; have HB := n3_; clear n0_ n1_ n2_ n3_; (try clear hb); (try clear hb2); (try clear hk); (try clear hi); (try clear ho0))); (try simp only [Act.put, sT_, sZ_, sS_])
        go_cut [10, 50] (fun v10 v50 wc => v10 = .bool t1192 ∧ ∃ (kq : Nat) (x50_20 : Bool), v50 = .bool x50_20 ∧ Aside0 (snowlinelaw04_DiffsRounds.j1 kq l1 l2 t1185 t1188 t1189 x50_20 a0_0 l0_1 = some r) ∧ Aside0 (kq ≤ kj5) ∧ Aside0 (Kd.R (Kd.int .i64) 3 wc w.heap.size (fun k_ => some k_ ≠ (v1190 : Value).ownBlock) v1186 t1185) ∧ Aside0 (Kd.R (Kd.int .i64) 3 wc w.heap.size (fun k_ => some k_ ≠ (v1186 : Value).ownBlock) v1190 t1189) ∧ Aside0 (wc.heap[gb1181]? = some (.cells #[.int .i64 a0_0, (.slice A0_1 l0_1.length c0_1)] 24 (0, 0))) ∧ Aside0 (Below w.heap.size w wc))
        case first =>
          have H := HC21.out; clear HC21; by_cases c26 : t1193 = 0
          · rw [if_pos c26] at H
            have c26b0 : (t1193 == 0) = true := beq_iff_eq.mpr c26; have c26b1 : (t1193 != 0) = false := bne_eq_false_iff_eq.mpr c26; clear c26; (first | rw [c26b0] | (simp only [i64_w, i32_w]; rw [c26b0]) | skip)
            by_cases c27 : (t1192 == (t1188 == 0)) = true
            · rw [if_pos c27] at H
              have c27b0 : (t1192 == (t1188 == 0)) = true := c27; (try (have c27b1 : decide (t1192 = (t1188 == 0)) = true := by simpa using c27))
              (try (have c27b2 : (t1192 == (t1188 == 0)) = true := by simpa using c27))
              clear c27; have H' := Z_ H; clear H; go_wp2; go_meet
              case rel => exact ⟨(by first | rfl | (simp; done) | (simp [*]; done)), _, (true), (by first | rfl | (simp; done) | (simp [*]; done)), H', ⟨by have := HJ5.out; first | omega | exact nR_ _⟩, ⟨by (with_reducible repeat (first | apply rA_ | apply rN_ | apply rD_)); exact rM_ HO1187.out (fun _ hk => hk.2)⟩, ⟨by (with_reducible repeat (first | apply rA_ | apply rN_ | apply rD_)); exact rM_ HO1191.out (fun _ hk => hk.2)⟩, ⟨by (with_reducible repeat (first | refine bN_ ?_ _ | refine bD_ ?_ | refine bA_ ?_ _)); exact BK1181.out⟩, ⟨by repeat (first | (with_reducible first | exact HB.out | apply fA_ | apply pB_ | apply fD_ | refine fE_ ?_ GE1181.out) | exact HB.out)⟩⟩
            rw [if_neg c27] at H; have c27b0 : (t1192 == (t1188 == 0)) = false := by simpa using c27
            (try (have c27b1 : decide (t1192 = (t1188 == 0)) = false := by simpa using c27))
            (try (have c27b2 : (t1192 == (t1188 == 0)) = false := by simpa using c27))
            (try (have c27b3 : ¬ (t1192 = (t1188 == 0)) := by simpa using c27))
            clear c27; by_cases c28 : t1188 = 0
            · rw [if_pos c28] at H
              have c28b0 : (t1188 == 0) = true := beq_iff_eq.mpr c28; have c28b1 : (t1188 != 0) = false := bne_eq_false_iff_eq.mpr c28; clear c28; have H' := Z_ H; clear H; have hz : t1192 = false := by rw [c28b0] at c27b3; simpa only [Bool.not_eq_false, Bool.not_eq_true] using c27b3
              subst hz; clear c27b0 c27b1 c27b2 c27b3; go_wp2; go_meet
              case rel => exact ⟨(by first | rfl | (simp; done) | (simp [*]; done)), _, (false), (by first | rfl | (simp; done) | (simp [*]; done)), H', ⟨by have := HJ5.out; first | omega | exact nR_ _⟩, ⟨by (with_reducible repeat (first | apply rA_ | apply rN_ | apply rD_)); exact rM_ HO1187.out (fun _ hk => hk.2)⟩, ⟨by (with_reducible repeat (first | apply rA_ | apply rN_ | apply rD_)); exact rM_ HO1191.out (fun _ hk => hk.2)⟩, ⟨by (with_reducible repeat (first | refine bN_ ?_ _ | refine bD_ ?_ | refine bA_ ?_ _)); exact BK1181.out⟩, ⟨by repeat (first | (with_reducible first | exact HB.out | apply fA_ | apply pB_ | apply fD_ | refine fE_ ?_ GE1181.out) | exact HB.out)⟩⟩
            rw [if_neg c28] at H; have c28b0 : (t1188 == 0) = false := beq_eq_false_iff_ne.mpr c28; have c28b1 : (t1188 != 0) = true := bne_iff_ne.mpr c28; have H' := Z_ H; clear H; have hz : t1192 = true := by rw [c28b0] at c27b3; simpa only [Bool.not_eq_false, Bool.not_eq_true] using c27b3
            subst hz; clear c27b0 c27b1 c27b2 c27b3; go_wp2; go_meet
            case rel => exact ⟨(by first | rfl | (simp; done) | (simp [*]; done)), _, ((t1188 != 41)), (by first | rfl | (simp; done) | (simp [*]; done)), H', ⟨by have := HJ5.out; first | omega | exact nR_ _⟩, ⟨by (with_reducible repeat (first | apply rA_ | apply rN_ | apply rD_)); exact rM_ HO1187.out (fun _ hk => hk.2)⟩, ⟨by (with_reducible repeat (first | apply rA_ | apply rN_ | apply rD_)); exact rM_ HO1191.out (fun _ hk => hk.2)⟩, ⟨by (with_reducible repeat (first | refine bN_ ?_ _ | refine bD_ ?_ | refine bA_ ?_ _)); exact BK1181.out⟩, ⟨by repeat (first | (with_reducible first | exact HB.out | apply fA_ | apply pB_ | apply fD_ | refine fE_ ?_ GE1181.out) | exact HB.out)⟩⟩
          rw [if_neg c26] at H; have c26b0 : (t1193 == 0) = false := beq_eq_false_iff_ne.mpr c26; have c26b1 : (t1193 != 0) = true := bne_iff_ne.mpr c26; (first | rw [c26b0] | (simp only [i64_w, i32_w]; rw [c26b0]) | skip)
          have H' := Z_ H; clear H; go_wp2; go_meet
          case rel => exact ⟨(by first | rfl | (simp; done) | (simp [*]; done)), _, (true), (by first | rfl | (simp; done) | (simp [*]; done)), H', ⟨by have := HJ5.out; first | omega | exact nR_ _⟩, ⟨by (with_reducible repeat (first | apply rA_ | apply rN_ | apply rD_)); exact rM_ HO1187.out (fun _ hk => hk.2)⟩, ⟨by (with_reducible repeat (first | apply rA_ | apply rN_ | apply rD_)); exact rM_ HO1191.out (fun _ hk => hk.2)⟩, ⟨by (with_reducible repeat (first | refine bN_ ?_ _ | refine bD_ ?_ | refine bA_ ?_ _)); exact BK1181.out⟩, ⟨by repeat (first | (with_reducible first | exact HB.out | apply fA_ | apply pB_ | apply fD_ | refine fE_ ?_ GE1181.out) | exact HB.out)⟩⟩
        case rest =>
          clear HC21; try clear c1
          try clear c2
          try clear p2
          try clear c3
          try clear c4
          try clear c5
          try clear c10
          try clear c10b0
          try clear c10b1
          try clear c16
          try clear c18
          try clear c21
          try clear c26
          try clear c26b0
          try clear c26b1
          try clear c27
          try clear c27b0
          try clear c27b1
          try clear c27b2
          try clear c28
          try clear c28b0
          try clear c28b1
          try clear hcz12_0
          try clear hcz12_1
          try clear hcz14_0
          try clear hcz14_1
          try clear hcz16_0
          try clear hcz16_1
          try clear hcz22_0
          try clear hcz22_1
          try clear hcz24_0
          try clear hcz24_1
          try clear hfz12_0
          try clear hfz12_1
          try clear hfz14_0
          try clear hfz14_1
          try clear hfz16_0
          try clear hfz16_1
          try clear hfz22_0
          try clear hfz22_1
          try clear hfz24_0
          try clear hfz24_1
          try clear p2
          obtain ⟨rfl, kq, x50_20, rfl, HA, HJ20, HO_7, HO_9, BK1181, HB⟩ := hcut
          cases kq with
          | zero => exact absurd HA.out (by simp [snowlinelaw04_DiffsRounds.j1])
          | succ kj20 =>
            have H := HA.out; clear HA; simp only [snowlinelaw04_DiffsRounds.j1] at H; by_cases c29 : x50_20 = true
            · subst c29
              have H1 : (some false) = some r := by rw [if_pos rfl] at H; exact H
              clear H; have H := H1; clear H1; obtain rfl := oI_ H; go_wp2; go_ret; exact ⟨by first | rfl | (simp [errW_none, errW_some] <;> rfl) | (simp [*, errW_none, errW_some] <;> rfl), by repeat (first | (with_reducible first | exact HB.out | apply fA_ | apply pB_ | apply fD_ | refine fE_ ?_ GE1181.out) | exact HB.out)⟩
            replace c29 := bE_.mpr c29; subst c29; have H1 : (if t1188 = 0 then ((snowlinelaw04_fulfils.f kj20 a0_0 l0_1 t1185).bind fun t1194 => (if t1194 = true then ((diffs_CheckClash.f kj20 a0_0 l0_1 l1).bind fun t1195 => (some (t1195 != 0))) else (some false))) else ((diffs_Holds.f kj20 a0_0 l0_1 l2).bind fun bt1196 => ((diffs_CheckClash.f kj20 a0_0 l0_1 t1189).bind fun t1198 => (if t1198 = 0 then (if bt1196.1 = true then (some false) else ((snowlinelaw04_fulfils.f kj20 a0_0 l0_1 l2).bind fun t1199 => (some (!t1199)))) else (some false))))) = some r := by rw [if_neg (show ¬ (false = true) by decide)] at H; exact H
            clear H; have H := H1; clear H1; by_cases c30 : t1188 = 0
            · rw [if_pos c30] at H
              have c30b0 : (t1188 == 0) = true := beq_iff_eq.mpr c30; have c30b1 : (t1188 != 0) = false := bne_eq_false_iff_eq.mpr c30; clear c30; replace H := oS_.mp H; obtain ⟨t1194, A310, H⟩ := H; replace H : (if t1194 = true then ((diffs_CheckClash.f kj20 a0_0 l0_1 l1).bind fun t1195 => (some (t1195 != 0))) else (some false)) = some r := H; have A31 := Z_ A310; clear A310; by_cases c32 : t1194 = true
              · subst c32
                have H1 : ((diffs_CheckClash.f kj20 a0_0 l0_1 l1).bind fun t1195 => (some (t1195 != 0))) = some r := by rw [if_pos rfl] at H; exact H
                clear H; have H := H1; clear H1; replace H := oS_.mp H; obtain ⟨t1195, A330, H⟩ := H; replace H : (some (t1195 != 0)) = some r := H; have A33 := Z_ A330; clear A330; obtain rfl := oI_ H; have hcz34_0 : wc.cell? ⟨gb1181, 0, none⟩ = some (.int .i64 a0_0) := (bC_ BK1181.out 0).trans rfl; have hcz34_1 : wc.cell? ⟨gb1181, 1, none⟩ = some (.slice A0_1 l0_1.length c0_1) := (bC_ BK1181.out 1).trans rfl; have hfz34_0 := bF_ BK1181.out 0; have hfz34_1 := bF_ BK1181.out 1; obtain ⟨Ao35, co35, eo35⟩ := rS_ HO_7.out; subst eo35; go_wp2_with (first | ((with_reducible refine gate_callee (f := 48) rfl ?_); refine goesL_ (some 55) rfl rfl Try.func48 (by kernel_rfl) rfl #[.agg #[.int .i64 a0_0, .slice A0_1 l0_1.length c0_1], .slice Ao35 t1185.length co35] rfl (by (try simp only [mT_, mC_, mN_]); first | done | rfl | (simp only [lD_, lT_]; rfl)) ?_; (with_reducible refine (snowlinelaw04_fulfils.calls kj20 a0_0 _ _ l0_1 _ _ t1185 true _ ?side1 ?side2 ?side3 ?side4 A31.out).mono ?_); (case side1 => repeat (first | exact (cB_ HR0_1.out HB.out) | (with_reducible refine Kd.C_alloc ?_ _) | (with_reducible refine Kd.C_drewN ?_ _) | (with_reducible refine Kd.C_drew ?_))); (case side2 => exact HC0_1.out); (case side3 => repeat (first | exact (rR_ HO_7.out).2.2 | (with_reducible refine Kd.C_alloc ?_ _) | (with_reducible refine Kd.C_drewN ?_ _) | (with_reducible refine Kd.C_drew ?_))); (case side4 => exact (rR_ HO_7.out).2.1); rintro e w36 ⟨rfl, hb⟩; refine ⟨_, rfl, ?_⟩; have n0_ := Z_ (rB_ (by (with_reducible repeat (first | apply rA_ | apply rN_ | apply rD_)); exact HO_7.out) hb); have n1_ := Z_ (rB_ (by (with_reducible repeat (first | apply rA_ | apply rN_ | apply rD_)); exact HO_9.out) hb); have n2_ := Z_ (bB_ (g := gb1181) (o := .cells #[.int .i64 a0_0, .slice A0_1 l0_1.length c0_1] 24 (0, 0)) (by (with_reducible repeat (first | refine bN_ ?_ _ | refine bD_ ?_ | refine bA_ ?_ _)); exact BK1181.out) hb); have n3_ := Z_ (fS_ (by repeat (first | (with_reducible first | exact HB.out | apply fA_ | apply pB_ | apply fD_ | refine fE_ ?_ GE1181.out) | exact HB.out)) hb); clear HO_7; clear HO_9; clear BK1181; clear HB; have HO_7 := n0_; have HO_9 := n1_; have BK1181 := n2_; have HB := n3_; clear n0_ n1_ n2_ n3_; (try clear hb); (try clear hb2); (try clear hk); (try clear hi); have hcz37_0 : w36.cell? ⟨gb1181, 0, none⟩ = some (.int .i64 a0_0) := (bC_ BK1181.out 0).trans rfl; have hcz37_1 : w36.cell? ⟨gb1181, 1, none⟩ = some (.slice A0_1 l0_1.length c0_1) := (bC_ BK1181.out 1).trans rfl; have hfz37_0 := bF_ BK1181.out 0; have hfz37_1 := bF_ BK1181.out 1) | (go_at_call 37; (with_reducible refine (diffs_CheckClash.calls kj20 a0_0 _ _ l0_1 _ _ l1 t1195 _ ?side1 ?side2 ?side3 ?side4 A33.out).mono ?_); (case side1 => repeat (first | exact (cB_ HR0_1.out HB.out) | (with_reducible refine Kd.C_alloc ?_ _) | (with_reducible refine Kd.C_drewN ?_ _) | (with_reducible refine Kd.C_drew ?_))); (case side2 => exact HC0_1.out); (case side3 => repeat (first | exact (cB_ HR1.out HB.out) | (with_reducible refine Kd.C_alloc ?_ _) | (with_reducible refine Kd.C_drewN ?_ _) | (with_reducible refine Kd.C_drew ?_))); (case side4 => exact HC1.out); rintro e w38 ⟨rfl, hb⟩; have n0_ := Z_ (rB_ (by (with_reducible repeat (first | apply rA_ | apply rN_ | apply rD_)); exact HO_7.out) hb); have n1_ := Z_ (rB_ (by (with_reducible repeat (first | apply rA_ | apply rN_ | apply rD_)); exact HO_9.out) hb); have n2_ := Z_ (bB_ (g := gb1181) (o := .cells #[.int .i64 a0_0, .slice A0_1 l0_1.length c0_1] 24 (0, 0)) (by (with_reducible repeat (first | refine bN_ ?_ _ | refine bD_ ?_ | refine bA_ ?_ _)); exact BK1181.out) hb); have n3_ := Z_ (fS_ (by repeat (first | (with_reducible first | exact HB.out | apply fA_ | apply pB_ | apply fD_ | refine fE_ ?_ GE1181.out) | exact HB.out)) hb); clear HO_7; clear HO_9; clear BK1181; clear HB; have HO_7 := n0_; have HO_9 := n1_; have BK1181 := n2_; have HB := n3_; clear n0_ n1_ n2_ n3_; (try clear hb); (try clear hb2); (try clear hk); (try clear hi))); go_ret; exact ⟨by first | rfl | (simp [errW_none, errW_some] <;> rfl) | (simp [*, errW_none, errW_some] <;> rfl), by repeat (first | (with_reducible first | exact HB.out | apply fA_ | apply pB_ | apply fD_ | refine fE_ ?_ GE1181.out) | exact HB.out)⟩
              replace c32 := bE_.mpr c32; subst c32; have H1 : (some false) = some r := by rw [if_neg (show ¬ (false = true) by decide)] at H; exact H
              clear H; have H := H1; clear H1; obtain rfl := oI_ H; have hcz39_0 : wc.cell? ⟨gb1181, 0, none⟩ = some (.int .i64 a0_0) := (bC_ BK1181.out 0).trans rfl; have hcz39_1 : wc.cell? ⟨gb1181, 1, none⟩ = some (.slice A0_1 l0_1.length c0_1) := (bC_ BK1181.out 1).trans rfl; have hfz39_0 := bF_ BK1181.out 0; have hfz39_1 := bF_ BK1181.out 1; obtain ⟨Ao40, co40, eo40⟩ := rS_ HO_7.out; subst eo40; go_wp2_with (first | ((with_reducible refine gate_callee (f := 48) rfl ?_); refine goesL_ (some 55) rfl rfl Try.func48 (by kernel_rfl) rfl #[.agg #[.int .i64 a0_0, .slice A0_1 l0_1.length c0_1], .slice Ao40 t1185.length co40] rfl (by (try simp only [mT_, mC_, mN_]); first | done | rfl | (simp only [lD_, lT_]; rfl)) ?_; (with_reducible refine (snowlinelaw04_fulfils.calls kj20 a0_0 _ _ l0_1 _ _ t1185 false _ ?side1 ?side2 ?side3 ?side4 A31.out).mono ?_); (case side1 => repeat (first | exact (cB_ HR0_1.out HB.out) | (with_reducible refine Kd.C_alloc ?_ _) | (with_reducible refine Kd.C_drewN ?_ _) | (with_reducible refine Kd.C_drew ?_))); (case side2 => exact HC0_1.out); (case side3 => repeat (first | exact (rR_ HO_7.out).2.2 | (with_reducible refine Kd.C_alloc ?_ _) | (with_reducible refine Kd.C_drewN ?_ _) | (with_reducible refine Kd.C_drew ?_))); (case side4 => exact (rR_ HO_7.out).2.1); rintro e w41 ⟨rfl, hb⟩; refine ⟨_, rfl, ?_⟩; have n0_ := Z_ (rB_ (by (with_reducible repeat (first | apply rA_ | apply rN_ | apply rD_)); exact HO_7.out) hb); have n1_ := Z_ (rB_ (by (with_reducible repeat (first | apply rA_ | apply rN_ | apply rD_)); exact HO_9.out) hb); have n2_ := Z_ (bB_ (g := gb1181) (o := .cells #[.int .i64 a0_0, .slice A0_1 l0_1.length c0_1] 24 (0, 0)) (by (with_reducible repeat (first | refine bN_ ?_ _ | refine bD_ ?_ | refine bA_ ?_ _)); exact BK1181.out) hb); have n3_ := Z_ (fS_ (by repeat (first | (with_reducible first | exact HB.out | apply fA_ | apply pB_ | apply fD_ | refine fE_ ?_ GE1181.out) | exact HB.out)) hb); clear HO_7; clear HO_9; clear BK1181; clear HB; have HO_7 := n0_; have HO_9 := n1_; have BK1181 := n2_; have HB := n3_; clear n0_ n1_ n2_ n3_; (try clear hb); (try clear hb2); (try clear hk); (try clear hi))); go_ret; exact ⟨by first | rfl | (simp [errW_none, errW_some] <;> rfl) | (simp [*, errW_none, errW_some] <;> rfl), by repeat (first | (with_reducible first | exact HB.out | apply fA_ | apply pB_ | apply fD_ | refine fE_ ?_ GE1181.out) | exact HB.out)⟩
            rw [if_neg c30] at H; have c30b0 : (t1188 == 0) = false := beq_eq_false_iff_ne.mpr c30; have c30b1 : (t1188 != 0) = true := bne_iff_ne.mpr c30; replace H := oS_.mp H; obtain ⟨⟨t1196, t1197⟩, A420, H⟩ := H; replace H : ((diffs_CheckClash.f kj20 a0_0 l0_1 t1189).bind fun t1198 => (if t1198 = 0 then (if t1196 = true then (some false) else ((snowlinelaw04_fulfils.f kj20 a0_0 l0_1 l2).bind fun t1199 => (some (!t1199)))) else (some false))) = some r := H; have A42 := Z_ A420; clear A420; replace H := oS_.mp H; obtain ⟨t1198, A430, H⟩ := H; replace H : (if t1198 = 0 then (if t1196 = true then (some false) else ((snowlinelaw04_fulfils.f kj20 a0_0 l0_1 l2).bind fun t1199 => (some (!t1199)))) else (some false)) = some r := H; have A43 := Z_ A430; clear A430; by_cases c44 : t1198 = 0
            · rw [if_pos c44] at H
              have c44b0 : (t1198 == 0) = true := beq_iff_eq.mpr c44; have c44b1 : (t1198 != 0) = false := bne_eq_false_iff_eq.mpr c44; clear c44; by_cases c45 : t1196 = true
              · subst c45
                have H1 : (some false) = some r := by rw [if_pos rfl] at H; exact H
                clear H; have H := H1; clear H1; obtain rfl := oI_ H; have hcz46_0 : wc.cell? ⟨gb1181, 0, none⟩ = some (.int .i64 a0_0) := (bC_ BK1181.out 0).trans rfl; have hcz46_1 : wc.cell? ⟨gb1181, 1, none⟩ = some (.slice A0_1 l0_1.length c0_1) := (bC_ BK1181.out 1).trans rfl; have hfz46_0 := bF_ BK1181.out 0; have hfz46_1 := bF_ BK1181.out 1; go_wp2_with (first | ((with_reducible refine gate_callee (f := 56) rfl ?_); refine goesL_ (some 65) rfl rfl Try.func56 (by kernel_rfl) rfl #[.agg #[.int .i64 a0_0, .slice A0_1 l0_1.length c0_1], .slice A2 l2.length c2] rfl (by (try simp only [mT_, mC_, mN_]); first | done | rfl | (simp only [lD_, lT_]; rfl)) ?_; (with_reducible refine (diffs_Holds.calls kj20 a0_0 _ _ l0_1 _ _ l2 true t1197 _ ?side1 ?side2 ?side3 ?side4 A42.out).mono ?_); (case side1 => repeat (first | exact (cB_ HR0_1.out HB.out) | (with_reducible refine Kd.C_alloc ?_ _) | (with_reducible refine Kd.C_drewN ?_ _) | (with_reducible refine Kd.C_drew ?_))); (case side2 => exact HC0_1.out); (case side3 => repeat (first | exact (cB_ HR2.out HB.out) | (with_reducible refine Kd.C_alloc ?_ _) | (with_reducible refine Kd.C_drewN ?_ _) | (with_reducible refine Kd.C_drew ?_))); (case side4 => exact HC2.out); rintro e w47 ⟨rfl, hb⟩; refine ⟨_, rfl, ?_⟩; have n0_ := Z_ (rB_ (by (with_reducible repeat (first | apply rA_ | apply rN_ | apply rD_)); exact HO_7.out) hb); have n1_ := Z_ (rB_ (by (with_reducible repeat (first | apply rA_ | apply rN_ | apply rD_)); exact HO_9.out) hb); have n2_ := Z_ (bB_ (g := gb1181) (o := .cells #[.int .i64 a0_0, .slice A0_1 l0_1.length c0_1] 24 (0, 0)) (by (with_reducible repeat (first | refine bN_ ?_ _ | refine bD_ ?_ | refine bA_ ?_ _)); exact BK1181.out) hb); have n3_ := Z_ (fS_ (by repeat (first | (with_reducible first | exact HB.out | apply fA_ | apply pB_ | apply fD_ | refine fE_ ?_ GE1181.out) | exact HB.out)) hb); clear HO_7; clear HO_9; clear BK1181; clear HB; have HO_7 := n0_; have HO_9 := n1_; have BK1181 := n2_; have HB := n3_; clear n0_ n1_ n2_ n3_; (try clear hb); (try clear hb2); (try clear hk); (try clear hi); have hcz48_0 : w47.cell? ⟨gb1181, 0, none⟩ = some (.int .i64 a0_0) := (bC_ BK1181.out 0).trans rfl; have hcz48_1 : w47.cell? ⟨gb1181, 1, none⟩ = some (.slice A0_1 l0_1.length c0_1) := (bC_ BK1181.out 1).trans rfl; have hfz48_0 := bF_ BK1181.out 0; have hfz48_1 := bF_ BK1181.out 1; obtain ⟨Ao49, co49, eo49⟩ := rS_ HO_9.out; subst eo49) | ((with_reducible refine gate_callee (f := 37) rfl ?_); refine goesL_ (some 70) rfl rfl Try.func37 (by kernel_rfl) rfl #[.agg #[.int .i64 a0_0, .slice A0_1 l0_1.length c0_1], .slice Ao49 t1189.length co49] rfl (by (try simp only [mT_, mC_, mN_]); first | done | rfl | (simp only [lD_, lT_]; rfl)) ?_; (with_reducible refine (diffs_CheckClash.calls kj20 a0_0 _ _ l0_1 _ _ t1189 t1198 _ ?side1 ?side2 ?side3 ?side4 A43.out).mono ?_); (case side1 => repeat (first | exact (cB_ HR0_1.out HB.out) | (with_reducible refine Kd.C_alloc ?_ _) | (with_reducible refine Kd.C_drewN ?_ _) | (with_reducible refine Kd.C_drew ?_))); (case side2 => exact HC0_1.out); (case side3 => repeat (first | exact (rR_ HO_9.out).2.2 | (with_reducible refine Kd.C_alloc ?_ _) | (with_reducible refine Kd.C_drewN ?_ _) | (with_reducible refine Kd.C_drew ?_))); (case side4 => exact (rR_ HO_9.out).2.1); rintro e w50 ⟨rfl, hb⟩; refine ⟨_, rfl, ?_⟩; have n0_ := Z_ (rB_ (by (with_reducible repeat (first | apply rA_ | apply rN_ | apply rD_)); exact HO_7.out) hb); have n1_ := Z_ (rB_ (by (with_reducible repeat (first | apply rA_ | apply rN_ | apply rD_)); exact HO_9.out) hb); have n2_ := Z_ (bB_ (g := gb1181) (o := .cells #[.int .i64 a0_0, .slice A0_1 l0_1.length c0_1] 24 (0, 0)) (by (with_reducible repeat (first | refine bN_ ?_ _ | refine bD_ ?_ | refine bA_ ?_ _)); exact BK1181.out) hb); have n3_ := Z_ (fS_ (by repeat (first | (with_reducible first | exact HB.out | apply fA_ | apply pB_ | apply fD_ | refine fE_ ?_ GE1181.out) | exact HB.out)) hb); clear HO_7; clear HO_9; clear BK1181; clear HB; have HO_7 := n0_; have HO_9 := n1_; have BK1181 := n2_; have HB := n3_; clear n0_ n1_ n2_ n3_; (try clear hb); (try clear hb2); (try clear hk); (try clear hi))); go_ret; exact ⟨by first | rfl | (simp [errW_none, errW_some] <;> rfl) | (simp [*, errW_none, errW_some] <;> rfl), by repeat (first | (with_reducible first | exact HB.out | apply fA_ | apply pB_ | apply fD_ | refine fE_ ?_ GE1181.out) | exact HB.out)⟩
              replace c45 := bE_.mpr c45; subst c45; have H1 : ((snowlinelaw04_fulfils.f kj20 a0_0 l0_1 l2).bind fun t1199 => (some (!t1199))) = some r := by rw [if_neg (show ¬ (false = true) by decide)] at H; exact H
              clear H; have H := H1; clear H1; replace H := oS_.mp H; obtain ⟨t1199, A510, H⟩ := H; replace H : (some (!t1199)) = some r := H; have A51 := Z_ A510; clear A510; obtain rfl := oI_ H; have hcz52_0 : wc.cell? ⟨gb1181, 0, none⟩ = some (.int .i64 a0_0) := (bC_ BK1181.out 0).trans rfl; have hcz52_1 : wc.cell? ⟨gb1181, 1, none⟩ = some (.slice A0_1 l0_1.length c0_1) := (bC_ BK1181.out 1).trans rfl; have hfz52_0 := bF_ BK1181.out 0; have hfz52_1 := bF_ BK1181.out 1; go_wp2_with (first | ((with_reducible refine gate_callee (f := 56) rfl ?_); refine goesL_ (some 65) rfl rfl Try.func56 (by kernel_rfl) rfl #[.agg #[.int .i64 a0_0, .slice A0_1 l0_1.length c0_1], .slice A2 l2.length c2] rfl (by (try simp only [mT_, mC_, mN_]); first | done | rfl | (simp only [lD_, lT_]; rfl)) ?_; (with_reducible refine (diffs_Holds.calls kj20 a0_0 _ _ l0_1 _ _ l2 false t1197 _ ?side1 ?side2 ?side3 ?side4 A42.out).mono ?_); (case side1 => repeat (first | exact (cB_ HR0_1.out HB.out) | (with_reducible refine Kd.C_alloc ?_ _) | (with_reducible refine Kd.C_drewN ?_ _) | (with_reducible refine Kd.C_drew ?_))); (case side2 => exact HC0_1.out); (case side3 => repeat (first | exact (cB_ HR2.out HB.out) | (with_reducible refine Kd.C_alloc ?_ _) | (with_reducible refine Kd.C_drewN ?_ _) | (with_reducible refine Kd.C_drew ?_))); (case side4 => exact HC2.out); rintro e w53 ⟨rfl, hb⟩; refine ⟨_, rfl, ?_⟩; have n0_ := Z_ (rB_ (by (with_reducible repeat (first | apply rA_ | apply rN_ | apply rD_)); exact HO_7.out) hb); have n1_ := Z_ (rB_ (by (with_reducible repeat (first | apply rA_ | apply rN_ | apply rD_)); exact HO_9.out) hb); have n2_ := Z_ (bB_ (g := gb1181) (o := .cells #[.int .i64 a0_0, .slice A0_1 l0_1.length c0_1] 24 (0, 0)) (by (with_reducible repeat (first | refine bN_ ?_ _ | refine bD_ ?_ | refine bA_ ?_ _)); exact BK1181.out) hb); have n3_ := Z_ (fS_ (by repeat (first | (with_reducible first | exact HB.out | apply fA_ | apply pB_ | apply fD_ | refine fE_ ?_ GE1181.out) | exact HB.out)) hb); clear HO_7; clear HO_9; clear BK1181; clear HB; have HO_7 := n0_; have HO_9 := n1_; have BK1181 := n2_; have HB := n3_; clear n0_ n1_ n2_ n3_; (try clear hb); (try clear hb2); (try clear hk); (try clear hi); have hcz54_0 : w53.cell? ⟨gb1181, 0, none⟩ = some (.int .i64 a0_0) := (bC_ BK1181.out 0).trans rfl; have hcz54_1 : w53.cell? ⟨gb1181, 1, none⟩ = some (.slice A0_1 l0_1.length c0_1) := (bC_ BK1181.out 1).trans rfl; have hfz54_0 := bF_ BK1181.out 0; have hfz54_1 := bF_ BK1181.out 1; obtain ⟨Ao55, co55, eo55⟩ := rS_ HO_9.out; subst eo55) | ((with_reducible refine gate_callee (f := 37) rfl ?_); refine goesL_ (some 70) rfl rfl Try.func37 (by kernel_rfl) rfl #[.agg #[.int .i64 a0_0, .slice A0_1 l0_1.length c0_1], .slice Ao55 t1189.length co55] rfl (by (try simp only [mT_, mC_, mN_]); first | done | rfl | (simp only [lD_, lT_]; rfl)) ?_; (with_reducible refine (diffs_CheckClash.calls kj20 a0_0 _ _ l0_1 _ _ t1189 t1198 _ ?side1 ?side2 ?side3 ?side4 A43.out).mono ?_); (case side1 => repeat (first | exact (cB_ HR0_1.out HB.out) | (with_reducible refine Kd.C_alloc ?_ _) | (with_reducible refine Kd.C_drewN ?_ _) | (with_reducible refine Kd.C_drew ?_))); (case side2 => exact HC0_1.out); (case side3 => repeat (first | exact (rR_ HO_9.out).2.2 | (with_reducible refine Kd.C_alloc ?_ _) | (with_reducible refine Kd.C_drewN ?_ _) | (with_reducible refine Kd.C_drew ?_))); (case side4 => exact (rR_ HO_9.out).2.1); rintro e w56 ⟨rfl, hb⟩; refine ⟨_, rfl, ?_⟩; have n0_ := Z_ (rB_ (by (with_reducible repeat (first | apply rA_ | apply rN_ | apply rD_)); exact HO_7.out) hb); have n1_ := Z_ (rB_ (by (with_reducible repeat (first | apply rA_ | apply rN_ | apply rD_)); exact HO_9.out) hb); have n2_ := Z_ (bB_ (g := gb1181) (o := .cells #[.int .i64 a0_0, .slice A0_1 l0_1.length c0_1] 24 (0, 0)) (by (with_reducible repeat (first | refine bN_ ?_ _ | refine bD_ ?_ | refine bA_ ?_ _)); exact BK1181.out) hb); have n3_ := Z_ (fS_ (by repeat (first | (with_reducible first | exact HB.out | apply fA_ | apply pB_ | apply fD_ | refine fE_ ?_ GE1181.out) | exact HB.out)) hb); clear HO_7; clear HO_9; clear BK1181; clear HB; have HO_7 := n0_; have HO_9 := n1_; have BK1181 := n2_; have HB := n3_; clear n0_ n1_ n2_ n3_; (try clear hb); (try clear hb2); (try clear hk); (try clear hi); have hcz57_0 : w56.cell? ⟨gb1181, 0, none⟩ = some (.int .i64 a0_0) := (bC_ BK1181.out 0).trans rfl; have hcz57_1 : w56.cell? ⟨gb1181, 1, none⟩ = some (.slice A0_1 l0_1.length c0_1) := (bC_ BK1181.out 1).trans rfl; have hfz57_0 := bF_ BK1181.out 0; have hfz57_1 := bF_ BK1181.out 1) | (go_at_call 48; (with_reducible refine (snowlinelaw04_fulfils.calls kj20 a0_0 _ _ l0_1 _ _ l2 t1199 _ ?side1 ?side2 ?side3 ?side4 A51.out).mono ?_); (case side1 => repeat (first | exact (cB_ HR0_1.out HB.out) | (with_reducible refine Kd.C_alloc ?_ _) | (with_reducible refine Kd.C_drewN ?_ _) | (with_reducible refine Kd.C_drew ?_))); (case side2 => exact HC0_1.out); (case side3 => repeat (first | exact (cB_ HR2.out HB.out) | (with_reducible refine Kd.C_alloc ?_ _) | (with_reducible refine Kd.C_drewN ?_ _) | (with_reducible refine Kd.C_drew ?_))); (case side4 => exact HC2.out); rintro e w58 ⟨rfl, hb⟩; have n0_ := Z_ (rB_ (by (with_reducible repeat (first | apply rA_ | apply rN_ | apply rD_)); exact HO_7.out) hb); have n1_ := Z_ (rB_ (by (with_reducible repeat (first | apply rA_ | apply rN_ | apply rD_)); exact HO_9.out) hb); have n2_ := Z_ (bB_ (g := gb1181) (o := .cells #[.int .i64 a0_0, .slice A0_1 l0_1.length c0_1] 24 (0, 0)) (by (with_reducible repeat (first | refine bN_ ?_ _ | refine bD_ ?_ | refine bA_ ?_ _)); exact BK1181.out) hb); have n3_ := Z_ (fS_ (by repeat (first | (with_reducible first | exact HB.out | apply fA_ | apply pB_ | apply fD_ | refine fE_ ?_ GE1181.out) | exact HB.out)) hb); clear HO_7; clear HO_9; clear BK1181; clear HB; have HO_7 := n0_; have HO_9 := n1_; have BK1181 := n2_; have HB := n3_; clear n0_ n1_ n2_ n3_; (try clear hb); (try clear hb2); (try clear hk); (try clear hi))); go_ret; exact ⟨by first | rfl | (simp [errW_none, errW_some] <;> rfl) | (simp [*, errW_none, errW_some] <;> rfl), by repeat (first | (with_reducible first | exact HB.out | apply fA_ | apply pB_ | apply fD_ | refine fE_ ?_ GE1181.out) | exact HB.out)⟩
            rw [if_neg c44] at H; have c44b0 : (t1198 == 0) = false := beq_eq_false_iff_ne.mpr c44; have c44b1 : (t1198 != 0) = true := bne_iff_ne.mpr c44; obtain rfl := oI_ H; have hcz59_0 : wc.cell? ⟨gb1181, 0, none⟩ = some (.int .i64 a0_0) := (bC_ BK1181.out 0).trans rfl; have hcz59_1 : wc.cell? ⟨gb1181, 1, none⟩ = some (.slice A0_1 l0_1.length c0_1) := (bC_ BK1181.out 1).trans rfl; have hfz59_0 := bF_ BK1181.out 0; have hfz59_1 := bF_ BK1181.out 1; go_wp2_with (first | ((with_reducible refine gate_callee (f := 56) rfl ?_); refine goesL_ (some 65) rfl rfl Try.func56 (by kernel_rfl) rfl #[.agg #[.int .i64 a0_0, .slice A0_1 l0_1.length c0_1], .slice A2 l2.length c2] rfl (by (try simp only [mT_, mC_, mN_]); first | done | rfl | (simp only [lD_, lT_]; rfl)) ?_; (with_reducible refine (diffs_Holds.calls kj20 a0_0 _ _ l0_1 _ _ l2 t1196 t1197 _ ?side1 ?side2 ?side3 ?side4 A42.out).mono ?_); (case side1 => repeat (first | exact (cB_ HR0_1.out HB.out) | (with_reducible refine Kd.C_alloc ?_ _) | (with_reducible refine Kd.C_drewN ?_ _) | (with_reducible refine Kd.C_drew ?_))); (case side2 => exact HC0_1.out); (case side3 => repeat (first | exact (cB_ HR2.out HB.out) | (with_reducible refine Kd.C_alloc ?_ _) | (with_reducible refine Kd.C_drewN ?_ _) | (with_reducible refine Kd.C_drew ?_))); (case side4 => exact HC2.out); rintro e w60 ⟨rfl, hb⟩; refine ⟨_, rfl, ?_⟩; have n0_ := Z_ (rB_ (by (with_reducible repeat (first | apply rA_ | apply rN_ | apply rD_)); exact HO_7.out) hb); have n1_ := Z_ (rB_ (by (with_reducible repeat (first | apply rA_ | apply rN_ | apply rD_)); exact HO_9.out) hb); have n2_ := Z_ (bB_ (g := gb1181) (o := .cells #[.int .i64 a0_0, .slice A0_1 l0_1.length c0_1] 24 (0, 0)) (by (with_reducible repeat (first | refine bN_ ?_ _ | refine bD_ ?_ | refine bA_ ?_ _)); exact BK1181.out) hb); have n3_ := Z_ (fS_ (by repeat (first | (with_reducible first | exact HB.out | apply fA_ | apply pB_ | apply fD_ | refine fE_ ?_ GE1181.out) | exact HB.out)) hb); clear HO_7; clear HO_9; clear BK1181; clear HB; have HO_7 := n0_; have HO_9 := n1_; have BK1181 := n2_; have HB := n3_; clear n0_ n1_ n2_ n3_; (try clear hb); (try clear hb2); (try clear hk); (try clear hi); have hcz61_0 : w60.cell? ⟨gb1181, 0, none⟩ = some (.int .i64 a0_0) := (bC_ BK1181.out 0).trans rfl; have hcz61_1 : w60.cell? ⟨gb1181, 1, none⟩ = some (.slice A0_1 l0_1.length c0_1) := (bC_ BK1181.out 1).trans rfl; have hfz61_0 := bF_ BK1181.out 0; have hfz61_1 := bF_ BK1181.out 1; obtain ⟨Ao62, co62, eo62⟩ := rS_ HO_9.out; subst eo62) | ((with_reducible refine gate_callee (f := 37) rfl ?_); refine goesL_ (some 70) rfl rfl Try.func37 (by kernel_rfl) rfl #[.agg #[.int .i64 a0_0, .slice A0_1 l0_1.length c0_1], .slice Ao62 t1189.length co62] rfl (by (try simp only [mT_, mC_, mN_]); first | done | rfl | (simp only [lD_, lT_]; rfl)) ?_; (with_reducible refine (diffs_CheckClash.calls kj20 a0_0 _ _ l0_1 _ _ t1189 t1198 _ ?side1 ?side2 ?side3 ?side4 A43.out).mono ?_); (case side1 => repeat (first | exact (cB_ HR0_1.out HB.out) | (with_reducible refine Kd.C_alloc ?_ _) | (with_reducible refine Kd.C_drewN ?_ _) | (with_reducible refine Kd.C_drew ?_))); (case side2 => exact HC0_1.out); (case side3 => repeat (first | exact (rR_ HO_9.out).2.2 | (with_reducible refine Kd.C_alloc ?_ _) | (with_reducible refine Kd.C_drewN ?_ _) | (with_reducible refine Kd.C_drew ?_))); (case side4 => exact (rR_ HO_9.out).2.1); rintro e w63 ⟨rfl, hb⟩; refine ⟨_, rfl, ?_⟩; have n0_ := Z_ (rB_ (by (with_reducible repeat (first | apply rA_ | apply rN_ | apply rD_)); exact HO_7.out) hb); have n1_ := Z_ (rB_ (by (with_reducible repeat (first | apply rA_ | apply rN_ | apply rD_)); exact HO_9.out) hb); have n2_ := Z_ (bB_ (g := gb1181) (o := .cells #[.int .i64 a0_0, .slice A0_1 l0_1.length c0_1] 24 (0, 0)) (by (with_reducible repeat (first | refine bN_ ?_ _ | refine bD_ ?_ | refine bA_ ?_ _)); exact BK1181.out) hb); have n3_ := Z_ (fS_ (by repeat (first | (with_reducible first | exact HB.out | apply fA_ | apply pB_ | apply fD_ | refine fE_ ?_ GE1181.out) | exact HB.out)) hb); clear HO_7; clear HO_9; clear BK1181; clear HB; have HO_7 := n0_; have HO_9 := n1_; have BK1181 := n2_; have HB := n3_; clear n0_ n1_ n2_ n3_; (try clear hb); (try clear hb2); (try clear hk); (try clear hi))); go_ret; exact ⟨by first | rfl | (simp [errW_none, errW_some] <;> rfl) | (simp [*, errW_none, errW_some] <;> rfl), by repeat (first | (with_reducible first | exact HB.out | apply fA_ | apply pB_ | apply fD_ | refine fE_ ?_ GE1181.out) | exact HB.out)⟩
  replace c5 := bE_.mpr c5; subst c5; have H1 : (some false) = some r := by rw [if_neg (show ¬ (false = true) by decide)] at H; exact H
  clear H; have H := H1; clear H1; obtain rfl := oI_ H; go_enter Try.func16, Try.ntmps16; go_wp2_with (first | ((with_reducible refine gate_dst (N := 3) rfl ?_); refine box_event ?hg (N := 3) ?hd (cs := #[.int .i64 a0_0, .slice A0_1 l0_1.length c0_1]) (t := 24) ?hr ?_; (case hd => rfl); (case hg => rfl); (case hr => first | (go_simp; done) | (go_simp; rfl)); intro gb1181 hg w64 hbox hb; have n0_ := Z_ (fS_ (by repeat (first | (with_reducible first | exact HB.out | apply fA_ | apply pB_ | apply fD_) | exact HB.out)) hb); have n1_ := Z_ (hbox); have n2_ := Z_ ((by rw [hg]; exact (fZ_ (by repeat (first | (with_reducible first | exact HB.out | apply fA_ | apply pB_ | apply fD_) | exact HB.out))) : w.heap.size ≤ gb1181)); have n3_ := Z_ ((by rw [hg]; exact (fZ_ (by repeat (first | (with_reducible first | exact HB.out | apply fA_ | apply pB_ | apply fD_) | exact HB.out))) : w.heap.size ≤ gb1181)); clear HB; have HB := n0_; have BK1181 := n1_; have GW1181 := n2_; have GE1181 := n3_; clear n0_ n1_ n2_ n3_; clear hb hbox hg) | ((with_reducible refine gate_callee (f := 21) rfl ?_); refine goesL_ (some 14) rfl rfl Try.func21 (by kernel_rfl) rfl #[] rfl (by (try simp only [mT_, mC_, mN_]); first | done | rfl | (simp only [lD_, lT_]; rfl)) ?_; (with_reducible refine (snowlinelaw04_sane.calls  false _ A4.out).mono ?_); rintro e w65 ⟨rfl, hb⟩; refine ⟨_, rfl, ?_⟩; have n0_ := Z_ (bB_ (g := gb1181) (o := .cells #[.int .i64 a0_0, .slice A0_1 l0_1.length c0_1] 24 (0, 0)) (by (with_reducible repeat (first | refine bN_ ?_ _ | refine bD_ ?_ | refine bA_ ?_ _)); exact BK1181.out) hb); have n1_ := Z_ (fS_ (by repeat (first | (with_reducible first | exact HB.out | apply fA_ | apply pB_ | apply fD_ | refine fE_ ?_ GE1181.out) | exact HB.out)) hb); clear BK1181; clear HB; have BK1181 := n0_; have HB := n1_; clear n0_ n1_; (try clear hb); (try clear hb2); (try clear hk); (try clear hi))); go_ret; exact ⟨by first | rfl | (simp [errW_none, errW_some] <;> rfl) | (simp [*, errW_none, errW_some] <;> rfl), by repeat (first | (with_reducible first | exact HB.out | apply fA_ | apply pB_ | apply fD_ | refine fE_ ?_ GE1181.out) | exact HB.out)⟩
end Go.Proofs.Ytpolojoeabmhdaa.A
/- DiffsRounds, over numbers and lists alone. -/
namespace Go.Proofs.Ytpolojoeabmhdaa.A
open Go.RowKit Go.Proofs.YtpolojoeabmhdaaW.PrintWords Go.Proofs.YtpolojoeabmhdaaW.PrintLast Go.Proofs.YtpolojoeabmhdaaW.PrintMore
theorem small_some (n : Int) (L : List S39) : snowlinelaw04_small.f n L = some (decide (n ≤ 16 ∧ L.length ≤ 60)) := by
  unfold snowlinelaw04_small.f
  by_cases h : n ≤ 16
  · rw [if_pos h]
    congr 1
    exact decide_eq_decide.2 (by omega)
  · rw [if_neg h]
    congr 1
    rw [decide_eq_false]
    omega
theorem rounds_ev (n : Int) (L : List S39) (l y : List Int) : Ev (fun k => snowlinelaw04_DiffsRounds.f k n L l y) true := by
  unfold snowlinelaw04_DiffsRounds.f snowlinelaw04_sane.f
  simp only [Option.bind_some, if_true]
  refine (check_ev n L).bind ?_
  have hquit : Ev (fun k => snowlinelaw04_DiffsRounds.j0 k l y true n L) true :=
    Ev.step (f := fun _ => some true) (fun q => by rw [snowlinelaw04_DiffsRounds.j0]; rfl) (Ev.now _)
  by_cases hv : validB n L = true
  case neg =>
    rw [if_neg hv]
    exact Ev.neg (by decide) hquit
  rw [if_pos hv]
  refine Ev.pos rfl ?_
  rw [small_some]
  simp only [Option.bind_some]
  by_cases hsm : n ≤ 16 ∧ L.length ≤ 60
  case neg =>
    rw [decide_eq_false hsm]
    exact hquit
  rw [decide_eq_true hsm]
  have hV := validB_iff.1 hv
  obtain ⟨N, rfl⟩ : ∃ N : Nat, n = N := ⟨n.toNat, by have := hV.n1; omega⟩
  obtain ⟨x, e, s1, s2, s3⟩ := dsolve_ev hV
  refine Ev.step (f := fun q => _) (fun q => by rw [snowlinelaw04_DiffsRounds.j0, if_neg (by decide)]) ?_
  refine s1.bind ?_
  by_cases hs : Solv L
  · obtain ⟨rfl, hx⟩ := s2 hs
    refine (clash_no hV hs).bind (Ev.pos rfl (Ev.neg (by simp) (Ev.pos rfl ?_)))
    obtain ⟨p, p1, p2⟩ := fulfils_ev N L x (by omega) (by omega)
    obtain rfl := p2.2 hx
    obtain ⟨f, f1, f2⟩ := cclash_ev hV l
    refine Ev.step (f := fun q => _) (fun q => by rw [snowlinelaw04_DiffsRounds.j1, if_neg (by decide)]) ?_
    refine Ev.pos rfl (p1.bind (Ev.pos rfl (f1.bind ?_)))
    have : f ≠ 0 := fun h => ((f2.zero (fun h => h.i)).1 h).no hs
    rw [show (f != 0) = true from bne_iff_ne.mpr this]
    exact Ev.now _
  · obtain ⟨rfl, rfl⟩ := s3 hs
    obtain ⟨r, r1, r2⟩ := clash_ev hV hs
    refine r1.bind (Ev.pos rfl (Ev.neg (by simp) (Ev.neg (by simp) ?_)))
    simp only [show ((41 : Int) != 41) = false from rfl]
    obtain ⟨b, e, b1, b2, _⟩ := holds_ev hV y
    obtain ⟨f, f1, f2⟩ := cclash_ev hV r
    obtain ⟨p, p1, p2⟩ := fulfils_ev N L y (by omega) (by omega)
    refine Ev.step (f := fun q => _) (fun q => by rw [snowlinelaw04_DiffsRounds.j1, if_neg (by decide)]) ?_
    refine Ev.neg (by decide) (b1.bind (f1.bind (Ev.pos (f2.yes r2.i r2) ?_)))
    have hb : ¬ b = true := fun h => hs (b2.1 h).solv
    have hp : p = false := Bool.eq_false_iff.2 fun h => hs (p2.1 h).solv
    subst hp
    exact Ev.neg hb (p1.bind (Ev.now _))
end Go.Proofs.Ytpolojoeabmhdaa.A
/- DiffsRounds: for every input the law answers true, and what came in reads as it did. No conditions. -/
namespace Go.Proofs.Ytpolojoeabmhdaa.diffsRounds
open Go.ChangeShapes Go.WideShapes Go.ChangeAt Go.RowKit
open Go.Proofs.Ytpolojoeabmhdaa.A
open Go.Proofs.YtpolojoeabmhdaaW.PrintWords
set_option maxRecDepth 100000 in
theorem lifted (os : Os) (started : os.Started) (H : Type) (enc : TypeId × Value → H) :
    ReturnsInHanded {} Try.checked os 16 .any (Rows.diffsRoundsSpec.pre6 enc Try.prog Try.f16 Rows.diffsRoundsRow.domain false) (Rows.diffsRoundsSpec.post enc Try.prog Try.f16 false true false false) := by
  refine returnsInHanded_of_change_sized (C := Try.checked) own started (by kernel_rfl) Try.func16
    (ChangeSpec.witness6 (enc := enc) (C := Try.checked) false ⟨#[], #[.agg #[.int .i64 0, .slice none 0 0], .slice none 0 0, .slice none 0 0], []⟩ 8 (by kernel_rfl) (by kernel_rfl) (by kernel_rfl) (by kernel_rfl)) ?_
  intro W base args ds gs before hval0 hW hcnd hsz0 _
  have hsz : (DataW.weightsEach Try.prog (Try.f16.params.toList ++ Rows.diffsRoundsSpec.plain.varTypes Try.prog) (ds ++ gs)).all (· ≤ reachBytes) = true := hsz0
  have hval : ∀ (j : Nat) t v, Try.f16.params[j]? = some t → args[j]? = some v → Value.okWide Try.prog W .any base t v := hval0
  have hW' := hW
  obtain ⟨p, q, hA0, hV, rfl, hfz, hnd⟩ := hW
  have hA : DataW.TrodAll enc Try.prog W 0 (fun _ => true) true Try.f16.params.toList args.toList ds p := hA0
  rw [Try.params16] at hA hval hsz
  obtain ⟨v0, vs0, d0, ds0, p0, q0, hargs, rfl, rfl, h0, r0⟩ := trodAll_cons hA
  obtain ⟨v1, vs1, d1, ds1, p1, q1, rfl, rfl, rfl, h1, r1⟩ := trodAll_cons r0
  obtain ⟨v2, vs2, d2, ds2, p2, q2, rfl, rfl, rfl, h2, r2⟩ := trodAll_cons r1
  obtain ⟨rfl, rfl, rfl⟩ := trodAll_nil r2
  obtain rfl : args = #[v0, v1, v2] := by cases args; simp_all
  obtain ⟨rfl, rfl⟩ := trodVars_none hV
  have k0 := h0
  have lt0 : ∀ x ∈ p0, x.block < W.heap.size := by obtain ⟨m, hm⟩ := k0; exact DataW.trod_lt m _ _ _ hm
  obtain ⟨n0, A0, l0, c0, rfl, hC0, hc0, wz0, sz0⟩ := open_net (hval 0 24 v0 rfl rfl) h0
  have k1 := h1
  have lt1 : ∀ x ∈ p1, x.block < W.heap.size := by obtain ⟨m, hm⟩ := k1; exact DataW.trod_lt m _ _ _ hm
  obtain ⟨A1, l1, c1, rfl, hC1, hc1, wz1⟩ := open_list (hval 1 29 v1 rfl rfl) h1
  have k2 := h2
  have lt2 : ∀ x ∈ p2, x.block < W.heap.size := by obtain ⟨m, hm⟩ := k2; exact DataW.trod_lt m _ _ _ hm
  obtain ⟨A2, l2, c2, rfl, hC2, hc2, wz2⟩ := open_list (hval 2 29 v2 rfl rfl) h2
  obtain ⟨rk, hk⟩ := Ev.rounds (rounds_ev n0 l0 l1 l2)
  clear hA0 hval0 hsz0 hsz
  refine (snowlinelaw04_DiffsRounds.calls rk n0 A0 c0 l0 A1 c1 l1 A2 c2 l2 true W hC0 hc0 hC1 hc1 hC2 hc2 hk).mono fun e W' ⟨he, bel⟩ => ?_
  subst he
  exact ⟨_, rfl, _, _, _, [], _, [], hW', trodAll_mk1 (shut_bool Try.underlying4 _), (trodAll_cons_mk (Below.trod laidOut (by kernel_rfl) (of_decide_eq_true (by kernel_rfl)) k0 bel lt0) (trodAll_cons_mk (Below.trod laidOut (by kernel_rfl) (of_decide_eq_true (by kernel_rfl)) k1 bel lt1) (trodAll_cons_mk (Below.trod laidOut (by kernel_rfl) (of_decide_eq_true (by kernel_rfl)) k2 bel lt2) trodAll_mk0))), rfl, bel.frame _, fun h => by cases h⟩
theorem joined : joinedFacts Try.prog 16 Try.f16 Rows.diffsRoundsSpec Rows.diffsRoundsRow = true := (andB (andB (andB (andB (andB (andB (andB (andB (andB (andB (andB (andB (andB (andB (andB (andB (andB (andB (andB (andB (andB (andB (andB (andB (andB (andB (andB (andB (andB (andB (andB (by kernel_rfl) laidOut) pMapsRowed) (by kernel_rfl)) (by kernel_rfl)) (by kernel_rfl)) pStops) (by kernel_rfl)) pKnobs) (by kernel_rfl)) (by kernel_rfl)) (by kernel_rfl)) (by kernel_rfl)) (by kernel_rfl)) (by kernel_rfl)) (by kernel_rfl)) (by kernel_rfl)) (by kernel_rfl)) (by kernel_rfl)) (by kernel_rfl)) (by kernel_rfl)) (by kernel_rfl)) pPlain) (by kernel_rfl)) pHeard) pEnter) pLifted) pMake) (by kernel_rfl)) (by kernel_rfl)) (by kernel_rfl)) (by kernel_rfl))
theorem over : Rows.diffsRoundsRow.holds Try.pinned (OpenSpec.ofChange Rows.diffsRoundsSpec) :=
  OpenClaim.holds_of_wide 16 Try.f16 rfl rfl rfl rfl rfl rfl rfl ⟨rfl, rfl, rfl, rfl, rfl⟩ rfl rfl rfl rfl rfl (by kernel_rfl) Try.func16 joined
    (of_decide_eq_true (by kernel_rfl)) (by unfold Func.isWrapper; first | (rw [if_pos (by decide +kernel)]; kernel_rfl) | (rw [if_neg (by decide +kernel)]; exact ⟨rfl, rfl⟩))
    (fun os started H enc _ => lifted os started H enc)
theorem proved : Rows.DiffsRoundsSaid := over
#print axioms proved
end Go.Proofs.Ytpolojoeabmhdaa.diffsRounds
namespace Go.Proofs.Ytpolojoeabmhdaa
/-- The row, under a short name, for the claim. -/
theorem diffsRounds_holds : Rows.DiffsRoundsSaid := diffsRounds.proved
end Go.Proofs.Ytpolojoeabmhdaa
