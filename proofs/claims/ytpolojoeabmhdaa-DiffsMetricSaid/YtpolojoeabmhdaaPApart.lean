/- reach and Apart: what they answer. -/
import Derived.Test.YtpolojoeabmhdaaPSolve
import Derived.Test.YtpolojoeabmhdaaAf30
namespace Go.Proofs.Ytpolojoeabmhdaa.A
open Go.RowKit Go.Proofs.YtpolojoeabmhdaaW.PrintWords Go.Proofs.YtpolojoeabmhdaaW.PrintLast Go.Proofs.YtpolojoeabmhdaaW.PrintMore
set_option linter.unusedVariables false
set_option linter.unusedSimpArgs false
/-- There are numbers that fulfil all differences. -/
def Solv (L : List S39) : Prop := ∃ x, Pot L x
section
variable {n : Nat} {L : List S39}
theorem reach_no (hn0 : 0 < n) (hn : n ≤ 65536) (hE : EdgesOk n L) (hm : (n : Int) * L.length ≤ 1048576) (hs : ¬ Solv L) (i : Int) : Ev (fun k => diffs_reach.f k n L i) ([], [], [], 41) := by
  obtain ⟨x, s, bad, h1, h2, h3, h4, h5⟩ := solve_ev hn0 hn hE hm
  unfold diffs_reach.f
  refine h3.bind ?_
  have hb : ¬ bad = -1 := fun e => hs ((h2.bad_iff hE (fun v a b => mem_allL.2 ⟨a, b⟩)).1 e)
  exact Ev.pos (by rcases h2.res with ⟨a, _⟩ | ⟨a, _⟩; exact absurd a hb; exact a) (Ev.now _)
theorem reach_yes (hn0 : 0 < n) (hn : n ≤ 65536) (hE : EdgesOk n L) (hm : (n : Int) * L.length ≤ 1048576) (hs : Solv L) {i : Int} (h0 : 0 ≤ i) (h1 : i < n) : ∃ s, growP L n n (sg0 n [i]) = some (s, -1) ∧ GrowPost n L (fun v => v ∈ [i]) s (-1) ∧ Fix L s ∧ Ev (fun k => diffs_reach.f k n L i) (s.lo, s.ha, s.la, 0) := by
  obtain ⟨x, s0, bad0, g1, g2, g3, g4, g5⟩ := solve_ev hn0 hn hE hm
  obtain ⟨s, bad, k1, k2, k3⟩ := grow_ev hn0 hn hE (by omega) (from_ := [i]) (by simp) (fun v hv => by simp at hv; subst hv; exact ⟨h0, h1⟩)
  obtain ⟨y, hy⟩ := hs
  obtain ⟨e, hf⟩ := k2.good hE hy
  subst e
  refine ⟨s, k1, k2, hf, ?_⟩
  unfold diffs_reach.f
  refine g3.bind ?_
  have hb := (g2.good hE hy).1
  refine Ev.neg (by simp only; omega) ?_
  exact k3.bind (Ev.now _)
/-- The least length of a walk, if there is one. -/
structure Short (L : List S39) (i j : Int) (a : Int) (b : Bool) : Prop where
  yes : b = true → (∃ l, Wk L i l j a) ∧ ∀ l W, Wk L i l j W → a ≤ W
  no : b = false → a = 0 ∧ ∀ l W, ¬ Wk L i l j W
theorem Short.unique {i j a b a' b'} (h : Short L i j a b) (h' : Short L i j a' b') : a = a' ∧ b = b' := by
  cases b with
  | true =>
    obtain ⟨⟨l, hl⟩, hm⟩ := h.yes rfl
    cases b' with
    | true =>
      obtain ⟨⟨l', hl'⟩, hm'⟩ := h'.yes rfl
      have := hm _ _ hl'
      have := hm' _ _ hl
      exact ⟨by omega, rfl⟩
    | false => exact absurd hl ((h'.no rfl).2 _ _)
  | false =>
    cases b' with
    | true =>
      obtain ⟨⟨l', hl'⟩, hm'⟩ := h'.yes rfl
      exact absurd hl' ((h.no rfl).2 _ _)
    | false => exact ⟨by rw [(h.no rfl).1, (h'.no rfl).1], rfl⟩
/-- What the tree from a node tells. -/
theorem tree_short (hE : EdgesOk n L) {i : Int} (h0 : 0 ≤ i) (h1 : i < n) {s : Sg} (h : GrowPost n L (fun v => v ∈ [i]) s (-1)) (hf : Fix L s) {j : Int} (j0 : 0 ≤ j) (j1 : j < n) : Short L i j (rd s.lo j) (rdOf false s.ha j) := by
  obtain ⟨b, T, hb, hb2, hB⟩ := h.bf
  have hsrc : hasN s i ∧ rd s.lo i = 0 := by
    have ht := (hB.t0 i h0 h1).1
    by_cases e : T i = 0
    · have := hB.z i h0 h1 e
      exact ⟨this.2.2.2 (by simp), this.2.1⟩
    · have hv := (hB.p i h0 h1 (by omega)).2.2.1
      obtain ⟨c, hc⟩ := h.tree hE hf h0 h1 hv
      have hr := hc.src
      simp only [List.mem_cons, List.not_mem_nil, or_false] at hr
      cases c with
      | zero =>
        exact ⟨hv, hc.zero⟩
      | succ c =>
        exact absurd hr.symm (hc.apart 0 (c + 1) (by omega) (by omega))
  refine ⟨fun hv => ?_, fun hv => ?_⟩
  · obtain ⟨c, hc⟩ := h.tree hE hf j0 j1 hv
    have hr := hc.src
    simp only [List.mem_cons, List.not_mem_nil, or_false] at hr
    refine ⟨⟨_, by have := hc.walk; rw [hr] at this; exact this⟩, fun l W hw => ?_⟩
    have := (hf.walk hsrc.1 hw).2
    omega
  · refine ⟨?_, fun l W hw => ?_⟩
    · have ht := (hB.t0 j j0 j1).1
      by_cases e : T j = 0
      · exact (hB.z j j0 j1 e).2.1
      · have := (hB.p j j0 j1 (by omega)).2.2.1
        unfold hasN at this
        rw [hv] at this
        exact absurd this (by simp)
    · have := (hf.walk hsrc.1 hw).1
      unfold hasN at this
      rw [hv] at this
      exact absurd this (by simp)
/-- What Apart answers. -/
structure ApartIs (n : Int) (L : List S39) (i j a : Int) (b : Bool) (e : Int) : Prop where
  arg : ¬ (0 ≤ i ∧ i < n ∧ 0 ≤ j ∧ j < n) → a = 0 ∧ b = false ∧ e = 1
  clash : 0 ≤ i ∧ i < n ∧ 0 ≤ j ∧ j < n → ¬ Solv L → a = 0 ∧ b = false ∧ e = 41
  ok : 0 ≤ i ∧ i < n ∧ 0 ≤ j ∧ j < n → Solv L → e = 0 ∧ Short L i j a b
  small : -1125899906842624 ≤ a ∧ a ≤ 1125899906842624
theorem ApartIs.unique {n : Int} {i j a : Int} {b : Bool} {e : Int} {a' : Int} {b' : Bool} {e' : Int} (h : ApartIs n L i j a b e) (h' : ApartIs n L i j a' b' e') : a = a' ∧ b = b' ∧ e = e' := by
  by_cases hn : 0 ≤ i ∧ i < n ∧ 0 ≤ j ∧ j < n
  · by_cases hs : Solv L
    · have := h.ok hn hs
      have := h'.ok hn hs
      have := (h.ok hn hs).2.unique (h'.ok hn hs).2
      exact ⟨this.1, this.2, by omega⟩
    · obtain ⟨rfl, rfl, rfl⟩ := h.clash hn hs
      obtain ⟨rfl, rfl, rfl⟩ := h'.clash hn hs
      exact ⟨rfl, rfl, rfl⟩
  · obtain ⟨rfl, rfl, rfl⟩ := h.arg hn
    obtain ⟨rfl, rfl, rfl⟩ := h'.arg hn
    exact ⟨rfl, rfl, rfl⟩
theorem apart_ev (hV : Valid n L) (hm : (n : Int) * L.length ≤ 1048576) (i j : Int) : ∃ a b e, Ev (fun k => diffs_Apart.f k n L i j) (a, b, e) ∧ ApartIs n L i j a b e := by
  have hn0 : 0 < n := by have := hV.n1; omega
  have hn : n ≤ 65536 := by have := hV.n2; omega
  have hask : ∀ p q : Bool, Ev (fun k => diffs_asked.f k n L [p, q]) (if (p && q) = true then 0 else 1) := fun p q => by
    have := asked_ev n L [p, q] (by simp)
    rw [if_pos (validB_iff.2 hV)] at this
    cases p <;> cases q <;> exact this
  unfold diffs_Apart.f
  simp only [in_some, Option.bind_some, wrap_id (show (-9223372036854775808 : Int) ≤ (n : Int) - 1 by omega) (show (n : Int) - 1 < 9223372036854775808 by omega)]
  by_cases hnode : 0 ≤ i ∧ i < (n : Int) ∧ 0 ≤ j ∧ j < (n : Int)
  · have e1 : (decide (0 ≤ i) && decide (i ≤ (n : Int) - 1)) = true := by simp; omega
    have e2 : (decide (0 ≤ j) && decide (j ≤ (n : Int) - 1)) = true := by simp; omega
    rw [e1, e2]
    have hA := hask true true
    rw [if_pos (by simp)] at hA
    by_cases hs : Solv L
    · obtain ⟨s, k1, k2, hf, k3⟩ := reach_yes hn0 hn hV.e hm hs hnode.1 hnode.2.1
      have hsh := tree_short hV.e hnode.1 hnode.2.1 k2 hf hnode.2.2.1 hnode.2.2.2
      have hbd := k2.bounds hnode.2.2.1 hnode.2.2.2
      obtain ⟨b, T, hb, hb2, hB⟩ := k2.bf
      have l1 := hB.l1
      have l2 := hB.l2
      refine ⟨rd s.lo j, rdOf false s.ha j, 0, hA.bind (Ev.pos rfl (k3.bind (Ev.pos rfl (Ev.pos hnode.2.2.1 (Ev.pos (by simp only; omega) ?_))))), fun h => absurd hnode h, fun _ h => absurd hs h, fun _ _ => ⟨rfl, hsh⟩, by omega⟩
      refine Ev.step (f := fun k => if (!(rdOf false s.ha j)) = true then some (0, false, 0) else if 0 ≤ j then (if j < (s.lo.length : Int) then some (rd s.lo j, true, 0) else none) else none) (fun k => by rw [diffs_Apart.j0]) ?_
      cases hh : rdOf false s.ha j with
      | false =>
        refine Ev.pos rfl ?_
        rw [hh] at hsh
        rw [(hsh.no rfl).1]
        exact Ev.now _
      | true => exact Ev.neg (by simp) (Ev.pos hnode.2.2.1 (Ev.pos (by omega) (Ev.now _)))
    · refine ⟨0, false, 41, hA.bind (Ev.pos rfl ((reach_no hn0 hn hV.e hm hs i).bind (Ev.neg (by decide) ?_))), fun h => absurd hnode h, fun _ _ => ⟨rfl, rfl, rfl⟩, fun _ h => absurd h hs, by omega⟩
      exact Ev.step (f := fun k => some (0, false, 41)) (fun k => by rw [diffs_Apart.j0]; rfl) (Ev.now _)
  · have e : ((decide (0 ≤ i) && decide (i ≤ (n : Int) - 1)) && (decide (0 ≤ j) && decide (j ≤ (n : Int) - 1))) = false := by
      rw [Bool.eq_false_iff]
      simp only [ne_eq, Bool.and_eq_true, decide_eq_true_eq]
      omega
    have hA := hask (decide (0 ≤ i) && decide (i ≤ (n : Int) - 1)) (decide (0 ≤ j) && decide (j ≤ (n : Int) - 1))
    rw [e, if_neg (by simp)] at hA
    exact ⟨0, false, 1, hA.bind (Ev.neg (by decide) (Ev.now _)), fun _ => ⟨rfl, rfl, rfl⟩, fun h => absurd h hnode, fun h => absurd h hnode, by omega⟩
end
end Go.Proofs.Ytpolojoeabmhdaa.A
