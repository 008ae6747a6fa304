/- DiffsMetric, over numbers and lists alone. -/
import Derived.Test.YtpolojoeabmhdaaPApart
import Derived.Test.YtpolojoeabmhdaaAf4
namespace Go.Proofs.Ytpolojoeabmhdaa.A
open Go.RowKit Go.Proofs.YtpolojoeabmhdaaW.PrintWords Go.Proofs.YtpolojoeabmhdaaW.PrintLast Go.Proofs.YtpolojoeabmhdaaW.PrintMore
set_option linter.unusedVariables false
set_option linter.unusedSimpArgs false
theorem small_some (n : Int) (L : List S39) : snowlinelaw04_small.f n L = some (decide (n ≤ 16 ∧ L.length ≤ 60)) := by
  unfold snowlinelaw04_small.f
  by_cases h : n ≤ 16
  · rw [if_pos h]
    congr 1
    exact decide_eq_decide.2 (by omega)
  · rw [if_neg h]
    congr 1
    rw [decide_eq_false]
    omega
theorem Short.tri {L : List S39} {i j k a b c : Int} {p q r : Bool} (h1 : Short L i j a p) (h2 : Short L j k b q) (h3 : Short L i k c r) (hp : p = true) (hq : q = true) : r = true ∧ c ≤ a + b := by
  obtain ⟨⟨l1, w1⟩, _⟩ := h1.yes hp
  obtain ⟨⟨l2, w2⟩, _⟩ := h2.yes hq
  have w := w1.append w2
  cases r with
  | true => exact ⟨rfl, (h3.yes rfl).2 _ _ w⟩
  | false => exact absurd w ((h3.no rfl).2 _ _)
theorem Short.self {L : List S39} {i a : Int} {p : Bool} (h : Short L i i a p) (hs : Solv L) : p = true ∧ a = 0 := by
  have w : Wk L i [] i 0 := ⟨rfl, rfl⟩
  cases p with
  | true =>
    obtain ⟨⟨l, w1⟩, h2⟩ := h.yes rfl
    have := h2 _ _ w
    obtain ⟨x, hx⟩ := hs
    have := hx.walk w1
    exact ⟨rfl, by omega⟩
  | false => exact absurd w ((h.no rfl).2 _ _)
theorem metric_ev (n : Int) (L : List S39) (i j k : Int) : Ev (fun q => snowlinelaw04_DiffsMetric.f q n L i j k) true := by
  unfold snowlinelaw04_DiffsMetric.f snowlinelaw04_sane.f
  simp only [Option.bind_some, if_true]
  have hc := check_ev n L
  refine hc.bind ?_
  have hquit : Ev (fun q => snowlinelaw04_DiffsMetric.j0 q i j k true n L) true :=
    Ev.step (f := fun _ => some true) (fun q => by rw [snowlinelaw04_DiffsMetric.j0]; rfl) (Ev.now _)
  by_cases hv : validB n L = true
  case neg =>
    rw [if_neg hv]
    exact Ev.neg (by decide) hquit
  rw [if_pos hv]
  refine Ev.pos rfl ?_
  rw [small_some]
  simp only [Option.bind_some]
  by_cases hsm : n ≤ 16 ∧ L.length ≤ 60
  case neg =>
    rw [decide_eq_false hsm]
    exact hquit
  rw [decide_eq_true hsm]
  have hV := validB_iff.1 hv
  obtain ⟨N, rfl⟩ : ∃ N : Nat, n = N := ⟨n.toNat, by have := hV.n1; omega⟩
  have hm : (N : Int) * L.length ≤ 1048576 := by
    have := Int.mul_le_mul (a := (N : Int)) (b := L.length) (c := 16) (d := 60) (by omega) (by omega) (by omega) (by omega)
    omega
  refine Ev.step (f := fun q => _) (fun q => by rw [snowlinelaw04_DiffsMetric.j0, if_neg (by decide)]) ?_
  obtain ⟨a, ij, e, v1, h1⟩ := apart_ev hV hm i j
  obtain ⟨b, jk, f, v2, h2⟩ := apart_ev hV hm j k
  obtain ⟨c, ik, g, v3, h3⟩ := apart_ev hV hm i k
  obtain ⟨d, ji, h, v4, h4⟩ := apart_ev hV hm j i
  obtain ⟨o, ii, q', v5, h5⟩ := apart_ev hV hm i i
  refine v1.bind (v2.bind (v3.bind (v4.bind (v5.bind ?_))))
  simp only
  -- both first ones are answered, or not
  by_cases hok : e = 0 ∧ f = 0
  case neg =>
    have hz : (a = 0 ∧ ij = false) ∨ (b = 0 ∧ jk = false) := by
      by_cases he : e = 0
      · right
        by_cases hn : 0 ≤ j ∧ j < (N : Int) ∧ 0 ≤ k ∧ k < (N : Int)
        · by_cases hs : Solv L
          · exact absurd ⟨he, (h2.ok hn hs).1⟩ hok
          · have := h2.clash hn hs; exact ⟨this.1, this.2.1⟩
        · have := h2.arg hn; exact ⟨this.1, this.2.1⟩
      · left
        by_cases hn : 0 ≤ i ∧ i < (N : Int) ∧ 0 ≤ j ∧ j < (N : Int)
        · by_cases hs : Solv L
          · exact absurd (h1.ok hn hs).1 he
          · have := h1.clash hn hs; exact ⟨this.1, this.2.1⟩
        · have := h1.arg hn; exact ⟨this.1, this.2.1⟩
    have hj1 : Ev (fun q => snowlinelaw04_DiffsMetric.j1 q a ij b jk c ik g d ji h o ii q' true) true := by
      refine Ev.step (f := fun q => _) (fun q => by rw [snowlinelaw04_DiffsMetric.j1, if_pos rfl]) ?_
      rcases hz with ⟨z1, z2⟩ | ⟨z1, z2⟩
      · rw [z1, z2]
        refine Ev.pos rfl (Ev.neg (by decide) (Ev.now _))
      · rw [z1, z2]
        by_cases ha : a = 0
        · refine Ev.pos ha ?_
          cases ij with
          | true => exact Ev.pos rfl (Ev.pos rfl (Ev.now _))
          | false => exact Ev.neg (by decide) (Ev.now _)
        · exact Ev.neg ha (Ev.pos rfl (Ev.now _))
    by_cases he : e = 0
    · refine Ev.pos he ?_
      have hf : f ≠ 0 := fun hf => hok ⟨he, hf⟩
      rw [show (f != 0) = true from bne_iff_ne.mpr hf]
      exact hj1
    · exact Ev.neg he hj1
  obtain ⟨rfl, rfl⟩ := hok
  have hn1 : 0 ≤ i ∧ i < (N : Int) ∧ 0 ≤ j ∧ j < (N : Int) := Classical.byContradiction fun hn => by have := (h1.arg hn).2.2; omega
  have hn2 : 0 ≤ j ∧ j < (N : Int) ∧ 0 ≤ k ∧ k < (N : Int) := Classical.byContradiction fun hn => by have := (h2.arg hn).2.2; omega
  have hs : Solv L := Classical.byContradiction fun hs => by have := (h1.clash hn1 hs).2.2; omega
  obtain ⟨_, s1⟩ := h1.ok hn1 hs
  obtain ⟨_, s2⟩ := h2.ok hn2 hs
  obtain ⟨rfl, s3⟩ := h3.ok ⟨hn1.1, hn1.2.1, hn2.2.2⟩ hs
  obtain ⟨rfl, s4⟩ := h4.ok ⟨hn2.1, hn2.2.1, hn1.1, hn1.2.1⟩ hs
  obtain ⟨rfl, s5⟩ := h5.ok ⟨hn1.1, hn1.2.1, hn1.1, hn1.2.1⟩ hs
  obtain ⟨rfl, rfl⟩ := s5.self hs
  have b1 := h1.small
  have b2 := h2.small
  have b4 := h4.small
  refine Ev.pos rfl ?_
  refine Ev.step (f := fun q => _) (fun q => by rw [snowlinelaw04_DiffsMetric.j1, if_neg (by decide)]) ?_
  refine Ev.pos rfl (Ev.pos rfl (Ev.pos rfl (Ev.pos rfl ?_)))
  refine Ev.step (f := fun q => _) (fun q => by rw [snowlinelaw04_DiffsMetric.j2, if_neg (by decide)]) ?_
  -- there and back
  have hback : ∀ ij ji : Bool, ij = true → ji = true → Short L i j a ij → Short L j i d ji → 0 ≤ a + d := fun ij ji e1 e2 s1 s4 => by
    obtain ⟨⟨l1, w1⟩, _⟩ := s1.yes e1
    obtain ⟨⟨l2, w2⟩, _⟩ := s4.yes e2
    obtain ⟨x, hx⟩ := hs
    have := hx.walk (w1.append w2)
    omega
  have hj3 : Ev (fun q => snowlinelaw04_DiffsMetric.j3 q a ij d ji false) true := by
    refine Ev.step (f := fun q => _) (fun q => by rw [snowlinelaw04_DiffsMetric.j3, if_neg (by decide)]) ?_
    cases hij : ij with
    | false => exact Ev.neg (by decide) (Ev.now _)
    | true =>
      refine Ev.pos rfl ?_
      cases hji : ji with
      | false => exact Ev.neg (by decide) (Ev.now _)
      | true =>
        refine Ev.pos rfl ?_
        have := hback ij ji hij hji s1 s4
        rw [wrap_id (by omega) (by omega), decide_eq_true (by omega)]
        exact Ev.now _
  cases hij : ij with
  | false => rw [hij] at hj3; exact Ev.neg (by decide) hj3
  | true =>
    refine Ev.pos rfl ?_
    rw [hij] at hj3
    cases hjk : jk with
    | false => exact Ev.neg (by decide) hj3
    | true =>
      refine Ev.pos rfl ?_
      have ht := s1.tri s2 s3 hij hjk
      rw [ht.1]
      refine Ev.pos rfl ?_
      rw [wrap_id (by omega) (by omega), decide_eq_false (by omega)]
      exact hj3
end Go.Proofs.Ytpolojoeabmhdaa.A
