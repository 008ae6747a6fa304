import Derived.Test.YtpolojoeabmhdaaMZcorea
import Derived.Test.YtpolojoeabmhdaaMZcoreb
import Derived.Test.YtpolojoeabmhdaaMZcored
import Derived.Test.YtpolojoeabmhdaaMZcoreh
set_option linter.unusedVariables false
set_option linter.unusedSimpArgs false
/- Numbers that fulfil a net; lists. -/
namespace Go.Proofs.Ytpolojoeabmhdaa.A
open Go.RowKit Go.Proofs.YtpolojoeabmhdaaW.PrintWords Go.Proofs.YtpolojoeabmhdaaW.PrintLast Go.Proofs.YtpolojoeabmhdaaW.PrintMore
theorem rd_cons (x : Int) (xs : List Int) (i : Int) (h : 0 ≤ i) : rd (x :: xs) (i + 1) = rd xs i := by
  unfold rd
  rw [show (i + 1).toNat = i.toNat + 1 from by omega]
  rfl
theorem rd_mem {l : List Int} {i : Int} (h0 : 0 ≤ i) (h1 : i < l.length) : rd l i ∈ l := by
  unfold rd
  rw [List.getD_eq_getElem?_getD, List.getElem?_eq_getElem (by omega)]; exact List.getElem_mem _
theorem mem_rd {l : List Int} {x : Int} (h : x ∈ l) : ∃ i : Int, 0 ≤ i ∧ i < l.length ∧ rd l i = x := by
  obtain ⟨i, hi, rfl⟩ := List.getElem_of_mem h
  refine ⟨i, by omega, by omega, ?_⟩
  unfold rd
  rw [List.getD_eq_getElem?_getD, Int.toNat_natCast, List.getElem?_eq_getElem hi]; rfl
theorem take_snoc {α : Type} (l : List α) (i : Nat) (h : i < l.length) : l.take (i + 1) = l.take i ++ [l[i]] := by
  rw [List.take_add_one, List.getElem?_eq_getElem h]; rfl
theorem chain_len (L : List S39) (la : List Int) : ∀ c v, (chain L la c v).length = c
  | 0, _ => rfl
  | c + 1, v => by simp [chain, chain_len L la c]
theorem edges_mem {n : Int} {D : List S39} (hE : EdgesOk n D) : ∀ d ∈ D, EdgeOk n d := fun d hd => by
  obtain ⟨i, hi, rfl⟩ := List.getElem_of_mem hd
  have := hE i (by omega) (by omega)
  unfold rd_T39 at this
  rw [List.getD_eq_getElem?_getD, Int.toNat_natCast, List.getElem?_eq_getElem hi] at this
  exact this
structure Asg (L : List S39) (x : Int → Int) : Prop where
  z : x 0 = 0
  p : Pot L x
def EC (n : Int) (x : List Int) (d : S39) : Prop := 0 ≤ d.f0 ∧ d.f0 < n ∧ 0 ≤ d.f1 ∧ d.f1 < n ∧ rd x d.f1 - rd x d.f0 ≤ d.f2
structure Ful (n : Int) (L : List S39) (x : List Int) : Prop where
  l : (x.length : Int) = n
  n0 : 0 < n
  z : rd x 0 = 0
  b : ∀ v, 0 ≤ v → v < n → -1099511627776 ≤ rd x v ∧ rd x v ≤ 1099511627776
  e : ∀ k, 0 ≤ k → k < (L.length : Int) → EC n x (rd_T39 L k)
theorem Ful.asg {n : Int} {L : List S39} {x : List Int} (h : Ful n L x) : Asg L (rd x) := ⟨h.z, fun k k0 k1 => (h.e k k0 k1).2.2.2.2⟩
section
variable {n : Nat} {D L : List S39}
theorem hmul (hV : Valid n D) : (n : Int) * D.length ≤ 1048576 := by
  have h1 := hV.n2
  have h2 := hV.l
  have := Int.mul_le_mul (a := (n : Int)) (b := D.length) (c := 256) (d := 4096) (by omega) (by omega) (by omega) (by omega)
  omega
theorem wk_bound {n : Int} {L : List S39} (hE : EdgesOk n L) : ∀ {u : Int} {l : List Int} {v W : Int}, Wk L u l v W → -(l.length * 1073741824) ≤ W ∧ W ≤ l.length * 1073741824
  | u, [], v, W, h => by
    obtain ⟨_, rfl⟩ := h
    simp
  | u, i :: is, v, W, h => by
    obtain ⟨⟨i0, i1⟩, _, h2⟩ := h
    have := wk_bound hE h2
    have hd := hE i i0 i1
    have := hd.e
    have := hd.f
    rw [List.length_cons]
    push_cast
    omega
theorem chain_len' (L : List S39) (la : List Int) (c : Nat) (v : Int) : (chain L la c v).length = c := chain_len L la c v
theorem solve_ful {L : List S39} (hn0 : 0 < n) (hn : n ≤ 256) (hE : EdgesOk n L) (hm : (n : Int) * L.length ≤ 1048576) (hs : Solv L) : ∃ (x : List Int) (s : Sg), Ev (fun k => diffs_solve.f k n L) (x, s.lo, s.ha, s.la, -1) ∧ Ful n L x := by
  obtain ⟨x, s, bad, h1, h2, h3, h4, h5⟩ := solve_ev hn0 (by omega) hE hm
  have ha : ∀ v, 0 ≤ v → v < (n : Int) → v ∈ allL n := fun v a b => mem_allL.2 ⟨a, b⟩
  have hb := (h2.bad_iff hE ha).2 hs
  subst hb
  obtain ⟨l1, l2⟩ := h4 rfl
  obtain ⟨y, hy⟩ := hs
  have hf := (h2.good hE hy).2
  have bd : ∀ v, 0 ≤ v → v < (n : Int) → -274877906944 ≤ rd s.lo v ∧ rd s.lo v ≤ 274877906944 := fun v v0 v1 => by
    obtain ⟨c, hc⟩ := h2.tree hE hf v0 v1 (h2.all_has ha v0 v1)
    have := wk_bound hE hc.walk
    rw [List.length_reverse, chain_len'] at this
    have := hc.few
    omega
  refine ⟨x, s, h3, by omega, by omega, ?_, fun v v0 v1 => ?_, fun k k0 k1 => ?_⟩
  · rw [l2 0 (by omega) (by omega)]; omega
  · rw [l2 v v0 v1]
    have := bd v v0 v1
    have := bd 0 (by omega) (by omega)
    omega
  · have he := hE k k0 k1
    have hp := h2.pot hE ha rfl k k0 k1
    refine ⟨he.a, he.b, he.c, he.g, ?_⟩
    rw [l2 _ he.c he.g, l2 _ he.a he.b]
    omega
structure NumOk (n : Int) (x : List Int) : Prop where
  l : (x.length : Int) = n
  b : ∀ v, 0 ≤ v → v < n → -1099511627776 ≤ rd x v ∧ rd x v ≤ 1099511627776
theorem Ful.num {n : Int} {L : List S39} {x : List Int} (h : Ful n L x) : NumOk n x := ⟨h.l, h.b⟩
theorem Ful.solv {m : Int} {x : List Int} (h : Ful m L x) : Solv L := ⟨_, h.asg.p⟩
end
end Go.Proofs.Ytpolojoeabmhdaa.A
/- One more difference, and the least lengths. -/
namespace Go.Proofs.Ytpolojoeabmhdaa.A
open Go.RowKit Go.Proofs.YtpolojoeabmhdaaW.PrintWords Go.Proofs.YtpolojoeabmhdaaW.PrintLast Go.Proofs.YtpolojoeabmhdaaW.PrintMore
theorem Short.self {L : List S39} {i a : Int} {p : Bool} (h : Short L i i a p) (hs : Solv L) : p = true ∧ a = 0 := by
  have w : Wk L i [] i 0 := ⟨rfl, rfl⟩
  cases p with
  | true =>
    obtain ⟨⟨l, w1⟩, h2⟩ := h.yes rfl
    have := h2 _ _ w
    obtain ⟨x, hx⟩ := hs
    have := hx.walk w1
    exact ⟨rfl, by omega⟩
  | false => exact absurd w ((h.no rfl).2 _ _)
theorem mem_rdT {L : List S39} {d : S39} (h : d ∈ L) : ∃ i : Int, 0 ≤ i ∧ i < L.length ∧ rd_T39 L i = d := by
  obtain ⟨i, hi, rfl⟩ := List.getElem_of_mem h
  refine ⟨i, by omega, by omega, ?_⟩
  unfold rd_T39
  rw [List.getD_eq_getElem?_getD, Int.toNat_natCast, List.getElem?_eq_getElem hi]; rfl
theorem rdT_mem {L : List S39} {i : Int} (h0 : 0 ≤ i) (h1 : i < L.length) : rd_T39 L i ∈ L := by
  unfold rd_T39
  rw [List.getD_eq_getElem?_getD, List.getElem?_eq_getElem (by omega)]; exact List.getElem_mem _
theorem Wk.sub {L L' : List S39} (hs : ∀ d ∈ L, d ∈ L') : ∀ {u : Int} {l : List Int} {v W : Int}, Wk L u l v W → ∃ l', Wk L' u l' v W
  | u, [], v, W, h => ⟨[], h⟩
  | u, i :: is, v, W, h => by
    obtain ⟨⟨i0, i1⟩, e, h2⟩ := h
    obtain ⟨l', h3⟩ := Wk.sub hs h2
    obtain ⟨k, k0, k1, ke⟩ := mem_rdT (hs _ (rdT_mem i0 i1))
    exact ⟨k :: l', ⟨k0, k1⟩, by rw [ke]; exact e, by rw [ke]; exact h3⟩
theorem Pot.sub {L L' : List S39} (hs : ∀ d ∈ L, d ∈ L') {x : Int → Int} (h : Pot L' x) : Pot L x := fun i i0 i1 => by
  obtain ⟨k, k0, k1, ke⟩ := mem_rdT (hs _ (rdT_mem i0 i1))
  have := h k k0 k1
  rw [ke] at this
  exact this
theorem Solv.sub {L L' : List S39} (hs : ∀ d ∈ L, d ∈ L') (h : Solv L') : Solv L := by
  obtain ⟨x, hx⟩ := h
  exact ⟨x, hx.sub hs⟩
theorem Short.same {L L' : List S39} (h1 : ∀ d ∈ L, d ∈ L') (h2 : ∀ d ∈ L', d ∈ L) {i j a : Int} {b : Bool} (h : Short L i j a b) : Short L' i j a b := by
  refine ⟨fun hb => ?_, fun hb => ?_⟩
  · obtain ⟨⟨l, w1⟩, w2⟩ := h.yes hb
    refine ⟨w1.sub h1, fun l W hw => ?_⟩
    obtain ⟨l', hw'⟩ := hw.sub h2
    exact w2 _ _ hw'
  · refine ⟨(h.no hb).1, fun l W hw => ?_⟩
    obtain ⟨l', hw'⟩ := hw.sub h2
    exact (h.no hb).2 _ _ hw'
theorem Short.of_walk {L : List S39} {i j a W : Int} {b : Bool} {l : List Int} (h : Short L i j a b) (hw : Wk L i l j W) : b = true ∧ a ≤ W := by
  cases b with
  | true => exact ⟨rfl, (h.yes rfl).2 _ _ hw⟩
  | false => exact absurd hw ((h.no rfl).2 _ _)
theorem Short.tri {L : List S39} {i j k a b c : Int} {p q r : Bool} (h1 : Short L i j a p) (h2 : Short L j k b q) (h3 : Short L i k c r) (hp : p = true) (hq : q = true) : r = true ∧ c ≤ a + b := by
  obtain ⟨⟨l1, w1⟩, _⟩ := h1.yes hp
  obtain ⟨⟨l2, w2⟩, _⟩ := h2.yes hq
  exact h3.of_walk (w1.append w2)
section
variable {n : Nat} {L : List S39}
theorem short_bound (hV : Valid n L) (hs : Solv L) {i j a : Int} {b : Bool} (i0 : 0 ≤ i) (i1 : i < n) (j0 : 0 ≤ j) (j1 : j < n) (h : Short L i j a b) : -((n : Int) * 1073741824) ≤ a ∧ a ≤ (n : Int) * 1073741824 := by
  have hn0 : 0 < n := by have := hV.n1; omega
  have hn : n ≤ 65536 := by have := hV.n2; omega
  cases b with
  | false => have := (h.no rfl).1; omega
  | true =>
    obtain ⟨s, k1, k2, hf, k3⟩ := reach_yes hn0 hn hV.e (hmul hV) hs i0 i1
    have h2 := tree_short hV.e i0 i1 k2 hf j0 j1
    obtain ⟨e1, e2⟩ := h.unique h2
    obtain ⟨c, hc⟩ := k2.tree hV.e hf j0 j1 e2.symm
    have := wk_bound hV.e hc.walk
    rw [List.length_reverse, chain_len'] at this
    have := hc.few
    omega
/-- What one more difference does to the least lengths. -/
def nCond (A : Int → Int → Int) (B : Int → Int → Bool) (d : S39) (i j : Int) : Prop := B i d.f0 = true ∧ B d.f1 j = true ∧ (B i j = false ∨ A i d.f0 + d.f2 + A d.f1 j < A i j)
instance (A : Int → Int → Int) (B : Int → Int → Bool) (d : S39) (i j : Int) : Decidable (nCond A B d i j) := by unfold nCond; infer_instance
def nA (A : Int → Int → Int) (B : Int → Int → Bool) (d : S39) (i j : Int) : Int := if nCond A B d i j then A i d.f0 + d.f2 + A d.f1 j else A i j
def nB (A : Int → Int → Int) (B : Int → Int → Bool) (d : S39) (i j : Int) : Bool := if nCond A B d i j then true else B i j
theorem rdT_snoc_lo (d : S39) {i : Int} (h0 : 0 ≤ i) (h1 : i < L.length) : rd_T39 (L ++ [d]) i = rd_T39 L i := by
  unfold rd_T39
  rw [List.getD_eq_getElem?_getD, List.getD_eq_getElem?_getD, List.getElem?_append_left (by omega)]
theorem rdT_snoc_hi (d : S39) : rd_T39 (L ++ [d]) (L.length : Int) = d := by
  unfold rd_T39
  rw [List.getD_eq_getElem?_getD, Int.toNat_natCast, List.getElem?_append_right (Nat.le_refl _), Nat.sub_self]; rfl
theorem narrow_key {d : S39} (hE : EdgesOk n L) (hd : EdgeOk n d) (hs : Solv L) {A : Int → Int → Int} {B : Int → Int → Bool} (hAB : ∀ i j, 0 ≤ i → i < (n : Int) → 0 ≤ j → j < (n : Int) → Short L i j (A i j) (B i j)) (hno : ¬ (B d.f1 d.f0 = true ∧ A d.f1 d.f0 + d.f2 < 0)) :
    ∀ {l : List Int} {u v W : Int}, 0 ≤ u → u < (n : Int) → Wk (L ++ [d]) u l v W → (0 ≤ v ∧ v < (n : Int)) ∧ ((B u v = true ∧ A u v ≤ W) ∨ (B u d.f0 = true ∧ B d.f1 v = true ∧ A u d.f0 + d.f2 + A d.f1 v ≤ W))
  | [], u, v, W, u0, u1, h => by
    obtain ⟨rfl, rfl⟩ := h
    have := (hAB v v u0 u1 u0 u1).self hs
    exact ⟨⟨u0, u1⟩, Or.inl ⟨this.1, by omega⟩⟩
  | i :: is, u, v, W, u0, u1, h => by
    obtain ⟨⟨i0, i1⟩, e, h2⟩ := h
    rw [List.length_append, List.length_singleton] at i1
    by_cases c : i < L.length
    · rw [rdT_snoc_lo d i0 c] at e h2
      have he := hE i i0 c
      obtain ⟨hv, hk⟩ := narrow_key hE hd hs hAB hno he.c he.g h2
      have hux := (hAB u (rd_T39 L i).f1 u0 u1 he.c he.g).of_walk (l := [i]) (W := (rd_T39 L i).f2) ⟨⟨i0, c⟩, e, rfl, by omega⟩
      refine ⟨hv, ?_⟩
      rcases hk with ⟨k1, k2⟩ | ⟨k1, k2, k3⟩
      · have := (hAB u _ u0 u1 he.c he.g).tri (hAB _ v he.c he.g hv.1 hv.2) (hAB u v u0 u1 hv.1 hv.2) hux.1 k1
        exact Or.inl ⟨this.1, by omega⟩
      · have := (hAB u _ u0 u1 he.c he.g).tri (hAB _ d.f0 he.c he.g hd.a hd.b) (hAB u d.f0 u0 u1 hd.a hd.b) hux.1 k1
        exact Or.inr ⟨this.1, k2, by omega⟩
    · obtain rfl : i = L.length := by push_cast at i1; omega
      rw [rdT_snoc_hi] at e h2
      obtain ⟨hv, hk⟩ := narrow_key hE hd hs hAB hno hd.c hd.g h2
      have hff := (hAB d.f0 d.f0 hd.a hd.b hd.a hd.b).self hs
      refine ⟨hv, ?_⟩
      rw [← e]
      rcases hk with ⟨k1, k2⟩ | ⟨k1, k2, k3⟩
      · exact Or.inr ⟨hff.1, k1, by omega⟩
      · have : ¬ (A d.f1 d.f0 + d.f2 < 0) := fun h => hno ⟨k1, h⟩
        exact Or.inr ⟨hff.1, k2, by omega⟩
theorem narrow_clash {d : S39} (hd : EdgeOk n d) {A : Int → Int → Int} {B : Int → Int → Bool} (hAB : Short L d.f1 d.f0 (A d.f1 d.f0) (B d.f1 d.f0)) (hc : B d.f1 d.f0 = true ∧ A d.f1 d.f0 + d.f2 < 0) : ¬ Solv (L ++ [d]) := fun ⟨x, hx⟩ => by
  obtain ⟨⟨l, w1⟩, _⟩ := hAB.yes hc.1
  obtain ⟨l', w2⟩ := w1.sub (L' := L ++ [d]) (fun e he => List.mem_append_left _ he)
  have h1 := hx.walk w2
  have h2 := hx L.length (by omega) (by rw [List.length_append]; simp; omega)
  rw [rdT_snoc_hi] at h2
  omega
theorem narrow_solv {d : S39} (hn0 : 0 < n) (hE : EdgesOk n L) (hd : EdgeOk n d) (hs : Solv L) {A : Int → Int → Int} {B : Int → Int → Bool} (hAB : ∀ i j, 0 ≤ i → i < (n : Int) → 0 ≤ j → j < (n : Int) → Short L i j (A i j) (B i j)) (hno : ¬ (B d.f1 d.f0 = true ∧ A d.f1 d.f0 + d.f2 < 0)) : EdgesOk n (L ++ [d]) ∧ Solv (L ++ [d]) := by
  have hE' : EdgesOk n (L ++ [d]) := fun k k0 k1 => by
    rw [List.length_append, List.length_singleton] at k1
    by_cases c : k < L.length
    · rw [rdT_snoc_lo d k0 c]; exact hE k k0 c
    · obtain rfl : k = L.length := by push_cast at k1; omega
      rw [rdT_snoc_hi]; exact hd
  refine ⟨hE', ?_⟩
  obtain ⟨s, bad, g1, g2⟩ := grow_all hn0 hE' (from_ := allL n) (fun i hi => mem_allL.1 hi)
  have hi := g2.bad_iff hE' (fun v a b => mem_allL.2 ⟨a, b⟩)
  rcases g2.res with ⟨e, _⟩ | ⟨e, hr⟩
  · exact hi.1 e
  · obtain ⟨v0, v1, _⟩ := id hr
    obtain ⟨c, W, _, _, _, w1, w2⟩ := g2.round hE' hr
    obtain ⟨_, hk⟩ := narrow_key hE hd hs hAB hno v0 v1 w2
    have hvv := (hAB bad bad v0 v1 v0 v1).self hs
    rcases hk with ⟨k1, k2⟩ | ⟨k1, k2, k3⟩
    · omega
    · have := (hAB d.f1 bad hd.c hd.g v0 v1).tri (hAB bad d.f0 v0 v1 hd.a hd.b) (hAB d.f1 d.f0 hd.c hd.g hd.a hd.b) k2 k1
      exact absurd ⟨this.1, by omega⟩ hno
theorem narrow_short {d : S39} (hE : EdgesOk n L) (hd : EdgeOk n d) (hs : Solv L) {A : Int → Int → Int} {B : Int → Int → Bool} (hAB : ∀ i j, 0 ≤ i → i < (n : Int) → 0 ≤ j → j < (n : Int) → Short L i j (A i j) (B i j)) (hno : ¬ (B d.f1 d.f0 = true ∧ A d.f1 d.f0 + d.f2 < 0)) {i j : Int} (i0 : 0 ≤ i) (i1 : i < n) (j0 : 0 ≤ j) (j1 : j < n) : Short (L ++ [d]) i j (nA A B d i j) (nB A B d i j) := by
  have key := fun {l : List Int} {W : Int} (h : Wk (L ++ [d]) i l j W) => (narrow_key hE hd hs hAB hno i0 i1 h).2
  have hin : ∀ e ∈ L, e ∈ L ++ [d] := fun e he => List.mem_append_left _ he
  have hij := hAB i j i0 i1 j0 j1
  by_cases c : nCond A B d i j
  · have e1 : nA A B d i j = A i d.f0 + d.f2 + A d.f1 j := if_pos c
    have e2 : nB A B d i j = true := if_pos c
    rw [e1, e2]
    obtain ⟨c1, c2, c3⟩ := c
    refine ⟨fun _ => ⟨?_, fun l W hw => ?_⟩, fun h => by cases h⟩
    · obtain ⟨⟨l1, w1⟩, _⟩ := (hAB i d.f0 i0 i1 hd.a hd.b).yes c1
      obtain ⟨⟨l2, w2⟩, _⟩ := (hAB d.f1 j hd.c hd.g j0 j1).yes c2
      obtain ⟨l1', w1'⟩ := w1.sub hin
      obtain ⟨l2', w2'⟩ := w2.sub hin
      have wd : Wk (L ++ [d]) d.f0 [(L.length : Int)] d.f1 d.f2 := ⟨⟨by omega, by rw [List.length_append]; simp; omega⟩, by rw [rdT_snoc_hi], by rw [rdT_snoc_hi]; exact ⟨rfl, by omega⟩⟩
      exact ⟨_, (w1'.append wd).append w2'⟩
    · rcases key hw with ⟨k1, k2⟩ | ⟨_, _, k3⟩
      · rcases c3 with c3 | c3
        · rw [k1] at c3; cases c3
        · omega
      · exact k3
  · have e1 : nA A B d i j = A i j := if_neg c
    have e2 : nB A B d i j = B i j := if_neg c
    rw [e1, e2]
    have hc : B i d.f0 = true → B d.f1 j = true → B i j = true ∧ A i j ≤ A i d.f0 + d.f2 + A d.f1 j := fun h1 h2 => by
      apply Classical.byContradiction
      intro h
      refine c ⟨h1, h2, ?_⟩
      by_cases hb : B i j = true
      · by_cases hl : A i d.f0 + d.f2 + A d.f1 j < A i j
        · exact Or.inr hl
        · exact absurd ⟨hb, by omega⟩ h
      · exact Or.inl (Bool.eq_false_iff.2 hb)
    refine ⟨fun hb => ⟨?_, fun l W hw => ?_⟩, fun hb => ⟨(hij.no hb).1, fun l W hw => ?_⟩⟩
    · obtain ⟨⟨l, w⟩, _⟩ := hij.yes hb
      exact w.sub hin
    · rcases key hw with ⟨_, k2⟩ | ⟨k1, k2, k3⟩
      · exact k2
      · have := (hc k1 k2).2; omega
    · rcases key hw with ⟨k1, _⟩ | ⟨k1, k2, _⟩
      · rw [hb] at k1; cases k1
      · have := (hc k1 k2).1; rw [hb] at this; cases this
end
end Go.Proofs.Ytpolojoeabmhdaa.A
namespace Go.Proofs.Ytpolojoeabmhdaa.A
open Go.RowKit Go.Proofs.YtpolojoeabmhdaaW.PrintWords Go.Proofs.YtpolojoeabmhdaaW.PrintLast Go.Proofs.YtpolojoeabmhdaaW.PrintMore
attribute [local go_sem] max2_int min2_int max_two min_two max_three min_three max_four min_four
def diffs_opened.f (a0_0 : Int) (l0_1 : List Int) (l0_2 : List Bool) : Option (Int × List Int × Int × List Bool) := (slices_Clone_int_int.f l0_1).bind fun t556 => ((slices_Clone_bool_bool.f l0_2).bind fun t559 => (some (a0_0, t556, a0_0, t559)))
def diffs_opened.T1 : Bool × List (List Nat × List Nat) := (true, [([], []), ([0], [0]), ([], []), ([2], [2]), ([3], [3]), ([1, 4], [1, 4]), ([], []), ([6], [6]), ([], []), ([8], [8]), ([9, 4], [9]), ([7, 10], [7, 10]), ([5, 11], [5, 11]), ([12, 10, 0, 1, 2, 3, 4, 5, 6, 7, 8, 9, 10, 11, 12], [12])])
def diffs_opened.B1 : List Nat := [0, 1, 0, 4, 12, 31, 0, 64, 0, 256, 796, 2012, 4095, 8191]
theorem diffs_opened.tab1 : rtab .any (opsOf Try.f84 1) = diffs_opened.T1 := by kernel_rfl
theorem diffs_opened.bits1 : waitsOk diffs_opened.T1.2 diffs_opened.B1 = true := by kernel_rfl
set_option maxHeartbeats 8000000 in
set_option maxRecDepth 100000 in
theorem diffs_opened.calls (a0_0 : Int) (A0_1 : Option Addr) (c0_1 : Nat) (l0_1 : List Int) (A0_2 : Option Addr) (c0_2 : Nat) (l0_2 : List Bool) (r1 : Int) (r2 : List Int) (r3 : Int) (r4 : List Bool) (w : World) (hr0_1 : Kd.C (Kd.int .i64) w A0_1 l0_1.length l0_1) (hc0_1 : l0_1.length ≤ c0_1) (hr0_2 : Kd.C Kd.bool w A0_2 l0_2.length l0_2) (hc0_2 : l0_2.length ≤ c0_2) (h : diffs_opened.f a0_0 l0_1 l0_2 = some (r1, r2, r3, r4)) :
  Calls Try.prog 84 #[.agg #[.int .i64 a0_0, .slice A0_1 l0_1.length c0_1, .slice A0_2 l0_2.length c0_2]] w fun e w' => ∃ v1_ v3_ : Value, e = .returned (.agg #[.int .i64 r1, v1_, .int .i64 r3, v3_]) ∧ Kd.R (Kd.int .i64) 3 w' w.heap.size (fun _ => True) v1_ r2 ∧ Kd.R Kd.bool 4 w' w.heap.size (fun _ => True) v3_ r4 ∧ Below w.heap.size w w' := by
 have hu43 := Try.underlying43; have hu109 := Try.underlying109; have hu105 := Try.underlying105; have hu107 := Try.underlying107; have HR0_1 := Z_ hr0_1; have HC0_1 := Z_ hc0_1; clear hr0_1 hc0_1; have HR0_2 := Z_ hr0_2; have HC0_2 := Z_ hc0_2; clear hr0_2 hc0_2; have HB := Z_ (Below.refl w.heap.size w); have H : ((slices_Clone_int_int.f l0_1).bind fun t556 => ((slices_Clone_bool_bool.f l0_2).bind fun t559 => (some (a0_0, t556, a0_0, t559)))) = some (r1, r2, r3, r4) := h; clear h; replace H := oS_.mp H; obtain ⟨t556, A20, H⟩ := H; have A2 := Z_ A20; clear A20; replace H := oS_.mp H; obtain ⟨t559, A30, H⟩ := H; have A3 := Z_ A30; clear A30; simp only [oJ_, pI_] at H; obtain ⟨rfl, rfl, rfl, rfl⟩ := H; go_enter Try.func84, Try.ntmps84; try go_wp2_with (first | ((with_reducible refine gate_dst (N := 1) rfl ?_); refine bX_ 1 #[.int .i64 a0_0, .slice A0_1 l0_1.length c0_1, .slice A0_2 l0_2.length c0_2] 43 ?_; intro gb554 hg w4 hbox hb; have BK554 := Z_ (hbox); have GW554 := Z_ ((by rw [hg]; exact (fZ_ hB_) : w.heap.size ≤ gb554)); have GE554 := Z_ ((by rw [hg]; exact (fZ_ hB_) : w.heap.size ≤ gb554)); replace HB := Z_ (fS_ hB_ hb); clear hb hbox hg) | ((with_reducible refine gate_dst (N := 2) rfl ?_); refine bX_ 2 #[.int .i64 0, .slice none 0 0, .int .i64 0, .slice none 0 0] 109 ?_; intro gb555 hg w5 hbox hb; have BK555 := Z_ (hbox); have GW555 := Z_ ((by rw [hg]; exact (fZ_ hB_) : w.heap.size ≤ gb555)); have GE555 := Z_ ((by rw [hg]; exact (fZ_ hB_) : w.heap.size ≤ gb555)); replace HB := Z_ (fS_ hB_ hb); have NB554_555 := Z_ ((nB_ hg BK554.out : gb554 ≠ gb555)); have NB555_554 := Z_ ((by rw [hg]; exact Nat.ne_of_gt (blk_lt (g := gb554) (o := .cells #[.int .i64 a0_0, .slice A0_1 l0_1.length c0_1, .slice A0_2 l0_2.length c0_2] 43 (0, 0)) (bR_ BK554.out)) : gb555 ≠ gb554)); replace BK554 := Z_ (bS_ BK554.out hb); clear hb hbox hg))
 replace BK554 := Z_ (bD_ BK554.out); replace BK555 := Z_ (bD_ BK555.out); replace HB := Z_ (fD_ HB.out); refine start_ (n := 14) (S := fun w' => w'.cell? ⟨gb554, 0, none⟩ = some (.int .i64 a0_0) ∧ w'.cell? ⟨gb554, 1, none⟩ = some (.slice A0_1 l0_1.length c0_1) ∧ w'.cell? ⟨gb554, 2, none⟩ = some (.slice A0_2 l0_2.length c0_2)) (ds := []) #[false, false, false, false, false, false, false, false, false, false, false, false, false, false] (by kernel_rfl) rfl rfl ⟨(bC_ BK554.out 0).trans rfl, (bC_ BK554.out 1).trans rfl, (bC_ BK554.out 2).trans rfl⟩ (fun hHeld => ?_); refine with_tabW diffs_opened.tab1 diffs_opened.bits1 (fun HT_ HW_ => ?_); generalize w5.drew = w6 at BK554 BK555 HB hHeld ⊢; refine pP_ 0 3 ?_; refine pP_ 2 5 ?_; refine pP_ 6 9 ?_; refine pP_ 8 11 ?_; refine pT_ 1 4 ?_; refine pT_ 3 6 ?_; refine pT_ 7 10 ?_; refine pT_ 9 12 ?_; refine oN_ 4 (some 7) (fun K hK => ?_); refine gO_ Try.func99 #[.slice A0_1 l0_1.length c0_1] ?_; with_reducible refine (slices_Clone_int_int.calls _ _ l0_1 t556 _ ?side1 ?side2 A2.out).mono ?_
 (case side1 => exact cS_ (cB_ HR0_1.out HB.out))
 (case side2 => exact HC0_1.out)
 rintro e w7 ⟨v557, rfl, ho0, hb⟩; refine ⟨_, rfl, ?_⟩; have HO558 := Z_ (rL_ ho0 (fZ_ hB_)); replace BK554 := Z_ (bS_ BK554.out hb); replace BK555 := Z_ (bS_ BK555.out hb); replace HB := Z_ (fS_ hB_ hb); (try clear hb)
 (try clear ho0)
 obtain ⟨Ao8, co8, eo8⟩ := rS_ HO558.out; (first | subst eo8 | (injection eo8 with f1_ f2_ f3_; have f4_ := f1_.symm; have f5_ := f3_.symm; clear f1_ f2_ f3_; subst f4_; subst f5_))
 refine hK.out _ _ ⟨(bC_ BK554.out 0).trans rfl, (bC_ BK554.out 1).trans rfl, (bC_ BK554.out 2).trans rfl⟩ (fun hHeld => ?_); clear hK K; refine nP_ 7 ?_; refine pP_ 5 8 ?_; refine oN_ 10 (some 13) (fun K hK => ?_); refine gO_ Try.func114 #[.slice A0_2 l0_2.length c0_2] ?_; with_reducible refine (slices_Clone_bool_bool.calls _ _ l0_2 t559 _ ?side1 ?side2 A3.out).mono ?_
 (case side1 => exact cS_ (cB_ HR0_2.out HB.out))
 (case side2 => exact HC0_2.out)
 rintro e w9 ⟨v560, rfl, ho0, hb⟩; refine ⟨_, rfl, ?_⟩; replace HO558 := Z_ (rB_ (rK_ HO558.out) hb); have HO561 := Z_ (rL_ ho0 (fZ_ hB_)); replace BK554 := Z_ (bS_ BK554.out hb); replace BK555 := Z_ (bS_ BK555.out hb); replace HB := Z_ (fS_ hB_ hb); (try clear hb)
 (try clear ho0)
 obtain ⟨Ao10, co10, eo10⟩ := rS_ HO561.out; (first | subst eo10 | (injection eo10 with f1_ f2_ f3_; have f4_ := f1_.symm; have f5_ := f3_.symm; clear f1_ f2_ f3_; subst f4_; subst f5_))
 refine hK.out _ _ ⟨(bC_ BK554.out 0).trans rfl, (bC_ BK554.out 1).trans rfl, (bC_ BK554.out 2).trans rfl⟩ (fun hHeld => ?_); clear hK K; refine nP_ 13 ?_; refine pP_ 11 14 ?_; refine pP_ 12 15 ?_; refine oN_ 13 none (fun K hK => ?_); have hs11 : w9.cell? ⟨gb555, 0, none⟩ = some (.int .i64 0) := (bC_ BK555.out 0).trans rfl; have hfs11 := bF_ BK555.out 0; have hns11_0 := NB554_555.out; have hms11_0 := NB555_554.out; have hs12 : w9.cell? ⟨gb555, 1, none⟩ = some (.slice none 0 0) := (bC_ BK555.out 1).trans rfl; have hfs12 := bF_ BK555.out 1; have hns12_0 := NB554_555.out; have hms12_0 := NB555_554.out; have hs13 : w9.cell? ⟨gb555, 2, none⟩ = some (.int .i64 0) := (bC_ BK555.out 2).trans rfl; have hfs13 := bF_ BK555.out 2; have hns13_0 := NB554_555.out; have hms13_0 := NB555_554.out; have hs14 : w9.cell? ⟨gb555, 3, none⟩ = some (.slice none 0 0) := (bC_ BK555.out 3).trans rfl; have hfs14 := bF_ BK555.out 3; have hns14_0 := NB554_555.out; have hms14_0 := NB555_554.out; refine skip_ (w1 := ?_) (by rfl) rfl ?_ ?_; rotate_left
 ·go_simp
  rfl
 refine hK.out _ _ ⟨((cell_far (p := ⟨gb555, _, none⟩) NB554_555.out _).trans (((cell_far (p := ⟨gb555, _, none⟩) NB554_555.out _).trans (((cell_far (p := ⟨gb555, _, none⟩) NB554_555.out _).trans (((cell_far (p := ⟨gb555, _, none⟩) NB554_555.out _).trans (hHeld.1)))))))), ((cell_far (p := ⟨gb555, _, none⟩) NB554_555.out _).trans (((cell_far (p := ⟨gb555, _, none⟩) NB554_555.out _).trans (((cell_far (p := ⟨gb555, _, none⟩) NB554_555.out _).trans (((cell_far (p := ⟨gb555, _, none⟩) NB554_555.out _).trans (hHeld.2.1)))))))), ((cell_far (p := ⟨gb555, _, none⟩) NB554_555.out _).trans (((cell_far (p := ⟨gb555, _, none⟩) NB554_555.out _).trans (((cell_far (p := ⟨gb555, _, none⟩) NB554_555.out _).trans (((cell_far (p := ⟨gb555, _, none⟩) NB554_555.out _).trans (hHeld.2.2))))))))⟩ (fun hHeld => ?_); clear hK K; refine dN_ ?_; try go_wp2
 refine bodyPost_ret (results_cell_row rfl _ _ gb555 109 #[.int .i64 a0_0, .slice Ao8 t556.length co8, .int .i64 a0_0, .slice Ao10 t559.length co10] (0, 0) _ rfl (by (with_reducible repeat (first | refine bN_ ?_ _ | refine bD_ ?_)); refine blk_put (cs := #[.int .i64 a0_0, .slice Ao8 t556.length co8, .int .i64 a0_0, .slice none 0 0]) ?_ 3 _ rfl; (with_reducible repeat (first | refine bN_ ?_ _ | refine bD_ ?_)); refine blk_put (cs := #[.int .i64 a0_0, .slice Ao8 t556.length co8, .int .i64 0, .slice none 0 0]) ?_ 2 _ rfl; (with_reducible repeat (first | refine bN_ ?_ _ | refine bD_ ?_)); refine blk_put (cs := #[.int .i64 a0_0, .slice none 0 0, .int .i64 0, .slice none 0 0]) ?_ 1 _ rfl; (with_reducible repeat (first | refine bN_ ?_ _ | refine bD_ ?_)); refine blk_put (cs := #[.int .i64 0, .slice none 0 0, .int .i64 0, .slice none 0 0]) ?_ 0 _ rfl; (with_reducible repeat (first | refine bN_ ?_ _ | refine bD_ ?_)); exact BK555.out) Try.underlying109 rfl (by kernel_rfl)) rfl ?_; exact ⟨_, _, eW_, by (with_reducible repeat (first | apply rN_ | apply rD_)); exact rM_ (rF_ (p := ⟨gb555, 3, none⟩) (rF_ (p := ⟨gb555, 2, none⟩) (rF_ (p := ⟨gb555, 1, none⟩) (rF_ (p := ⟨gb555, 0, none⟩) (Kd.R_types HO558.out BK555.out (by decide)) (fun _ hk => hk.2) (.int .i64 a0_0)) (fun _ hk => hk.2) (.slice Ao8 t556.length co8)) (fun _ hk => hk.2) (.int .i64 a0_0)) (fun _ hk => hk.2) (.slice Ao10 t559.length co10)) (fun _ hk => trivial), by (with_reducible repeat (first | apply rN_ | apply rD_)); exact rM_ (rF_ (p := ⟨gb555, 3, none⟩) (rF_ (p := ⟨gb555, 2, none⟩) (rF_ (p := ⟨gb555, 1, none⟩) (rF_ (p := ⟨gb555, 0, none⟩) (Kd.R_types HO561.out BK555.out (by decide)) (fun _ hk => hk.2) (.int .i64 a0_0)) (fun _ hk => hk.2) (.slice Ao8 t556.length co8)) (fun _ hk => hk.2) (.int .i64 a0_0)) (fun _ hk => hk.2) (.slice Ao10 t559.length co10)) (fun _ hk => trivial), hB_⟩
def diffs_square_int_at.f (a0_0 : Int) (l0_1 : List Int) (a1 : Int) (a2 : Int) : Option (Int) := if 0 ≤ (wrap64 ((wrap64 (a1 * a0_0)) + a2)) then (if (wrap64 ((wrap64 (a1 * a0_0)) + a2)) < (l0_1.length : Int) then (some (rd l0_1 (wrap64 ((wrap64 (a1 * a0_0)) + a2)))) else (none)) else (none)
set_option maxHeartbeats 8000000 in
set_option maxRecDepth 100000 in
theorem diffs_square_int_at.calls (a0_0 : Int) (A0_1 : Option Addr) (c0_1 : Nat) (l0_1 : List Int) (a1 : Int) (a2 : Int) (r : Int) (w : World) (hr0_1 : Kd.C (Kd.int .i64) w A0_1 l0_1.length l0_1) (hc0_1 : l0_1.length ≤ c0_1) (h : diffs_square_int_at.f a0_0 l0_1 a1 a2 = some r) :
  Calls Try.prog 115 #[.agg #[.int .i64 a0_0, .slice A0_1 l0_1.length c0_1], .int .i64 a1, .int .i64 a2] w fun e w' => e = .returned (.int .i64 r) ∧ Below w.heap.size w w' := by
 have hu105 := Try.underlying105; have HR0_1 := Z_ hr0_1; have HC0_1 := Z_ hc0_1; clear hr0_1 hc0_1; have HB := Z_ (Below.refl w.heap.size w); have H : (if 0 ≤ (wrap64 ((wrap64 (a1 * a0_0)) + a2)) then (if (wrap64 ((wrap64 (a1 * a0_0)) + a2)) < (l0_1.length : Int) then (some (rd l0_1 (wrap64 ((wrap64 (a1 * a0_0)) + a2)))) else (none)) else (none)) = some r := h; clear h; obtain ⟨ji4, hji4⟩ : ∃ j_ : Int, (wrap64 ((wrap64 (a1 * a0_0)) + a2)) = j_ := ⟨_, rfl⟩; replace H : (if 0 ≤ (ji4) then (if (ji4) < (l0_1.length : Int) then (some (rd l0_1 (ji4))) else (none)) else (none)) = some r := by first | (rw [hji4] at H; exact H) | (simp only [hji4] at H ⊢; exact H)
 have hji4w : (IntKind.i64.wrap ((wrap64 (a1 * a0_0)) + a2)) = ji4 := (i64_w _).trans hji4; by_cases c5 : 0 ≤ (ji4)
 ·rw [if_pos c5] at H
  have c5b0 : decide (0 ≤ (ji4)) = true := eT_ c5; clear c5; by_cases c6 : (ji4) < (l0_1.length : Int)
  ·rw [if_pos c6] at H
   have c6b0 : decide ((ji4) < (l0_1.length : Int)) = true := eT_ c6; clear c6; obtain rfl := oI_ H; go_enter Try.func115, Try.ntmps115; go_wp2_with (first | ((with_reducible refine gate_dst (N := 3) rfl ?_); refine bX_ 3 #[.int .i64 a0_0, .slice A0_1 l0_1.length c0_1] 105 ?_; intro gb562 hg w7 hbox hb; have BK562 := Z_ (hbox); have GW562 := Z_ ((by rw [hg]; exact (fZ_ hB_) : w.heap.size ≤ gb562)); have GE562 := Z_ ((by rw [hg]; exact (fZ_ hB_) : w.heap.size ≤ gb562)); replace HB := Z_ (fS_ hB_ hb); clear hb hbox hg; obtain ⟨⟨hcz8_0, hcz8_1⟩, hfz8_0, hfz8_1⟩ := f2_ BK562.out; have p563 : 0 ≤ ((ji4) : Int) := dT_ as_; have q563 : (ji4) < (l0_1.length : Int) := dT_ as_; obtain ⟨ad563, e563, hx563_0⟩ := Kd.at_int HR0_1.out (ji4) p563 q563; cases e563; replace hx563_0 := (HB.out.cell (World.block_lt_of_cell? w _ hx563_0)).trans hx563_0; replace p563 := eq_true p563; replace q563 := eq_true q563)); go_ret; exact ⟨by first | rfl | (simp [errW_none, errW_some] <;> rfl) | (simp only [← hji4]; first | rfl | (simp [errW_none, errW_some] <;> rfl)) | (simp [*, errW_none, errW_some] <;> rfl), hB_⟩
  rw [if_neg c6] at H; exact absurd H (by simp)
 rw [if_neg c5] at H; exact absurd H (by simp)
def diffs_square_bool_at.f (a0_0 : Int) (l0_1 : List Bool) (a1 : Int) (a2 : Int) : Option (Bool) := if 0 ≤ (wrap64 ((wrap64 (a1 * a0_0)) + a2)) then (if (wrap64 ((wrap64 (a1 * a0_0)) + a2)) < (l0_1.length : Int) then (some (rdOf false l0_1 (wrap64 ((wrap64 (a1 * a0_0)) + a2)))) else (none)) else (none)
set_option maxHeartbeats 8000000 in
set_option maxRecDepth 100000 in
theorem diffs_square_bool_at.calls (a0_0 : Int) (A0_1 : Option Addr) (c0_1 : Nat) (l0_1 : List Bool) (a1 : Int) (a2 : Int) (r : Bool) (w : World) (hr0_1 : Kd.C Kd.bool w A0_1 l0_1.length l0_1) (hc0_1 : l0_1.length ≤ c0_1) (h : diffs_square_bool_at.f a0_0 l0_1 a1 a2 = some r) :
  Calls Try.prog 116 #[.agg #[.int .i64 a0_0, .slice A0_1 l0_1.length c0_1], .int .i64 a1, .int .i64 a2] w fun e w' => e = .returned (.bool r) ∧ Below w.heap.size w w' := by
 have hu107 := Try.underlying107; have HR0_1 := Z_ hr0_1; have HC0_1 := Z_ hc0_1; clear hr0_1 hc0_1; have HB := Z_ (Below.refl w.heap.size w); have H : (if 0 ≤ (wrap64 ((wrap64 (a1 * a0_0)) + a2)) then (if (wrap64 ((wrap64 (a1 * a0_0)) + a2)) < (l0_1.length : Int) then (some (rdOf false l0_1 (wrap64 ((wrap64 (a1 * a0_0)) + a2)))) else (none)) else (none)) = some r := h; clear h; obtain ⟨ji4, hji4⟩ : ∃ j_ : Int, (wrap64 ((wrap64 (a1 * a0_0)) + a2)) = j_ := ⟨_, rfl⟩; replace H : (if 0 ≤ (ji4) then (if (ji4) < (l0_1.length : Int) then (some (rdOf false l0_1 (ji4))) else (none)) else (none)) = some r := by first | (rw [hji4] at H; exact H) | (simp only [hji4] at H ⊢; exact H)
 have hji4w : (IntKind.i64.wrap ((wrap64 (a1 * a0_0)) + a2)) = ji4 := (i64_w _).trans hji4; by_cases c5 : 0 ≤ (ji4)
 ·rw [if_pos c5] at H
  have c5b0 : decide (0 ≤ (ji4)) = true := eT_ c5; clear c5; by_cases c6 : (ji4) < (l0_1.length : Int)
  ·rw [if_pos c6] at H
   have c6b0 : decide ((ji4) < (l0_1.length : Int)) = true := eT_ c6; clear c6; obtain rfl := oI_ H; go_enter Try.func116, Try.ntmps116; go_wp2_with (first | ((with_reducible refine gate_dst (N := 3) rfl ?_); refine bX_ 3 #[.int .i64 a0_0, .slice A0_1 l0_1.length c0_1] 107 ?_; intro gb564 hg w7 hbox hb; have BK564 := Z_ (hbox); have GW564 := Z_ ((by rw [hg]; exact (fZ_ hB_) : w.heap.size ≤ gb564)); have GE564 := Z_ ((by rw [hg]; exact (fZ_ hB_) : w.heap.size ≤ gb564)); replace HB := Z_ (fS_ hB_ hb); clear hb hbox hg; obtain ⟨⟨hcz8_0, hcz8_1⟩, hfz8_0, hfz8_1⟩ := f2_ BK564.out; have p565 : 0 ≤ ((ji4) : Int) := dT_ as_; have q565 : (ji4) < (l0_1.length : Int) := dT_ as_; obtain ⟨ad565, e565, hx565_0⟩ := Kd.at_bool HR0_1.out (ji4) p565 q565; cases e565; replace hx565_0 := (HB.out.cell (World.block_lt_of_cell? w _ hx565_0)).trans hx565_0; replace p565 := eq_true p565; replace q565 := eq_true q565)); go_ret; exact ⟨by first | rfl | (simp [errW_none, errW_some] <;> rfl) | (simp only [← hji4]; first | rfl | (simp [errW_none, errW_some] <;> rfl)) | (simp [*, errW_none, errW_some] <;> rfl), hB_⟩
  rw [if_neg c6] at H; exact absurd H (by simp)
 rw [if_neg c5] at H; exact absurd H (by simp)
def diffs_grid_get.f (a0_0 : Int) (l0_1 : List Int) (a0_2 : Int) (l0_3 : List Bool) (a1 : Int) (a2 : Int) : Option (Int × Bool) := (diffs_square_int_at.f a0_0 l0_1 a1 a2).bind fun t567 => ((diffs_square_bool_at.f a0_2 l0_3 a1 a2).bind fun t568 => (some (t567, t568)))
def diffs_grid_get.T1 : Bool × List (List Nat × List Nat) := (true, [([], []), ([0], [0]), ([], []), ([], []), ([1, 2, 3], [1, 2, 3]), ([], []), ([5], [5]), ([], []), ([], []), ([6, 7, 8, 4], [6, 7, 8]), ([4, 9, 0, 1, 2, 3, 4], [4]), ([9, 10, 0, 1, 2, 3, 4, 5, 6, 7, 8, 9, 10], [9])])
def diffs_grid_get.B1 : List Nat := [0, 1, 0, 0, 15, 0, 32, 0, 0, 511, 1023, 2047]
theorem diffs_grid_get.tab1 : rtab .any (opsOf Try.f85 1) = diffs_grid_get.T1 := by kernel_rfl
theorem diffs_grid_get.bits1 : waitsOk diffs_grid_get.T1.2 diffs_grid_get.B1 = true := by kernel_rfl
set_option maxHeartbeats 8000000 in
set_option maxRecDepth 100000 in
theorem diffs_grid_get.calls (a0_0 : Int) (A0_1 : Option Addr) (c0_1 : Nat) (l0_1 : List Int) (a0_2 : Int) (A0_3 : Option Addr) (c0_3 : Nat) (l0_3 : List Bool) (a1 : Int) (a2 : Int) (r1 : Int) (r2 : Bool) (w : World) (hr0_1 : Kd.C (Kd.int .i64) w A0_1 l0_1.length l0_1) (hc0_1 : l0_1.length ≤ c0_1) (hr0_3 : Kd.C Kd.bool w A0_3 l0_3.length l0_3) (hc0_3 : l0_3.length ≤ c0_3) (h : diffs_grid_get.f a0_0 l0_1 a0_2 l0_3 a1 a2 = some (r1, r2)) :
  Calls Try.prog 85 #[.agg #[.int .i64 a0_0, .slice A0_1 l0_1.length c0_1, .int .i64 a0_2, .slice A0_3 l0_3.length c0_3], .int .i64 a1, .int .i64 a2] w fun e w' => e = .returned (.tuple #[.int .i64 r1, .bool r2]) ∧ Below w.heap.size w w' := by
 have hu109 := Try.underlying109; have hu105 := Try.underlying105; have hu107 := Try.underlying107; have HR0_1 := Z_ hr0_1; have HC0_1 := Z_ hc0_1; clear hr0_1 hc0_1; have HR0_3 := Z_ hr0_3; have HC0_3 := Z_ hc0_3; clear hr0_3 hc0_3; have HB := Z_ (Below.refl w.heap.size w); have H : ((diffs_square_int_at.f a0_0 l0_1 a1 a2).bind fun t567 => ((diffs_square_bool_at.f a0_2 l0_3 a1 a2).bind fun t568 => (some (t567, t568)))) = some (r1, r2) := h; clear h; replace H := oS_.mp H; obtain ⟨t567, A40, H⟩ := H; have A4 := Z_ A40; clear A40; replace H := oS_.mp H; obtain ⟨t568, A50, H⟩ := H; have A5 := Z_ A50; clear A50; simp only [oJ_, pI_] at H; obtain ⟨rfl, rfl⟩ := H; go_enter Try.func85, Try.ntmps85; try go_wp2_with (first | ((with_reducible refine gate_dst (N := 3) rfl ?_); refine bX_ 3 #[.int .i64 a0_0, .slice A0_1 l0_1.length c0_1, .int .i64 a0_2, .slice A0_3 l0_3.length c0_3] 109 ?_; intro gb566 hg w6 hbox hb; have BK566 := Z_ (hbox); have GW566 := Z_ ((by rw [hg]; exact (fZ_ hB_) : w.heap.size ≤ gb566)); have GE566 := Z_ ((by rw [hg]; exact (fZ_ hB_) : w.heap.size ≤ gb566)); replace HB := Z_ (fS_ hB_ hb); clear hb hbox hg))
 replace BK566 := Z_ (bD_ BK566.out); replace HB := Z_ (fD_ HB.out); refine start_ (n := 12) (S := fun w' => w'.cell? ⟨gb566, 0, none⟩ = some (.int .i64 a0_0) ∧ w'.cell? ⟨gb566, 1, none⟩ = some (.slice A0_1 l0_1.length c0_1) ∧ w'.cell? ⟨gb566, 2, none⟩ = some (.int .i64 a0_2) ∧ w'.cell? ⟨gb566, 3, none⟩ = some (.slice A0_3 l0_3.length c0_3)) (ds := []) #[false, false, false, false, false, false, false, false, false, false, false, false] (by kernel_rfl) rfl rfl ⟨(bC_ BK566.out 0).trans rfl, (bC_ BK566.out 1).trans rfl, (bC_ BK566.out 2).trans rfl, (bC_ BK566.out 3).trans rfl⟩ (fun hHeld => ?_); refine with_tabW diffs_grid_get.tab1 diffs_grid_get.bits1 (fun HT_ HW_ => ?_); generalize w6.drew = w7 at BK566 HB hHeld ⊢; refine pP_ 0 8 ?_; refine pP_ 2 10 ?_; refine pP_ 3 11 ?_; refine pP_ 5 13 ?_; refine pP_ 7 15 ?_; refine pP_ 8 16 ?_; refine pT_ 1 9 ?_; refine pT_ 6 14 ?_; refine oN_ 4 (some 12) (fun K hK => ?_); refine gO_ Try.func115 #[.agg #[.int .i64 a0_0, .slice A0_1 l0_1.length c0_1], .int .i64 a1, .int .i64 a2] ?_; with_reducible refine (diffs_square_int_at.calls a0_0 _ _ l0_1 a1 a2 t567 _ ?side1 ?side2 A4.out).mono ?_
 (case side1 => exact cS_ (cB_ HR0_1.out HB.out))
 (case side2 => exact HC0_1.out)
 rintro e w8 ⟨rfl, hb⟩; refine ⟨_, rfl, ?_⟩; replace BK566 := Z_ (bS_ BK566.out hb); replace HB := Z_ (fS_ hB_ hb); (try clear hb)
 refine hK.out _ _ ⟨(bC_ BK566.out 0).trans rfl, (bC_ BK566.out 1).trans rfl, (bC_ BK566.out 2).trans rfl, (bC_ BK566.out 3).trans rfl⟩ (fun hHeld => ?_); clear hK K; refine nP_ 12 ?_; refine oN_ 9 (some 17) (fun K hK => ?_); refine gO_ Try.func116 #[.agg #[.int .i64 a0_2, .slice A0_3 l0_3.length c0_3], .int .i64 a1, .int .i64 a2] ?_; with_reducible refine (diffs_square_bool_at.calls a0_2 _ _ l0_3 a1 a2 t568 _ ?side1 ?side2 A5.out).mono ?_
 (case side1 => exact cS_ (cB_ HR0_3.out HB.out))
 (case side2 => exact HC0_3.out)
 rintro e w9 ⟨rfl, hb⟩; refine ⟨_, rfl, ?_⟩; replace BK566 := Z_ (bS_ BK566.out hb); replace HB := Z_ (fS_ hB_ hb); (try clear hb)
 refine hK.out _ _ ⟨(bC_ BK566.out 0).trans rfl, (bC_ BK566.out 1).trans rfl, (bC_ BK566.out 2).trans rfl, (bC_ BK566.out 3).trans rfl⟩ (fun hHeld => ?_); clear hK K; refine nP_ 17 ?_; refine pP_ 10 6 ?_; refine pP_ 11 7 ?_; refine dN_ ?_; try go_wp2
 go_ret2; exact ⟨eW_, hB_⟩
mutual
def diffs_checked.j0 : Nat → Bool → Int → List Int → List Bool → Option (Bool)
 | 0, _, _, _, _ => none
 | k + 1, x41, x570000, x570001, x570002 => if x41 = true then (some false) else ((diffs_opened.f x570000 x570001 x570002).bind fun bt571 => (diffs_checked.l0 k (wrap64 (x570000 * 1073741824)) x570000 0 x570000 x570001 x570002 bt571.1 bt571.2.1 bt571.2.2.1 bt571.2.2.2))
def diffs_checked.l0 : Nat → Int → Int → Int → Int → List Int → List Bool → Int → List Int → Int → List Bool → Option (Bool)
 | 0, _, _, _, _, _, _, _, _, _, _ => none
 | k + 1, x4, x48, x49, x570000, x570001, x570002, x580000, x580001, x580002, x580003 => if x49 < x48 then (diffs_checked.l1 k x4 x49 x48 x49 x570000 0 x570000 x570001 x570002 x580000 x580001 x580002 x580003) else (diffs_checked.l2 k x570000 0 x570000 x570001 x570002 x580000 x580001 x580002 x580003)
def diffs_checked.l1 : Nat → Int → Int → Int → Int → Int → Int → Int → List Int → List Bool → Int → List Int → Int → List Bool → Option (Bool)
 | 0, _, _, _, _, _, _, _, _, _, _, _, _, _ => none
 | k + 1, x4, x6, x48, x49, x53, x54, x570000, x570001, x570002, x580000, x580001, x580002, x580003 => if x54 < x53 then ((diffs_grid_get.f x580000 x580001 x580002 x580003 x6 x54).bind fun bt580 => (if bt580.2 = true then ((diffs_in.f bt580.1 (wrap64 (-x4)) x4).bind fun t582 => (if t582 = true then (if x6 = x54 then (diffs_checked.j3 k x4 x6 x48 x49 x53 x54 (bt580.1 != 0) x570000 x570001 x570002 x580000 x580001 x580002 x580003) else (diffs_checked.j3 k x4 x6 x48 x49 x53 x54 false x570000 x570001 x570002 x580000 x580001 x580002 x580003)) else (diffs_checked.j3 k x4 x6 x48 x49 x53 x54 true x570000 x570001 x570002 x580000 x580001 x580002 x580003))) else (if bt580.1 = 0 then ((diffs_in.f bt580.1 (wrap64 (-x4)) x4).bind fun t583 => (if t583 = true then (if x6 = x54 then (diffs_checked.j3 k x4 x6 x48 x49 x53 x54 true x570000 x570001 x570002 x580000 x580001 x580002 x580003) else (diffs_checked.j3 k x4 x6 x48 x49 x53 x54 false x570000 x570001 x570002 x580000 x580001 x580002 x580003)) else (diffs_checked.j3 k x4 x6 x48 x49 x53 x54 true x570000 x570001 x570002 x580000 x580001 x580002 x580003))) else (diffs_checked.j3 k x4 x6 x48 x49 x53 x54 true x570000 x570001 x570002 x580000 x580001 x580002 x580003)))) else (diffs_checked.l0 k x4 x48 (wrap64 (x49 + 1)) x570000 x570001 x570002 x580000 x580001 x580002 x580003)
def diffs_checked.j3 : Nat → Int → Int → Int → Int → Int → Int → Bool → Int → List Int → List Bool → Int → List Int → Int → List Bool → Option (Bool)
 | 0, _, _, _, _, _, _, _, _, _, _, _, _, _, _ => none
 | k + 1, x4, x6, x48, x49, x53, x54, x90, x570000, x570001, x570002, x580000, x580001, x580002, x580003 => if x90 = true then (some false) else (diffs_checked.l1 k x4 x6 x48 x49 x53 (wrap64 (x54 + 1)) x570000 x570001 x570002 x580000 x580001 x580002 x580003)
def diffs_checked.l2 : Nat → Int → Int → Int → List Int → List Bool → Int → List Int → Int → List Bool → Option (Bool)
 | 0, _, _, _, _, _, _, _, _, _ => none
 | k + 1, x94, x95, x570000, x570001, x570002, x580000, x580001, x580002, x580003 => if x95 < x94 then (diffs_checked.l3 k x95 x94 x95 x570000 0 x570000 x570001 x570002 x580000 x580001 x580002 x580003) else (some true)
def diffs_checked.l3 : Nat → Int → Int → Int → Int → Int → Int → List Int → List Bool → Int → List Int → Int → List Bool → Option (Bool)
 | 0, _, _, _, _, _, _, _, _, _, _, _, _ => none
 | k + 1, x10, x94, x95, x99, x100, x570000, x570001, x570002, x580000, x580001, x580002, x580003 => if x100 < x99 then ((diffs_grid_get.f x580000 x580001 x580002 x580003 x10 x100).bind fun bt584 => (diffs_checked.l4 k x10 x100 bt584.1 bt584.2 0 x94 x95 x99 x100 x570000 x570001 x570002 x580000 x580001 x580002 x580003)) else (diffs_checked.l2 k x94 (wrap64 (x95 + 1)) x570000 x570001 x570002 x580000 x580001 x580002 x580003)
def diffs_checked.l4 : Nat → Int → Int → Int → Bool → Int → Int → Int → Int → Int → Int → List Int → List Bool → Int → List Int → Int → List Bool → Option (Bool)
 | 0, _, _, _, _, _, _, _, _, _, _, _, _, _, _, _, _ => none
 | k + 1, x10, x11, x12, x13, x14, x94, x95, x99, x100, x570000, x570001, x570002, x580000, x580001, x580002, x580003 => if x14 < x570000 then (diffs_checked.j7 k x10 x11 x12 x13 x14 x94 x95 x99 x100 x13 x570000 x570001 x570002 x580000 x580001 x580002 x580003) else (diffs_checked.j7 k x10 x11 x12 x13 x14 x94 x95 x99 x100 false x570000 x570001 x570002 x580000 x580001 x580002 x580003)
def diffs_checked.j7 : Nat → Int → Int → Int → Bool → Int → Int → Int → Int → Int → Bool → Int → List Int → List Bool → Int → List Int → Int → List Bool → Option (Bool)
 | 0, _, _, _, _, _, _, _, _, _, _, _, _, _, _, _, _, _ => none
 | k + 1, x10, x11, x12, x13, x14, x94, x95, x99, x100, x116, x570000, x570001, x570002, x580000, x580001, x580002, x580003 => if x116 = true then ((diffs_grid_get.f x580000 x580001 x580002 x580003 x11 x14).bind fun bt586 => ((diffs_grid_get.f x580000 x580001 x580002 x580003 x10 x14).bind fun bt588 => (if bt586.2 = true then (if bt588.2 = true then (diffs_checked.j8 k x10 x11 x12 x13 x14 x94 x95 x99 x100 (decide (bt588.1 > (wrap64 (x12 + bt586.1)))) x570000 x570001 x570002 x580000 x580001 x580002 x580003) else (diffs_checked.j8 k x10 x11 x12 x13 x14 x94 x95 x99 x100 true x570000 x570001 x570002 x580000 x580001 x580002 x580003)) else (diffs_checked.j8 k x10 x11 x12 x13 x14 x94 x95 x99 x100 false x570000 x570001 x570002 x580000 x580001 x580002 x580003)))) else (diffs_checked.l3 k x10 x94 x95 x99 (wrap64 (x100 + 1)) x570000 x570001 x570002 x580000 x580001 x580002 x580003)
def diffs_checked.j8 : Nat → Int → Int → Int → Bool → Int → Int → Int → Int → Int → Bool → Int → List Int → List Bool → Int → List Int → Int → List Bool → Option (Bool)
 | 0, _, _, _, _, _, _, _, _, _, _, _, _, _, _, _, _, _ => none
 | k + 1, x10, x11, x12, x13, x14, x94, x95, x99, x100, x144, x570000, x570001, x570002, x580000, x580001, x580002, x580003 => if x144 = true then (some false) else (diffs_checked.l4 k x10 x11 x12 x13 (wrap64 (x14 + 1)) x94 x95 x99 x100 x570000 x570001 x570002 x580000 x580001 x580002 x580003)
end
def diffs_checked.f (k : Nat) (a0_0 : Int) (l0_1 : List Int) (l0_2 : List Bool) : Option (Bool) := (diffs_in.f a0_0 1 64).bind fun t570 => (if t570 = true then (if (l0_1.length : Int) = (wrap64 (a0_0 * a0_0)) then (diffs_checked.j0 k ((l0_2.length : Int) != (wrap64 (a0_0 * a0_0))) a0_0 l0_1 l0_2) else (diffs_checked.j0 k true a0_0 l0_1 l0_2)) else (diffs_checked.j0 k true a0_0 l0_1 l0_2))
theorem diffs_checked.mono_l : ∀ k, (∀ y0 y1 y2 y3, LeO (diffs_checked.j0 k y0 y1 y2 y3) (diffs_checked.j0 (k + 1) y0 y1 y2 y3)) ∧ (∀ y0 y1 y2 y3 y4 y5 y6 y7 y8 y9, LeO (diffs_checked.l0 k y0 y1 y2 y3 y4 y5 y6 y7 y8 y9) (diffs_checked.l0 (k + 1) y0 y1 y2 y3 y4 y5 y6 y7 y8 y9)) ∧ (∀ y0 y1 y2 y3 y4 y5 y6 y7 y8 y9 y10 y11 y12, LeO (diffs_checked.l1 k y0 y1 y2 y3 y4 y5 y6 y7 y8 y9 y10 y11 y12) (diffs_checked.l1 (k + 1) y0 y1 y2 y3 y4 y5 y6 y7 y8 y9 y10 y11 y12)) ∧ (∀ y0 y1 y2 y3 y4 y5 y6 y7 y8 y9 y10 y11 y12 y13, LeO (diffs_checked.j3 k y0 y1 y2 y3 y4 y5 y6 y7 y8 y9 y10 y11 y12 y13) (diffs_checked.j3 (k + 1) y0 y1 y2 y3 y4 y5 y6 y7 y8 y9 y10 y11 y12 y13)) ∧ (∀ y0 y1 y2 y3 y4 y5 y6 y7 y8, LeO (diffs_checked.l2 k y0 y1 y2 y3 y4 y5 y6 y7 y8) (diffs_checked.l2 (k + 1) y0 y1 y2 y3 y4 y5 y6 y7 y8)) ∧ (∀ y0 y1 y2 y3 y4 y5 y6 y7 y8 y9 y10 y11, LeO (diffs_checked.l3 k y0 y1 y2 y3 y4 y5 y6 y7 y8 y9 y10 y11) (diffs_checked.l3 (k + 1) y0 y1 y2 y3 y4 y5 y6 y7 y8 y9 y10 y11)) ∧ (∀ y0 y1 y2 y3 y4 y5 y6 y7 y8 y9 y10 y11 y12 y13 y14 y15, LeO (diffs_checked.l4 k y0 y1 y2 y3 y4 y5 y6 y7 y8 y9 y10 y11 y12 y13 y14 y15) (diffs_checked.l4 (k + 1) y0 y1 y2 y3 y4 y5 y6 y7 y8 y9 y10 y11 y12 y13 y14 y15)) ∧ (∀ y0 y1 y2 y3 y4 y5 y6 y7 y8 y9 y10 y11 y12 y13 y14 y15 y16, LeO (diffs_checked.j7 k y0 y1 y2 y3 y4 y5 y6 y7 y8 y9 y10 y11 y12 y13 y14 y15 y16) (diffs_checked.j7 (k + 1) y0 y1 y2 y3 y4 y5 y6 y7 y8 y9 y10 y11 y12 y13 y14 y15 y16)) ∧ (∀ y0 y1 y2 y3 y4 y5 y6 y7 y8 y9 y10 y11 y12 y13 y14 y15 y16, LeO (diffs_checked.j8 k y0 y1 y2 y3 y4 y5 y6 y7 y8 y9 y10 y11 y12 y13 y14 y15 y16) (diffs_checked.j8 (k + 1) y0 y1 y2 y3 y4 y5 y6 y7 y8 y9 y10 y11 y12 y13 y14 y15 y16))
 | 0 => ⟨fun _ _ _ _ r h => by simp [diffs_checked.j0] at h, fun _ _ _ _ _ _ _ _ _ _ r h => by simp [diffs_checked.l0] at h, fun _ _ _ _ _ _ _ _ _ _ _ _ _ r h => by simp [diffs_checked.l1] at h, fun _ _ _ _ _ _ _ _ _ _ _ _ _ _ r h => by simp [diffs_checked.j3] at h, fun _ _ _ _ _ _ _ _ _ r h => by simp [diffs_checked.l2] at h, fun _ _ _ _ _ _ _ _ _ _ _ _ r h => by simp [diffs_checked.l3] at h, fun _ _ _ _ _ _ _ _ _ _ _ _ _ _ _ _ r h => by simp [diffs_checked.l4] at h, fun _ _ _ _ _ _ _ _ _ _ _ _ _ _ _ _ _ r h => by simp [diffs_checked.j7] at h, fun _ _ _ _ _ _ _ _ _ _ _ _ _ _ _ _ _ r h => by simp [diffs_checked.j8] at h⟩
 | k + 1 => by
  obtain ⟨ih0, ih1, ih2, ih3, ih4, ih5, ih6, ih7, ih8⟩ := diffs_checked.mono_l k; refine ⟨?_, ?_, ?_, ?_, ?_, ?_, ?_, ?_, ?_⟩ <;> intros <;> (first | unfold diffs_checked.j0 | unfold diffs_checked.l0 | unfold diffs_checked.l1 | unfold diffs_checked.j3 | unfold diffs_checked.l2 | unfold diffs_checked.l3 | unfold diffs_checked.l4 | unfold diffs_checked.j7 | unfold diffs_checked.j8) <;> repeat' first | (with_reducible first | exact ih0 _ _ _ _ | exact ih1 _ _ _ _ _ _ _ _ _ _ | exact ih2 _ _ _ _ _ _ _ _ _ _ _ _ _ | exact ih3 _ _ _ _ _ _ _ _ _ _ _ _ _ _ | exact ih4 _ _ _ _ _ _ _ _ _ | exact ih5 _ _ _ _ _ _ _ _ _ _ _ _ | exact ih6 _ _ _ _ _ _ _ _ _ _ _ _ _ _ _ _ | exact ih7 _ _ _ _ _ _ _ _ _ _ _ _ _ _ _ _ _ | exact ih8 _ _ _ _ _ _ _ _ _ _ _ _ _ _ _ _ _ | exact LeO.refl _ | exact LeO.none _ | refine LeO.ite ?_ ?_ | refine LeO.bind ?_ (fun _ => ?_)) | exact ih0 _ _ _ _ | exact ih1 _ _ _ _ _ _ _ _ _ _ | exact ih2 _ _ _ _ _ _ _ _ _ _ _ _ _ | exact ih3 _ _ _ _ _ _ _ _ _ _ _ _ _ _ | exact ih4 _ _ _ _ _ _ _ _ _ | exact ih5 _ _ _ _ _ _ _ _ _ _ _ _ | exact ih6 _ _ _ _ _ _ _ _ _ _ _ _ _ _ _ _ | exact ih7 _ _ _ _ _ _ _ _ _ _ _ _ _ _ _ _ _ | exact ih8 _ _ _ _ _ _ _ _ _ _ _ _ _ _ _ _ _ | exact LeO.none _ | refine LeO.ite ?_ ?_ | refine LeO.bind ?_ (fun _ => ?_)
theorem diffs_checked.mono : ∀ a0 a1 a2 k, LeO (diffs_checked.f k a0 a1 a2) (diffs_checked.f (k + 1) a0 a1 a2) := by
 intro a0 a1 a2 k; obtain ⟨ih0, ih1, ih2, ih3, ih4, ih5, ih6, ih7, ih8⟩ := diffs_checked.mono_l k; unfold diffs_checked.f; repeat' first | (with_reducible first | exact ih0 _ _ _ _ | exact ih1 _ _ _ _ _ _ _ _ _ _ | exact ih2 _ _ _ _ _ _ _ _ _ _ _ _ _ | exact ih3 _ _ _ _ _ _ _ _ _ _ _ _ _ _ | exact ih4 _ _ _ _ _ _ _ _ _ | exact ih5 _ _ _ _ _ _ _ _ _ _ _ _ | exact ih6 _ _ _ _ _ _ _ _ _ _ _ _ _ _ _ _ | exact ih7 _ _ _ _ _ _ _ _ _ _ _ _ _ _ _ _ _ | exact ih8 _ _ _ _ _ _ _ _ _ _ _ _ _ _ _ _ _ | exact LeO.refl _ | exact LeO.none _ | refine LeO.ite ?_ ?_ | refine LeO.bind ?_ (fun _ => ?_)) | exact ih0 _ _ _ _ | exact ih1 _ _ _ _ _ _ _ _ _ _ | exact ih2 _ _ _ _ _ _ _ _ _ _ _ _ _ | exact ih3 _ _ _ _ _ _ _ _ _ _ _ _ _ _ | exact ih4 _ _ _ _ _ _ _ _ _ | exact ih5 _ _ _ _ _ _ _ _ _ _ _ _ | exact ih6 _ _ _ _ _ _ _ _ _ _ _ _ _ _ _ _ | exact ih7 _ _ _ _ _ _ _ _ _ _ _ _ _ _ _ _ _ | exact ih8 _ _ _ _ _ _ _ _ _ _ _ _ _ _ _ _ _ | exact LeO.none _ | refine LeO.ite ?_ ?_ | refine LeO.bind ?_ (fun _ => ?_)
set_option maxHeartbeats 8000000 in
set_option maxRecDepth 100000 in
theorem diffs_checked.calls (k : Nat) (a0_0 : Int) (A0_1 : Option Addr) (c0_1 : Nat) (l0_1 : List Int) (A0_2 : Option Addr) (c0_2 : Nat) (l0_2 : List Bool) (r : Bool) (w : World) (hr0_1 : Kd.C (Kd.int .i64) w A0_1 l0_1.length l0_1) (hc0_1 : l0_1.length ≤ c0_1) (hr0_2 : Kd.C Kd.bool w A0_2 l0_2.length l0_2) (hc0_2 : l0_2.length ≤ c0_2) (h : diffs_checked.f k a0_0 l0_1 l0_2 = some r) :
  Calls Try.prog 83 #[.agg #[.int .i64 a0_0, .slice A0_1 l0_1.length c0_1, .slice A0_2 l0_2.length c0_2]] w fun e w' => e = .returned (.bool r) ∧ Below w.heap.size w w' := by
 have hu43 := Try.underlying43; have hu109 := Try.underlying109; have HR0_1 := Z_ hr0_1; have HC0_1 := Z_ hc0_1; clear hr0_1 hc0_1; have HR0_2 := Z_ hr0_2; have HC0_2 := Z_ hc0_2; clear hr0_2 hc0_2; have HB := Z_ (Below.refl w.heap.size w); have H : ((diffs_in.f a0_0 1 64).bind fun t570 => (if t570 = true then (if (l0_1.length : Int) = (wrap64 (a0_0 * a0_0)) then (diffs_checked.j0 k ((l0_2.length : Int) != (wrap64 (a0_0 * a0_0))) a0_0 l0_1 l0_2) else (diffs_checked.j0 k true a0_0 l0_1 l0_2)) else (diffs_checked.j0 k true a0_0 l0_1 l0_2))) = some r := h; clear h; have HC2 := Z_ H; clear H; go_enter Try.func83, Try.ntmps83; go_upto_region 2 with (first | ((with_reducible refine gate_dst (N := 1) rfl ?_); (try (refine gate_guard (by rfl) ?_; dsimp only)); refine bX_ 1 #[.int .i64 a0_0, .slice A0_1 l0_1.length c0_1, .slice A0_2 l0_2.length c0_2] 43 ?_; intro gb569 hg w3 hbox hb; have BK569 := Z_ (hbox); have GW569 := Z_ ((by rw [hg]; exact (fZ_ hB_) : w.heap.size ≤ gb569)); have GE569 := Z_ ((by rw [hg]; exact (fZ_ hB_) : w.heap.size ≤ gb569)); replace HB := Z_ (fS_ hB_ hb); clear hb hbox hg; obtain ⟨⟨hcz4_0, hcz4_1, hcz4_2⟩, hfz4_0, hfz4_1, hfz4_2⟩ := f3_ BK569.out)); (try simp only [Act.put, sT_, sZ_, sS_])
 go_cut [41] (fun v41 wc => ∃ (kq : Nat) (x41_1 : Bool), v41 = .bool x41_1 ∧ Aside0 (diffs_checked.j0 kq x41_1 a0_0 l0_1 l0_2 = some r) ∧ Aside0 (kq ≤ k) ∧ Aside0 (wc.heap[gb569]? = some (.cells #[.int .i64 a0_0, (.slice A0_1 l0_1.length c0_1), (.slice A0_2 l0_2.length c0_2)] 43 (0, 0))) ∧ Aside0 (Below w.heap.size w wc))
 case first =>
  have H := HC2.out; clear HC2; replace H := oS_.mp H; obtain ⟨t570, A50, H⟩ := H; have A5 := Z_ A50; clear A50; by_cases c6 : t570 = true
  ·subst c6
   rw [if_pos rfl] at H; by_cases c7 : (l0_1.length : Int) = (wrap64 (a0_0 * a0_0))
   ·rw [if_pos c7] at H
    have c7b0 : ((l0_1.length : Int) == (wrap64 (a0_0 * a0_0))) = true := beq_iff_eq.mpr c7; have c7b1 : ((l0_1.length : Int) != (wrap64 (a0_0 * a0_0))) = false := bne_eq_false_iff_eq.mpr c7; clear c7; (try rw [c7b0])
    have H' := Z_ H; clear H; obtain ⟨⟨hcz8_0, hcz8_1, hcz8_2⟩, hfz8_0, hfz8_1, hfz8_2⟩ := f3_ BK569.out; go_wp2_with (first | ((with_reducible refine gate_callee (f := 75) rfl ?_); refine gL_ (some 26) Try.func75 #[.int .i64 a0_0, .int .i64 1, .int .i64 64] ?_; (with_reducible refine (diffs_in.calls a0_0 1 64 true _ A5.out).mono ?_); rintro e w' ⟨rfl, ⟨nd, rfl⟩⟩; refine ⟨_, rfl, ?_⟩)); go_meet
    case rel => exact ⟨_, (((l0_2.length : Int) != (wrap64 (a0_0 * a0_0)))), rf_, H', ⟨oL_⟩, ⟨bR_ BK569.out⟩, ⟨hB_⟩⟩
   rw [if_neg c7] at H; have c7b0 : ((l0_1.length : Int) == (wrap64 (a0_0 * a0_0))) = false := beq_eq_false_iff_ne.mpr c7; have c7b1 : ((l0_1.length : Int) != (wrap64 (a0_0 * a0_0))) = true := bne_iff_ne.mpr c7; (try rw [c7b0])
   have H' := Z_ H; clear H; obtain ⟨⟨hcz9_0, hcz9_1, hcz9_2⟩, hfz9_0, hfz9_1, hfz9_2⟩ := f3_ BK569.out; go_wp2_with (first | ((with_reducible refine gate_callee (f := 75) rfl ?_); refine gL_ (some 26) Try.func75 #[.int .i64 a0_0, .int .i64 1, .int .i64 64] ?_; (with_reducible refine (diffs_in.calls a0_0 1 64 true _ A5.out).mono ?_); rintro e w' ⟨rfl, ⟨nd, rfl⟩⟩; refine ⟨_, rfl, ?_⟩)); go_meet
   case rel => exact ⟨_, (true), rf_, H', ⟨oL_⟩, ⟨bR_ BK569.out⟩, ⟨hB_⟩⟩
  replace c6 := bE_.mpr c6; subst c6; have H1 : (diffs_checked.j0 k true a0_0 l0_1 l0_2) = some r := by rw [if_neg (show ¬ (false = true) by decide)] at H; exact H
  clear H; have H := H1; clear H1; have H' := Z_ H; clear H; obtain ⟨⟨hcz10_0, hcz10_1, hcz10_2⟩, hfz10_0, hfz10_1, hfz10_2⟩ := f3_ BK569.out; go_wp2_with (first | ((with_reducible refine gate_callee (f := 75) rfl ?_); refine gL_ (some 26) Try.func75 #[.int .i64 a0_0, .int .i64 1, .int .i64 64] ?_; (with_reducible refine (diffs_in.calls a0_0 1 64 false _ A5.out).mono ?_); rintro e w' ⟨rfl, ⟨nd, rfl⟩⟩; refine ⟨_, rfl, ?_⟩)); go_meet
  case rel => exact ⟨_, (true), rf_, H', ⟨oL_⟩, ⟨bR_ BK569.out⟩, ⟨hB_⟩⟩
 case rest =>
  clear HC2; obtain ⟨kq, x41_1, rfl, HA, HJ1, BK569, HB⟩ := hcut
  cases kq with
  | zero => exact absurd HA.out (by simp [diffs_checked.j0])
  | succ kj1 =>
   have H := HA.out; clear HA; simp only [diffs_checked.j0] at H; by_cases c11 : x41_1 = true
   ·subst c11
    rw [if_pos rfl] at H; obtain rfl := oI_ H; go_wp2; go_ret; exact ⟨eW_, hB_⟩
   replace c11 := bE_.mpr c11; subst c11; have H1 : ((diffs_opened.f a0_0 l0_1 l0_2).bind fun bt571 => (diffs_checked.l0 kj1 (wrap64 (a0_0 * 1073741824)) a0_0 0 a0_0 l0_1 l0_2 bt571.1 bt571.2.1 bt571.2.2.1 bt571.2.2.2)) = some r := by rw [if_neg (show ¬ (false = true) by decide)] at H; exact H
   clear H; have H := H1; clear H1; replace H := oS_.mp H; obtain ⟨⟨t571, t572, t575, t576⟩, A120, H⟩ := H; have A12 := Z_ A120; clear A120; have H' := Z_ H; clear H; obtain ⟨⟨hcz13_0, hcz13_1, hcz13_2⟩, hfz13_0, hfz13_1, hfz13_2⟩ := f3_ BK569.out; go_wp2_with (first | ((with_reducible refine gate_callee (f := 84) rfl ?_); refine gL_ (some 46) Try.func84 #[.agg #[.int .i64 a0_0, .slice A0_1 l0_1.length c0_1, .slice A0_2 l0_2.length c0_2]] ?_; (with_reducible refine (diffs_opened.calls a0_0 _ _ l0_1 _ _ l0_2 t571 t572 t575 t576 _ ?side1 ?side2 ?side3 ?side4 A12.out).mono ?_); (case side1 => exact cS_ (cB_ HR0_1.out HB.out)); (case side2 => exact HC0_1.out); (case side3 => exact cS_ (cB_ HR0_2.out HB.out)); (case side4 => exact HC0_2.out); rintro e w14 ⟨v573, v577, rfl, ho0, ho1, hb⟩; refine ⟨_, rfl, ?_⟩; have HO574 := Z_ (rL_ ho0 (fZ_ hB_)); have HO578 := Z_ (rL_ ho1 (fZ_ hB_)); replace BK569 := Z_ (bS_ BK569.out hb); replace HB := Z_ (fS_ hB_ hb); (try clear hb); (try clear ho0); (try clear ho1)) | ((with_reducible refine gate_dst (N := 5) rfl ?_); (try (refine gate_guard (by rfl) ?_; dsimp only)); refine bX_ 5 #[.int .i64 0, .slice none 0 0, .int .i64 0, .slice none 0 0] 109 ?_; intro gb579 hg w15 hbox hb; replace HO574 := Z_ (rB_ (rK_ HO574.out) hb); replace HO578 := Z_ (rB_ (rK_ HO578.out) hb); have BK579 := Z_ (hbox); have GW579 := Z_ ((by rw [hg]; exact (fZ_ hB_) : w.heap.size ≤ gb579)); have GE579 := Z_ ((by rw [hg]; exact (fZ_ hB_) : w.heap.size ≤ gb579)); replace HB := Z_ (fS_ hB_ hb); have NB569_579 := Z_ ((nB_ hg BK569.out : gb569 ≠ gb579)); have NB579_569 := Z_ ((by rw [hg]; exact Nat.ne_of_gt (blk_lt (g := gb569) (o := .cells #[.int .i64 a0_0, .slice A0_1 l0_1.length c0_1, .slice A0_2 l0_2.length c0_2] 43 (0, 0)) (bR_ BK569.out)) : gb579 ≠ gb569)); replace BK569 := Z_ (bS_ BK569.out hb); clear hb hbox hg; have hnb16 := NB579_569.out; have hnc16 := NB569_579.out; obtain ⟨⟨hcz17_0, hcz17_1, hcz17_2, hcz17_3⟩, hfz17_0, hfz17_1, hfz17_2, hfz17_3⟩ := f4_ BK579.out; obtain ⟨Ao18, co18, eo18⟩ := rS_ HO574.out; subst eo18; obtain ⟨Ao19, co19, eo19⟩ := rS_ HO578.out; subst eo19; obtain ⟨⟨hcz20_0, hcz20_1, hcz20_2⟩, hfz20_0, hfz20_1, hfz20_2⟩ := f3_ BK569.out)); go_loopg [49] kj1 (fun kq v49 w' => ∃ (x49_2 : Int), v49 = .int .i64 x49_2 ∧ Aside0 (diffs_checked.l0 kq (wrap64 (a0_0 * 1073741824)) a0_0 x49_2 a0_0 l0_1 l0_2 t571 t572 t575 t576 = some r) ∧ Aside0 (kq ≤ kj1) ∧ Aside0 (Kd.R (Kd.int .i64) 3 w' w.heap.size (fun _ => True) (.slice Ao18 t572.length co18) t572) ∧ Aside0 (Kd.R Kd.bool 4 w' w.heap.size (fun _ => True) (.slice Ao19 t576.length co19) t576) ∧ Aside0 (w'.heap[gb569]? = some (.cells #[.int .i64 a0_0, (.slice A0_1 l0_1.length c0_1), (.slice A0_2 l0_2.length c0_2)] 43 (0, 0))) ∧ Aside0 (w'.heap[gb579]? = some (.cells #[.int .i64 t571, (.slice Ao18 t572.length co18), .int .i64 t575, (.slice Ao19 t576.length co19)] 109 (0, 0))) ∧ Aside0 (Below w.heap.size w w'))
   case atStart => exact ⟨(0), rf_, H', ⟨nR_ _⟩, ⟨by (with_reducible repeat (first | apply rN_ | apply rD_)); exact rM_ (rF_ (p := ⟨gb579, 3, none⟩) (rF_ (p := ⟨gb579, 2, none⟩) (rF_ (p := ⟨gb579, 1, none⟩) (rF_ (p := ⟨gb579, 0, none⟩) (Kd.R_types HO574.out BK579.out (by decide)) (fun _ hk => hk.2) (.int .i64 t571)) (fun _ hk => hk.2) (.slice Ao18 t572.length co18)) (fun _ hk => hk.2) (.int .i64 t575)) (fun _ hk => hk.2) (.slice Ao19 t576.length co19)) (fun _ hk => trivial)⟩, ⟨by (with_reducible repeat (first | apply rN_ | apply rD_)); exact rM_ (rF_ (p := ⟨gb579, 3, none⟩) (rF_ (p := ⟨gb579, 2, none⟩) (rF_ (p := ⟨gb579, 1, none⟩) (rF_ (p := ⟨gb579, 0, none⟩) (Kd.R_types HO578.out BK579.out (by decide)) (fun _ hk => hk.2) (.int .i64 t571)) (fun _ hk => hk.2) (.slice Ao18 t572.length co18)) (fun _ hk => hk.2) (.int .i64 t575)) (fun _ hk => hk.2) (.slice Ao19 t576.length co19)) (fun _ hk => trivial)⟩, ⟨by (with_reducible repeat (first | refine bN_ ?_ _ | refine bD_ ?_)); refine blk_far ?_ NB569_579.out _; (with_reducible repeat (first | refine bN_ ?_ _ | refine bD_ ?_)); refine blk_far ?_ NB569_579.out _; (with_reducible repeat (first | refine bN_ ?_ _ | refine bD_ ?_)); refine blk_far ?_ NB569_579.out _; (with_reducible repeat (first | refine bN_ ?_ _ | refine bD_ ?_)); refine blk_far ?_ NB569_579.out _; (with_reducible repeat (first | refine bN_ ?_ _ | refine bD_ ?_)); exact BK569.out⟩, ⟨by (with_reducible repeat (first | refine bN_ ?_ _ | refine bD_ ?_)); refine blk_put (cs := #[.int .i64 t571, .slice Ao18 t572.length co18, .int .i64 t575, .slice none 0 0]) ?_ 3 _ rfl; (with_reducible repeat (first | refine bN_ ?_ _ | refine bD_ ?_)); refine blk_put (cs := #[.int .i64 t571, .slice Ao18 t572.length co18, .int .i64 0, .slice none 0 0]) ?_ 2 _ rfl; (with_reducible repeat (first | refine bN_ ?_ _ | refine bD_ ?_)); refine blk_put (cs := #[.int .i64 t571, .slice none 0 0, .int .i64 0, .slice none 0 0]) ?_ 1 _ rfl; (with_reducible repeat (first | refine bN_ ?_ _ | refine bD_ ?_)); refine blk_put (cs := #[.int .i64 0, .slice none 0 0, .int .i64 0, .slice none 0 0]) ?_ 0 _ rfl; (with_reducible repeat (first | refine bN_ ?_ _ | refine bD_ ?_)); exact BK579.out⟩, ⟨hB_⟩⟩
   case round =>
    clear H'; obtain ⟨x49_2, rfl, HA, HK2, HO_580001, HO_580003, BK569, BK579, HB⟩ := hrel
    cases gk with
    | zero => exact absurd HA.out (by simp [diffs_checked.l0])
    | succ k2 =>
     have H := HA.out; clear HA; simp only [diffs_checked.l0] at H; by_cases c21 : x49_2 < a0_0
     ·rw [if_pos c21] at H
      have c21b0 : decide (x49_2 < a0_0) = true := eT_ c21; clear c21; have H' := Z_ H; clear H; have hnb22 := NB569_579.out; have hnc22 := NB579_569.out; obtain ⟨⟨hcz23_0, hcz23_1, hcz23_2⟩, hfz23_0, hfz23_1, hfz23_2⟩ := f3_ BK569.out; go_wp2; go_loopg [54] k2 (fun kq v54 w' => ∃ (x54_3 : Int), v54 = .int .i64 x54_3 ∧ Aside0 (diffs_checked.l1 kq (wrap64 (a0_0 * 1073741824)) x49_2 a0_0 x49_2 a0_0 x54_3 a0_0 l0_1 l0_2 t571 t572 t575 t576 = some r) ∧ Aside0 (kq ≤ k2) ∧ Aside0 (Kd.R (Kd.int .i64) 3 w' w.heap.size (fun _ => True) (.slice Ao18 t572.length co18) t572) ∧ Aside0 (Kd.R Kd.bool 4 w' w.heap.size (fun _ => True) (.slice Ao19 t576.length co19) t576) ∧ Aside0 (w'.heap[gb569]? = some (.cells #[.int .i64 a0_0, (.slice A0_1 l0_1.length c0_1), (.slice A0_2 l0_2.length c0_2)] 43 (0, 0))) ∧ Aside0 (w'.heap[gb579]? = some (.cells #[.int .i64 t571, (.slice Ao18 t572.length co18), .int .i64 t575, (.slice Ao19 t576.length co19)] 109 (0, 0))) ∧ Aside0 (Below w.heap.size w w'))
      case atStart => exact ⟨(0), rf_, H', ⟨nR_ _⟩, ⟨rK_ HO_580001.out⟩, ⟨rK_ HO_580003.out⟩, ⟨bR_ BK569.out⟩, ⟨bR_ BK579.out⟩, ⟨hB_⟩⟩
      case round =>
       clear H'; obtain ⟨x54_3, rfl, HA, HK3, HO_580001, HO_580003, BK569, BK579, HB⟩ := hrel
       cases gk with
       | zero => exact absurd HA.out (by simp [diffs_checked.l1])
       | succ k3 =>
        have H := HA.out; clear HA; simp only [diffs_checked.l1] at H; by_cases c24 : x54_3 < a0_0
        ·rw [if_pos c24] at H
         have c24b0 : decide (x54_3 < a0_0) = true := eT_ c24; clear c24; replace H := oS_.mp H; obtain ⟨⟨t580, t581⟩, A250, H⟩ := H; have A25 := Z_ A250; clear A250; have HC26 := Z_ H; clear H; have hnb27 := NB579_569.out; have hnc27 := NB569_579.out; obtain ⟨⟨hcz28_0, hcz28_1, hcz28_2, hcz28_3⟩, hfz28_0, hfz28_1, hfz28_2, hfz28_3⟩ := f4_ BK579.out; go_upto_region 13 with (first | ((with_reducible refine gate_callee (f := 85) rfl ?_); refine gL_ (some 61) Try.func85 #[.agg #[.int .i64 t571, .slice Ao18 t572.length co18, .int .i64 t575, .slice Ao19 t576.length co19], .int .i64 x49_2, .int .i64 x54_3] ?_; (with_reducible refine (diffs_grid_get.calls t571 _ _ t572 t575 _ _ t576 x49_2 x54_3 t580 t581 _ ?side1 ?side2 ?side3 ?side4 A25.out).mono ?_); (case side1 => exact cS_ (rR_ HO_580001.out).2.2); (case side2 => exact (rR_ HO_580001.out).2.1); (case side3 => exact cS_ (rR_ HO_580003.out).2.2); (case side4 => exact (rR_ HO_580003.out).2.1); rintro e w29 ⟨rfl, hb⟩; refine ⟨_, rfl, ?_⟩; replace HO_580001 := Z_ (rB_ (rK_ HO_580001.out) hb); replace HO_580003 := Z_ (rB_ (rK_ HO_580003.out) hb); replace BK569 := Z_ (bS_ BK569.out hb); replace BK579 := Z_ (bS_ BK579.out hb); replace HB := Z_ (fS_ hB_ hb); (try clear hb))); (try simp only [Act.put, sT_, sZ_, sS_])
         go_cut [90] (fun v90 wc => ∃ (kq : Nat) (x90_25 : Bool), v90 = .bool x90_25 ∧ Aside0 (diffs_checked.j3 kq (wrap64 (a0_0 * 1073741824)) x49_2 a0_0 x49_2 a0_0 x54_3 x90_25 a0_0 l0_1 l0_2 t571 t572 t575 t576 = some r) ∧ Aside0 (kq ≤ k3) ∧ Aside0 (Kd.R (Kd.int .i64) 3 wc w.heap.size (fun _ => True) (.slice Ao18 t572.length co18) t572) ∧ Aside0 (Kd.R Kd.bool 4 wc w.heap.size (fun _ => True) (.slice Ao19 t576.length co19) t576) ∧ Aside0 (wc.heap[gb569]? = some (.cells #[.int .i64 a0_0, (.slice A0_1 l0_1.length c0_1), (.slice A0_2 l0_2.length c0_2)] 43 (0, 0))) ∧ Aside0 (wc.heap[gb579]? = some (.cells #[.int .i64 t571, (.slice Ao18 t572.length co18), .int .i64 t575, (.slice Ao19 t576.length co19)] 109 (0, 0))) ∧ Aside0 (Below w.heap.size w wc))
         case first =>
          have H := HC26.out; clear HC26; by_cases c30 : t581 = true
          ·subst c30
           rw [if_pos rfl] at H; replace H := oS_.mp H; obtain ⟨t582, A310, H⟩ := H; have A31 := Z_ A310; clear A310; by_cases c32 : t582 = true
           ·subst c32
            rw [if_pos rfl] at H; by_cases c33 : x49_2 = x54_3
            ·rw [if_pos c33] at H
             obtain ⟨c33b0, c33b1⟩ := be_ c33; clear c33; (try rw [c33b0])
             have H' := Z_ H; clear H; go_wp2_with (first | (go_at_call 75; (with_reducible refine (diffs_in.calls t580 (wrap64 (-(wrap64 (a0_0 * 1073741824)))) (wrap64 (a0_0 * 1073741824)) true _ A31.out).mono ?_); rintro e w' ⟨rfl, ⟨nd, rfl⟩⟩)); go_meet
             case rel => exact ⟨_, ((t580 != 0)), rf_, H', ⟨by have := HJ1.out; have := HK2.out; have := HK3.out; first | omega | exact nR_ _⟩, ⟨rK_ HO_580001.out⟩, ⟨rK_ HO_580003.out⟩, ⟨bR_ BK569.out⟩, ⟨bR_ BK579.out⟩, ⟨hB_⟩⟩
            rw [if_neg c33] at H; obtain ⟨c33b0, c33b1⟩ := bn_ c33; (try rw [c33b0])
            have H' := Z_ H; clear H; go_wp2_with (first | (go_at_call 75; (with_reducible refine (diffs_in.calls t580 (wrap64 (-(wrap64 (a0_0 * 1073741824)))) (wrap64 (a0_0 * 1073741824)) true _ A31.out).mono ?_); rintro e w' ⟨rfl, ⟨nd, rfl⟩⟩)); go_meet
            case rel => exact ⟨_, (false), rf_, H', ⟨by have := HJ1.out; have := HK2.out; have := HK3.out; first | omega | exact nR_ _⟩, ⟨rK_ HO_580001.out⟩, ⟨rK_ HO_580003.out⟩, ⟨bR_ BK569.out⟩, ⟨bR_ BK579.out⟩, ⟨hB_⟩⟩
           replace c32 := bE_.mpr c32; subst c32; have H1 : (diffs_checked.j3 k3 (wrap64 (a0_0 * 1073741824)) x49_2 a0_0 x49_2 a0_0 x54_3 true a0_0 l0_1 l0_2 t571 t572 t575 t576) = some r := by rw [if_neg (show ¬ (false = true) by decide)] at H; exact H
           clear H; have H := H1; clear H1; have H' := Z_ H; clear H; go_wp2_with (first | (go_at_call 75; (with_reducible refine (diffs_in.calls t580 (wrap64 (-(wrap64 (a0_0 * 1073741824)))) (wrap64 (a0_0 * 1073741824)) false _ A31.out).mono ?_); rintro e w' ⟨rfl, ⟨nd, rfl⟩⟩)); go_meet
           case rel => exact ⟨_, (true), rf_, H', ⟨by have := HJ1.out; have := HK2.out; have := HK3.out; first | omega | exact nR_ _⟩, ⟨rK_ HO_580001.out⟩, ⟨rK_ HO_580003.out⟩, ⟨bR_ BK569.out⟩, ⟨bR_ BK579.out⟩, ⟨hB_⟩⟩
          replace c30 := bE_.mpr c30; subst c30; have H1 : (if t580 = 0 then ((diffs_in.f t580 (wrap64 (-(wrap64 (a0_0 * 1073741824)))) (wrap64 (a0_0 * 1073741824))).bind fun t583 => (if t583 = true then (if x49_2 = x54_3 then (diffs_checked.j3 k3 (wrap64 (a0_0 * 1073741824)) x49_2 a0_0 x49_2 a0_0 x54_3 true a0_0 l0_1 l0_2 t571 t572 t575 t576) else (diffs_checked.j3 k3 (wrap64 (a0_0 * 1073741824)) x49_2 a0_0 x49_2 a0_0 x54_3 false a0_0 l0_1 l0_2 t571 t572 t575 t576)) else (diffs_checked.j3 k3 (wrap64 (a0_0 * 1073741824)) x49_2 a0_0 x49_2 a0_0 x54_3 true a0_0 l0_1 l0_2 t571 t572 t575 t576))) else (diffs_checked.j3 k3 (wrap64 (a0_0 * 1073741824)) x49_2 a0_0 x49_2 a0_0 x54_3 true a0_0 l0_1 l0_2 t571 t572 t575 t576)) = some r := by rw [if_neg (show ¬ (false = true) by decide)] at H; exact H
          clear H; have H := H1; clear H1; by_cases c34 : t580 = 0
          ·rw [if_pos c34] at H
           obtain ⟨c34b0, c34b1⟩ := be_ c34; clear c34; replace H := oS_.mp H; obtain ⟨t583, A350, H⟩ := H; have A35 := Z_ A350; clear A350; by_cases c36 : t583 = true
           ·subst c36
            rw [if_pos rfl] at H; by_cases c37 : x49_2 = x54_3
            ·rw [if_pos c37] at H
             obtain ⟨c37b0, c37b1⟩ := be_ c37; clear c37; have H' := Z_ H; clear H; go_wp2_with (first | (go_at_call 75; (with_reducible refine (diffs_in.calls t580 (wrap64 (-(wrap64 (a0_0 * 1073741824)))) (wrap64 (a0_0 * 1073741824)) true _ A35.out).mono ?_); rintro e w' ⟨rfl, ⟨nd, rfl⟩⟩)); go_meet
             case rel => exact ⟨_, (true), rf_, H', ⟨by have := HJ1.out; have := HK2.out; have := HK3.out; first | omega | exact nR_ _⟩, ⟨rK_ HO_580001.out⟩, ⟨rK_ HO_580003.out⟩, ⟨bR_ BK569.out⟩, ⟨bR_ BK579.out⟩, ⟨hB_⟩⟩
            rw [if_neg c37] at H; obtain ⟨c37b0, c37b1⟩ := bn_ c37; have H' := Z_ H; clear H; go_wp2_with (first | (go_at_call 75; (with_reducible refine (diffs_in.calls t580 (wrap64 (-(wrap64 (a0_0 * 1073741824)))) (wrap64 (a0_0 * 1073741824)) true _ A35.out).mono ?_); rintro e w' ⟨rfl, ⟨nd, rfl⟩⟩)); go_meet
            case rel => exact ⟨_, (false), rf_, H', ⟨by have := HJ1.out; have := HK2.out; have := HK3.out; first | omega | exact nR_ _⟩, ⟨rK_ HO_580001.out⟩, ⟨rK_ HO_580003.out⟩, ⟨bR_ BK569.out⟩, ⟨bR_ BK579.out⟩, ⟨hB_⟩⟩
           replace c36 := bE_.mpr c36; subst c36; have H1 : (diffs_checked.j3 k3 (wrap64 (a0_0 * 1073741824)) x49_2 a0_0 x49_2 a0_0 x54_3 true a0_0 l0_1 l0_2 t571 t572 t575 t576) = some r := by rw [if_neg (show ¬ (false = true) by decide)] at H; exact H
           clear H; have H := H1; clear H1; have H' := Z_ H; clear H; go_wp2_with (first | (go_at_call 75; (with_reducible refine (diffs_in.calls t580 (wrap64 (-(wrap64 (a0_0 * 1073741824)))) (wrap64 (a0_0 * 1073741824)) false _ A35.out).mono ?_); rintro e w' ⟨rfl, ⟨nd, rfl⟩⟩)); go_meet
           case rel => exact ⟨_, (true), rf_, H', ⟨by have := HJ1.out; have := HK2.out; have := HK3.out; first | omega | exact nR_ _⟩, ⟨rK_ HO_580001.out⟩, ⟨rK_ HO_580003.out⟩, ⟨bR_ BK569.out⟩, ⟨bR_ BK579.out⟩, ⟨hB_⟩⟩
          rw [if_neg c34] at H; obtain ⟨c34b0, c34b1⟩ := bn_ c34; have H' := Z_ H; clear H; go_wp2; go_meet
          case rel => exact ⟨_, (true), rf_, H', ⟨by have := HJ1.out; have := HK2.out; have := HK3.out; first | omega | exact nR_ _⟩, ⟨rK_ HO_580001.out⟩, ⟨rK_ HO_580003.out⟩, ⟨bR_ BK569.out⟩, ⟨bR_ BK579.out⟩, ⟨hB_⟩⟩
         case rest =>
          clear HC26; obtain ⟨kq, x90_25, rfl, HA, HJ25, HO_580001, HO_580003, BK569, BK579, HB⟩ := hcut
          cases kq with
          | zero => exact absurd HA.out (by simp [diffs_checked.j3])
          | succ kj25 =>
           have H := HA.out; clear HA; simp only [diffs_checked.j3] at H; by_cases c38 : x90_25 = true
           ·subst c38
            rw [if_pos rfl] at H; obtain rfl := oI_ H; go_wp2; go_ret; exact ⟨eW_, hB_⟩
           replace c38 := bE_.mpr c38; subst c38; have H1 : (diffs_checked.l1 kj25 (wrap64 (a0_0 * 1073741824)) x49_2 a0_0 x49_2 a0_0 (wrap64 (x54_3 + 1)) a0_0 l0_1 l0_2 t571 t572 t575 t576) = some r := by rw [if_neg (show ¬ (false = true) by decide)] at H; exact H
           clear H; have H := H1; clear H1; have H' := Z_ H; clear H; go_wp2; go_roundg kj25
           case measure => have := HJ1.out; have := HK2.out; have := HK3.out; have := HJ25.out; omega
           case rel => exact ⟨(wrap64 (x54_3 + 1)), rf_, H', ⟨by have := HJ1.out; have := HK2.out; have := HK3.out; have := HJ25.out; omega⟩, ⟨rK_ HO_580001.out⟩, ⟨rK_ HO_580003.out⟩, ⟨bR_ BK569.out⟩, ⟨bR_ BK579.out⟩, ⟨hB_⟩⟩
        rw [if_neg c24] at H; have c24b0 : decide (x54_3 < a0_0) = false := eF_ c24; clear c24; have H' := Z_ H; clear H; go_wp2; go_roundg k3
        case measure => have := HJ1.out; have := HK2.out; have := HK3.out; omega
        case rel => exact ⟨(wrap64 (x49_2 + 1)), rf_, H', ⟨by have := HJ1.out; have := HK2.out; have := HK3.out; omega⟩, ⟨rK_ HO_580001.out⟩, ⟨rK_ HO_580003.out⟩, ⟨bR_ BK569.out⟩, ⟨bR_ BK579.out⟩, ⟨hB_⟩⟩
     rw [if_neg c21] at H; have c21b0 : decide (x49_2 < a0_0) = false := eF_ c21; clear c21; have H' := Z_ H; clear H; have hnb39 := NB569_579.out; have hnc39 := NB579_569.out; obtain ⟨⟨hcz40_0, hcz40_1, hcz40_2⟩, hfz40_0, hfz40_1, hfz40_2⟩ := f3_ BK569.out; go_wp2; go_loopg [95] k2 (fun kq v95 w' => ∃ (x95_3 : Int), v95 = .int .i64 x95_3 ∧ Aside0 (diffs_checked.l2 kq a0_0 x95_3 a0_0 l0_1 l0_2 t571 t572 t575 t576 = some r) ∧ Aside0 (kq ≤ k2) ∧ Aside0 (Kd.R (Kd.int .i64) 3 w' w.heap.size (fun _ => True) (.slice Ao18 t572.length co18) t572) ∧ Aside0 (Kd.R Kd.bool 4 w' w.heap.size (fun _ => True) (.slice Ao19 t576.length co19) t576) ∧ Aside0 (w'.heap[gb569]? = some (.cells #[.int .i64 a0_0, (.slice A0_1 l0_1.length c0_1), (.slice A0_2 l0_2.length c0_2)] 43 (0, 0))) ∧ Aside0 (w'.heap[gb579]? = some (.cells #[.int .i64 t571, (.slice Ao18 t572.length co18), .int .i64 t575, (.slice Ao19 t576.length co19)] 109 (0, 0))) ∧ Aside0 (Below w.heap.size w w'))
     case atStart => exact ⟨(0), rf_, H', ⟨nR_ _⟩, ⟨rK_ HO_580001.out⟩, ⟨rK_ HO_580003.out⟩, ⟨bR_ BK569.out⟩, ⟨bR_ BK579.out⟩, ⟨hB_⟩⟩
     case round =>
      clear H'; obtain ⟨x95_3, rfl, HA, HK3, HO_580001, HO_580003, BK569, BK579, HB⟩ := hrel
      cases gk with
      | zero => exact absurd HA.out (by simp [diffs_checked.l2])
      | succ k3 =>
       have H := HA.out; clear HA; simp only [diffs_checked.l2] at H; by_cases c41 : x95_3 < a0_0
       ·rw [if_pos c41] at H
        have c41b0 : decide (x95_3 < a0_0) = true := eT_ c41; clear c41; have H' := Z_ H; clear H; have hnb42 := NB569_579.out; have hnc42 := NB579_569.out; obtain ⟨⟨hcz43_0, hcz43_1, hcz43_2⟩, hfz43_0, hfz43_1, hfz43_2⟩ := f3_ BK569.out; go_wp2; go_loopg [100] k3 (fun kq v100 w' => ∃ (x100_4 : Int), v100 = .int .i64 x100_4 ∧ Aside0 (diffs_checked.l3 kq x95_3 a0_0 x95_3 a0_0 x100_4 a0_0 l0_1 l0_2 t571 t572 t575 t576 = some r) ∧ Aside0 (kq ≤ k3) ∧ Aside0 (Kd.R (Kd.int .i64) 3 w' w.heap.size (fun _ => True) (.slice Ao18 t572.length co18) t572) ∧ Aside0 (Kd.R Kd.bool 4 w' w.heap.size (fun _ => True) (.slice Ao19 t576.length co19) t576) ∧ Aside0 (w'.heap[gb569]? = some (.cells #[.int .i64 a0_0, (.slice A0_1 l0_1.length c0_1), (.slice A0_2 l0_2.length c0_2)] 43 (0, 0))) ∧ Aside0 (w'.heap[gb579]? = some (.cells #[.int .i64 t571, (.slice Ao18 t572.length co18), .int .i64 t575, (.slice Ao19 t576.length co19)] 109 (0, 0))) ∧ Aside0 (Below w.heap.size w w'))
        case atStart => exact ⟨(0), rf_, H', ⟨nR_ _⟩, ⟨rK_ HO_580001.out⟩, ⟨rK_ HO_580003.out⟩, ⟨bR_ BK569.out⟩, ⟨bR_ BK579.out⟩, ⟨hB_⟩⟩
        case round =>
         clear H'; obtain ⟨x100_4, rfl, HA, HK4, HO_580001, HO_580003, BK569, BK579, HB⟩ := hrel
         cases gk with
         | zero => exact absurd HA.out (by simp [diffs_checked.l3])
         | succ k4 =>
          have H := HA.out; clear HA; simp only [diffs_checked.l3] at H; by_cases c44 : x100_4 < a0_0
          ·rw [if_pos c44] at H
           have c44b0 : decide (x100_4 < a0_0) = true := eT_ c44; clear c44; replace H := oS_.mp H; obtain ⟨⟨t584, t585⟩, A450, H⟩ := H; have A45 := Z_ A450; clear A450; have H' := Z_ H; clear H; have hnb46 := NB579_569.out; have hnc46 := NB569_579.out; obtain ⟨⟨hcz47_0, hcz47_1, hcz47_2, hcz47_3⟩, hfz47_0, hfz47_1, hfz47_2, hfz47_3⟩ := f4_ BK579.out; go_wp2_with (first | ((with_reducible refine gate_callee (f := 85) rfl ?_); refine gL_ (some 107) Try.func85 #[.agg #[.int .i64 t571, .slice Ao18 t572.length co18, .int .i64 t575, .slice Ao19 t576.length co19], .int .i64 x95_3, .int .i64 x100_4] ?_; (with_reducible refine (diffs_grid_get.calls t571 _ _ t572 t575 _ _ t576 x95_3 x100_4 t584 t585 _ ?side1 ?side2 ?side3 ?side4 A45.out).mono ?_); (case side1 => exact cS_ (rR_ HO_580001.out).2.2); (case side2 => exact (rR_ HO_580001.out).2.1); (case side3 => exact cS_ (rR_ HO_580003.out).2.2); (case side4 => exact (rR_ HO_580003.out).2.1); rintro e w48 ⟨rfl, hb⟩; refine ⟨_, rfl, ?_⟩; replace HO_580001 := Z_ (rB_ (rK_ HO_580001.out) hb); replace HO_580003 := Z_ (rB_ (rK_ HO_580003.out) hb); replace BK569 := Z_ (bS_ BK569.out hb); replace BK579 := Z_ (bS_ BK579.out hb); replace HB := Z_ (fS_ hB_ hb); (try clear hb))); go_loopg [14] k4 (fun kq v14 w' => ∃ (x14_5 : Int), v14 = .int .i64 x14_5 ∧ Aside0 (diffs_checked.l4 kq x95_3 x100_4 t584 t585 x14_5 a0_0 x95_3 a0_0 x100_4 a0_0 l0_1 l0_2 t571 t572 t575 t576 = some r) ∧ Aside0 (kq ≤ k4) ∧ Aside0 (Kd.R (Kd.int .i64) 3 w' w.heap.size (fun _ => True) (.slice Ao18 t572.length co18) t572) ∧ Aside0 (Kd.R Kd.bool 4 w' w.heap.size (fun _ => True) (.slice Ao19 t576.length co19) t576) ∧ Aside0 (w'.heap[gb569]? = some (.cells #[.int .i64 a0_0, (.slice A0_1 l0_1.length c0_1), (.slice A0_2 l0_2.length c0_2)] 43 (0, 0))) ∧ Aside0 (w'.heap[gb579]? = some (.cells #[.int .i64 t571, (.slice Ao18 t572.length co18), .int .i64 t575, (.slice Ao19 t576.length co19)] 109 (0, 0))) ∧ Aside0 (Below w.heap.size w w'))
           case atStart => exact ⟨(0), rf_, H', ⟨nR_ _⟩, ⟨rK_ HO_580001.out⟩, ⟨rK_ HO_580003.out⟩, ⟨bR_ BK569.out⟩, ⟨bR_ BK579.out⟩, ⟨hB_⟩⟩
           case round =>
            clear H'; obtain ⟨x14_5, rfl, HA, HK5, HO_580001, HO_580003, BK569, BK579, HB⟩ := hrel
            cases gk with
            | zero => exact absurd HA.out (by simp [diffs_checked.l4])
            | succ k5 =>
             have H := HA.out; clear HA; simp only [diffs_checked.l4] at H; have HC49 := Z_ H; clear H; go_upto_region 25 with (fail); go_cut [116] (fun v116 wc => ∃ (kq : Nat) (x116_48 : Bool), v116 = .bool x116_48 ∧ Aside0 (diffs_checked.j7 kq x95_3 x100_4 t584 t585 x14_5 a0_0 x95_3 a0_0 x100_4 x116_48 a0_0 l0_1 l0_2 t571 t572 t575 t576 = some r) ∧ Aside0 (kq ≤ k5) ∧ Aside0 (Kd.R (Kd.int .i64) 3 wc w.heap.size (fun _ => True) (.slice Ao18 t572.length co18) t572) ∧ Aside0 (Kd.R Kd.bool 4 wc w.heap.size (fun _ => True) (.slice Ao19 t576.length co19) t576) ∧ Aside0 (wc.heap[gb569]? = some (.cells #[.int .i64 a0_0, (.slice A0_1 l0_1.length c0_1), (.slice A0_2 l0_2.length c0_2)] 43 (0, 0))) ∧ Aside0 (wc.heap[gb579]? = some (.cells #[.int .i64 t571, (.slice Ao18 t572.length co18), .int .i64 t575, (.slice Ao19 t576.length co19)] 109 (0, 0))) ∧ Aside0 (Below w.heap.size w wc))
             case first =>
              have H := HC49.out; clear HC49; by_cases c50 : x14_5 < a0_0
              ·rw [if_pos c50] at H
               have c50b0 : decide (x14_5 < a0_0) = true := eT_ c50; clear c50; (try rw [c50b0])
               have H' := Z_ H; clear H; have hnb51 := NB569_579.out; have hnc51 := NB579_569.out; obtain ⟨⟨hcz52_0, hcz52_1, hcz52_2⟩, hfz52_0, hfz52_1, hfz52_2⟩ := f3_ BK569.out; go_wp2; go_meet
               case rel => exact ⟨_, (t585), rf_, H', ⟨by have := HJ1.out; have := HK2.out; have := HK3.out; have := HK4.out; have := HK5.out; first | omega | exact nR_ _⟩, ⟨rK_ HO_580001.out⟩, ⟨rK_ HO_580003.out⟩, ⟨bR_ BK569.out⟩, ⟨bR_ BK579.out⟩, ⟨hB_⟩⟩
              rw [if_neg c50] at H; have c50b0 : decide (x14_5 < a0_0) = false := eF_ c50; clear c50; (try rw [c50b0])
              have H' := Z_ H; clear H; have hnb53 := NB569_579.out; have hnc53 := NB579_569.out; obtain ⟨⟨hcz54_0, hcz54_1, hcz54_2⟩, hfz54_0, hfz54_1, hfz54_2⟩ := f3_ BK569.out; go_wp2; go_meet
              case rel => exact ⟨_, (false), rf_, H', ⟨by have := HJ1.out; have := HK2.out; have := HK3.out; have := HK4.out; have := HK5.out; first | omega | exact nR_ _⟩, ⟨rK_ HO_580001.out⟩, ⟨rK_ HO_580003.out⟩, ⟨bR_ BK569.out⟩, ⟨bR_ BK579.out⟩, ⟨hB_⟩⟩
             case rest =>
              clear HC49; obtain ⟨kq, x116_48, rfl, HA, HJ48, HO_580001, HO_580003, BK569, BK579, HB⟩ := hcut
              cases kq with
              | zero => exact absurd HA.out (by simp [diffs_checked.j7])
              | succ kj48 =>
               have H := HA.out; clear HA; simp only [diffs_checked.j7] at H; by_cases c55 : x116_48 = true
               ·subst c55
                rw [if_pos rfl] at H; replace H := oS_.mp H; obtain ⟨⟨t586, t587⟩, A560, H⟩ := H; have A56 := Z_ A560; clear A560; replace H := oS_.mp H; obtain ⟨⟨t588, t589⟩, A570, H⟩ := H; have A57 := Z_ A570; clear A570; have HC58 := Z_ H; clear H; have hnb59 := NB579_569.out; have hnc59 := NB569_579.out; obtain ⟨⟨hcz60_0, hcz60_1, hcz60_2, hcz60_3⟩, hfz60_0, hfz60_1, hfz60_2, hfz60_3⟩ := f4_ BK579.out; go_upto_region 29 with (first | ((with_reducible refine gate_callee (f := 85) rfl ?_); refine gL_ (some 123) Try.func85 #[.agg #[.int .i64 t571, .slice Ao18 t572.length co18, .int .i64 t575, .slice Ao19 t576.length co19], .int .i64 x100_4, .int .i64 x14_5] ?_; (with_reducible refine (diffs_grid_get.calls t571 _ _ t572 t575 _ _ t576 x100_4 x14_5 t586 t587 _ ?side1 ?side2 ?side3 ?side4 A56.out).mono ?_); (case side1 => exact cS_ (rR_ HO_580001.out).2.2); (case side2 => exact (rR_ HO_580001.out).2.1); (case side3 => exact cS_ (rR_ HO_580003.out).2.2); (case side4 => exact (rR_ HO_580003.out).2.1); rintro e w61 ⟨rfl, hb⟩; refine ⟨_, rfl, ?_⟩; replace HO_580001 := Z_ (rB_ (rK_ HO_580001.out) hb); replace HO_580003 := Z_ (rB_ (rK_ HO_580003.out) hb); replace BK569 := Z_ (bS_ BK569.out hb); replace BK579 := Z_ (bS_ BK579.out hb); replace HB := Z_ (fS_ hB_ hb); (try clear hb); obtain ⟨⟨hcz62_0, hcz62_1, hcz62_2, hcz62_3⟩, hfz62_0, hfz62_1, hfz62_2, hfz62_3⟩ := f4_ BK579.out) | ((with_reducible refine gate_callee (f := 85) rfl ?_); refine gL_ (some 130) Try.func85 #[.agg #[.int .i64 t571, .slice Ao18 t572.length co18, .int .i64 t575, .slice Ao19 t576.length co19], .int .i64 x95_3, .int .i64 x14_5] ?_; (with_reducible refine (diffs_grid_get.calls t571 _ _ t572 t575 _ _ t576 x95_3 x14_5 t588 t589 _ ?side1 ?side2 ?side3 ?side4 A57.out).mono ?_); (case side1 => exact cS_ (rR_ HO_580001.out).2.2); (case side2 => exact (rR_ HO_580001.out).2.1); (case side3 => exact cS_ (rR_ HO_580003.out).2.2); (case side4 => exact (rR_ HO_580003.out).2.1); rintro e w63 ⟨rfl, hb⟩; refine ⟨_, rfl, ?_⟩; replace HO_580001 := Z_ (rB_ (rK_ HO_580001.out) hb); replace HO_580003 := Z_ (rB_ (rK_ HO_580003.out) hb); replace BK569 := Z_ (bS_ BK569.out hb); replace BK579 := Z_ (bS_ BK579.out hb); replace HB := Z_ (fS_ hB_ hb); (try clear hb))); (try simp only [Act.put, sT_, sZ_, sS_])
                go_cut [144] (fun v144 wc => ∃ (kq : Nat) (x144_57 : Bool), v144 = .bool x144_57 ∧ Aside0 (diffs_checked.j8 kq x95_3 x100_4 t584 t585 x14_5 a0_0 x95_3 a0_0 x100_4 x144_57 a0_0 l0_1 l0_2 t571 t572 t575 t576 = some r) ∧ Aside0 (kq ≤ kj48) ∧ Aside0 (Kd.R (Kd.int .i64) 3 wc w.heap.size (fun _ => True) (.slice Ao18 t572.length co18) t572) ∧ Aside0 (Kd.R Kd.bool 4 wc w.heap.size (fun _ => True) (.slice Ao19 t576.length co19) t576) ∧ Aside0 (wc.heap[gb569]? = some (.cells #[.int .i64 a0_0, (.slice A0_1 l0_1.length c0_1), (.slice A0_2 l0_2.length c0_2)] 43 (0, 0))) ∧ Aside0 (wc.heap[gb579]? = some (.cells #[.int .i64 t571, (.slice Ao18 t572.length co18), .int .i64 t575, (.slice Ao19 t576.length co19)] 109 (0, 0))) ∧ Aside0 (Below w.heap.size w wc))
                case first =>
                 have H := HC58.out; clear HC58; by_cases c64 : t587 = true
                 ·subst c64
                  rw [if_pos rfl] at H; by_cases c65 : t589 = true
                  ·subst c65
                   rw [if_pos rfl] at H; have H' := Z_ H; clear H; go_wp2; go_meet
                   case rel => exact ⟨_, (decide (t588 > (wrap64 (t584 + t586)))), rf_, H', ⟨by have := HJ1.out; have := HK2.out; have := HK3.out; have := HK4.out; have := HK5.out; have := HJ48.out; first | omega | exact nR_ _⟩, ⟨rK_ HO_580001.out⟩, ⟨rK_ HO_580003.out⟩, ⟨bR_ BK569.out⟩, ⟨bR_ BK579.out⟩, ⟨hB_⟩⟩
                  replace c65 := bE_.mpr c65; subst c65; have H1 : (diffs_checked.j8 kj48 x95_3 x100_4 t584 t585 x14_5 a0_0 x95_3 a0_0 x100_4 true a0_0 l0_1 l0_2 t571 t572 t575 t576) = some r := by rw [if_neg (show ¬ (false = true) by decide)] at H; exact H
                  clear H; have H := H1; clear H1; have H' := Z_ H; clear H; go_wp2; go_meet
                  case rel => exact ⟨_, (true), rf_, H', ⟨by have := HJ1.out; have := HK2.out; have := HK3.out; have := HK4.out; have := HK5.out; have := HJ48.out; first | omega | exact nR_ _⟩, ⟨rK_ HO_580001.out⟩, ⟨rK_ HO_580003.out⟩, ⟨bR_ BK569.out⟩, ⟨bR_ BK579.out⟩, ⟨hB_⟩⟩
                 replace c64 := bE_.mpr c64; subst c64; have H1 : (diffs_checked.j8 kj48 x95_3 x100_4 t584 t585 x14_5 a0_0 x95_3 a0_0 x100_4 false a0_0 l0_1 l0_2 t571 t572 t575 t576) = some r := by rw [if_neg (show ¬ (false = true) by decide)] at H; exact H
                 clear H; have H := H1; clear H1; have H' := Z_ H; clear H; go_wp2; go_meet
                 case rel => exact ⟨_, (false), rf_, H', ⟨by have := HJ1.out; have := HK2.out; have := HK3.out; have := HK4.out; have := HK5.out; have := HJ48.out; first | omega | exact nR_ _⟩, ⟨rK_ HO_580001.out⟩, ⟨rK_ HO_580003.out⟩, ⟨bR_ BK569.out⟩, ⟨bR_ BK579.out⟩, ⟨hB_⟩⟩
                case rest =>
                 clear HC58; obtain ⟨kq, x144_57, rfl, HA, HJ57, HO_580001, HO_580003, BK569, BK579, HB⟩ := hcut
                 cases kq with
                 | zero => exact absurd HA.out (by simp [diffs_checked.j8])
                 | succ kj57 =>
                  have H := HA.out; clear HA; simp only [diffs_checked.j8] at H; by_cases c66 : x144_57 = true
                  ·subst c66
                   rw [if_pos rfl] at H; obtain rfl := oI_ H; go_wp2; go_ret; exact ⟨eW_, hB_⟩
                  replace c66 := bE_.mpr c66; subst c66; have H1 : (diffs_checked.l4 kj57 x95_3 x100_4 t584 t585 (wrap64 (x14_5 + 1)) a0_0 x95_3 a0_0 x100_4 a0_0 l0_1 l0_2 t571 t572 t575 t576) = some r := by rw [if_neg (show ¬ (false = true) by decide)] at H; exact H
                  clear H; have H := H1; clear H1; have H' := Z_ H; clear H; go_wp2; go_roundg kj57
                  case measure => have := HJ1.out; have := HK2.out; have := HK3.out; have := HK4.out; have := HK5.out; have := HJ48.out; have := HJ57.out; omega
                  case rel => exact ⟨(wrap64 (x14_5 + 1)), rf_, H', ⟨by have := HJ1.out; have := HK2.out; have := HK3.out; have := HK4.out; have := HK5.out; have := HJ48.out; have := HJ57.out; omega⟩, ⟨rK_ HO_580001.out⟩, ⟨rK_ HO_580003.out⟩, ⟨bR_ BK569.out⟩, ⟨bR_ BK579.out⟩, ⟨hB_⟩⟩
               replace c55 := bE_.mpr c55; subst c55; have H1 : (diffs_checked.l3 kj48 x95_3 a0_0 x95_3 a0_0 (wrap64 (x100_4 + 1)) a0_0 l0_1 l0_2 t571 t572 t575 t576) = some r := by rw [if_neg (show ¬ (false = true) by decide)] at H; exact H
               clear H; have H := H1; clear H1; have H' := Z_ H; clear H; go_wp2; go_roundg kj48
               case measure => have := HJ1.out; have := HK2.out; have := HK3.out; have := HK4.out; have := HK5.out; have := HJ48.out; omega
               case rel => exact ⟨(wrap64 (x100_4 + 1)), rf_, H', ⟨by have := HJ1.out; have := HK2.out; have := HK3.out; have := HK4.out; have := HK5.out; have := HJ48.out; omega⟩, ⟨rK_ HO_580001.out⟩, ⟨rK_ HO_580003.out⟩, ⟨bR_ BK569.out⟩, ⟨bR_ BK579.out⟩, ⟨hB_⟩⟩
          rw [if_neg c44] at H; have c44b0 : decide (x100_4 < a0_0) = false := eF_ c44; clear c44; have H' := Z_ H; clear H; go_wp2; go_roundg k4
          case measure => have := HJ1.out; have := HK2.out; have := HK3.out; have := HK4.out; omega
          case rel => exact ⟨(wrap64 (x95_3 + 1)), rf_, H', ⟨by have := HJ1.out; have := HK2.out; have := HK3.out; have := HK4.out; omega⟩, ⟨rK_ HO_580001.out⟩, ⟨rK_ HO_580003.out⟩, ⟨bR_ BK569.out⟩, ⟨bR_ BK579.out⟩, ⟨hB_⟩⟩
       rw [if_neg c41] at H; have c41b0 : decide (x95_3 < a0_0) = false := eF_ c41; clear c41; obtain rfl := oI_ H; go_wp2; go_ret; exact ⟨eW_, hB_⟩
end Go.Proofs.Ytpolojoeabmhdaa.A
/- A table that is right is found so. -/
namespace Go.Proofs.Ytpolojoeabmhdaa.A
open Go.RowKit Go.Proofs.YtpolojoeabmhdaaW.PrintWords Go.Proofs.YtpolojoeabmhdaaW.PrintLast Go.Proofs.YtpolojoeabmhdaaW.PrintMore
theorem pl_ok {N i j : Int} (i0 : 0 ≤ i) (i1 : i < N) (j0 : 0 ≤ j) (j1 : j < N) : 0 ≤ i * N + j ∧ i * N + j < N * N ∧ 0 ≤ i * N ∧ i * N ≤ N * N := by
  have h1 : i * N ≤ (N - 1) * N := Int.mul_le_mul_of_nonneg_right (by omega) (by omega)
  have h2 : (N - 1) * N = N * N - N := by rw [Int.sub_mul, Int.one_mul]
  have h3 : 0 ≤ i * N := Int.mul_nonneg i0 (by omega)
  omega
theorem pl_inj {N i j i' j' : Int} (hN : 0 < N) (j0 : 0 ≤ j) (j1 : j < N) (j0' : 0 ≤ j') (j1' : j' < N) (h : i * N + j = i' * N + j') : i = i' ∧ j = j' := by
  have key : ∀ a b c e : Int, 0 ≤ c → c < N → 0 ≤ e → a * N + c = b * N + e → ¬ a < b := fun a b c e c0 c1 e0 he hab => by
    have h1 : (a + 1) * N ≤ b * N := Int.mul_le_mul_of_nonneg_right (by omega) (by omega)
    rw [Int.add_mul, Int.one_mul] at h1
    omega
  have h1 := key i i' j j' j0 j1 j0' h
  have h2 := key i' i j' j j0' j1' j0 h.symm
  have e : i = i' := by omega
  rw [e] at h
  exact ⟨e, by omega⟩
theorem nn_le {N : Int} (h0 : 0 ≤ N) (h1 : N ≤ 64) : N * N ≤ 4096 := Int.mul_le_mul h1 h1 h0 (by omega)
section
variable {N : Int} {m : List Int} {h : List Bool}
theorem get_some (n0 : 1 ≤ N) (n1 : N ≤ 64) (lm : (m.length : Int) = N * N) (lh : (h.length : Int) = N * N) {i j : Int} (i0 : 0 ≤ i) (i1 : i < N) (j0 : 0 ≤ j) (j1 : j < N) : diffs_grid_get.f N m N h i j = some (rd m (i * N + j), rdOf false h (i * N + j)) := by
  have hp := pl_ok i0 i1 j0 j1
  have := nn_le (N := N) (by omega) n1
  unfold diffs_grid_get.f diffs_square_int_at.f diffs_square_bool_at.f
  rw [wrap_id (x := i * N) (by omega) (by omega), wrap_id (x := i * N + j) (by omega) (by omega), if_pos hp.1, if_pos (by omega), if_pos hp.1, if_pos (by omega)]
  rfl
structure CellOk (N i j x : Int) (b : Bool) : Prop where
  z : b = false → x = 0
  b0 : -(N * 1073741824) ≤ x
  b1 : x ≤ N * 1073741824
  d : i = j → b = true ∧ x = 0
structure TabOk (N : Int) (m : List Int) (h : List Bool) : Prop where
  n0 : 1 ≤ N
  n1 : N ≤ 64
  lm : (m.length : Int) = N * N
  lh : (h.length : Int) = N * N
  c : ∀ i j, 0 ≤ i → i < N → 0 ≤ j → j < N → CellOk N i j (rd m (i * N + j)) (rdOf false h (i * N + j))
  t : ∀ i j k, 0 ≤ i → i < N → 0 ≤ j → j < N → 0 ≤ k → k < N → rdOf false h (i * N + j) = true → rdOf false h (j * N + k) = true → rdOf false h (i * N + k) = true ∧ rd m (i * N + k) ≤ rd m (i * N + j) + rd m (j * N + k)
theorem opened_some (lm : m.length ≤ 65536) (lh : h.length ≤ 65536) : diffs_opened.f N m h = some (N, m, N, h) := by
  unfold diffs_opened.f slices_Clone_int_int.f slices_Clone_bool_bool.f
  rw [if_pos (by omega), if_pos (by omega)]
  rfl
theorem ck_l4 (hT : TabOk N m h) {i j : Int} (i0 : 0 ≤ i) (i1 : i < N) (j0 : 0 ≤ j) (j1 : j < N) (x94 x95 x99 x100 : Int) {r : Bool} (hgo : Ev (fun k => diffs_checked.l3 k i x94 x95 x99 (wrap64 (x100 + 1)) N m h N m N h) r) : ∀ (q : Nat) (k : Int), (q : Int) + k = N → 0 ≤ k →
    Ev (fun f => diffs_checked.l4 f i j (rd m (i * N + j)) (rdOf false h (i * N + j)) k x94 x95 x99 x100 N m h N m N h) r := by
  have hn := hT.n1
  have hdone : Ev (fun f => diffs_checked.l3 f i x94 x95 x99 (wrap64 (x100 + 1)) N m h N m N h) r := hgo
  have stop : ∀ k, Ev (fun f => diffs_checked.j7 f i j (rd m (i * N + j)) (rdOf false h (i * N + j)) k x94 x95 x99 x100 false N m h N m N h) r := fun k => Ev.step (fun f => by rw [diffs_checked.j7, if_neg (by decide)]) hdone
  intro q
  induction q with
  | zero =>
    intro k hq k0
    exact Ev.step (fun f => by rw [diffs_checked.l4, if_neg (by omega)]) (stop k)
  | succ q ih =>
    intro k hq k0
    refine Ev.step (f := fun f => diffs_checked.j7 f i j (rd m (i * N + j)) (rdOf false h (i * N + j)) k x94 x95 x99 x100 (rdOf false h (i * N + j)) N m h N m N h) (fun f => by rw [diffs_checked.l4, if_pos (by omega)]) ?_
    cases hb : rdOf false h (i * N + j) with
    | false => have := stop k; rw [hb] at this; exact this
    | true =>
      have g1 := get_some hT.n0 hT.n1 hT.lm hT.lh j0 j1 k0 (show k < N by omega)
      have g2 := get_some hT.n0 hT.n1 hT.lm hT.lh i0 i1 k0 (show k < N by omega)
      have hn := ih (k + 1) (by omega) (by omega)
      rw [hb] at hn
      have hj8 : Ev (fun f => diffs_checked.j8 f i j (rd m (i * N + j)) true k x94 x95 x99 x100 false N m h N m N h) r := Ev.step (fun f => by rw [diffs_checked.j8, if_neg (by decide), wrap_id (x := k + 1) (by omega) (by omega)]) hn
      refine Ev.step (f := fun f => if rdOf false h (j * N + k) = true then (if rdOf false h (i * N + k) = true then (diffs_checked.j8 f i j (rd m (i * N + j)) true k x94 x95 x99 x100 (decide (rd m (i * N + k) > (wrap64 (rd m (i * N + j) + rd m (j * N + k))))) N m h N m N h) else (diffs_checked.j8 f i j (rd m (i * N + j)) true k x94 x95 x99 x100 true N m h N m N h)) else (diffs_checked.j8 f i j (rd m (i * N + j)) true k x94 x95 x99 x100 false N m h N m N h)) (fun f => by rw [diffs_checked.j7, if_pos rfl, g1, g2]; rfl) ?_
      by_cases c : rdOf false h (j * N + k) = true
      · have ht := hT.t i j k i0 i1 j0 j1 k0 (by omega) hb c
        have b1 := hT.c i j i0 i1 j0 j1
        have b2 := hT.c j k j0 j1 k0 (by omega)
        have := b1.b0
        have := b1.b1
        have := b2.b0
        have := b2.b1
        refine Ev.pos c (Ev.pos ht.1 ?_)
        rw [wrap_id (by omega) (by omega), decide_eq_false (by omega)]
        exact hj8
      · exact Ev.neg c hj8
theorem ck_l3 (hT : TabOk N m h) {i : Int} (i0 : 0 ≤ i) (i1 : i < N) {r : Bool} (x94 : Int) (hgo : Ev (fun k => diffs_checked.l2 k x94 (i + 1) N m h N m N h) r) : ∀ (q : Nat) (j : Int), (q : Int) + j = N → 0 ≤ j →
    Ev (fun f => diffs_checked.l3 f i x94 i N j N m h N m N h) r := by
  have hn := hT.n1
  intro q
  induction q with
  | zero =>
    intro j hq j0
    exact Ev.step (fun f => by rw [diffs_checked.l3, if_neg (by omega), wrap_id (x := i + 1) (by omega) (by omega)]) hgo
  | succ q ih =>
    intro j hq j0
    have g1 := get_some hT.n0 hT.n1 hT.lm hT.lh i0 i1 j0 (show j < N by omega)
    have hnx := ih (j + 1) (by omega) (by omega)
    refine Ev.step (f := fun f => diffs_checked.l4 f i j (rd m (i * N + j)) (rdOf false h (i * N + j)) 0 x94 i N j N m h N m N h) (fun f => by rw [diffs_checked.l3, if_pos (by omega), g1]; rfl) ?_
    refine ck_l4 hT i0 i1 j0 (by omega) x94 i N j ?_ N.toNat 0 (by omega) (by omega)
    rw [wrap_id (x := j + 1) (by omega) (by omega)]
    exact hnx
theorem ck_l2 (hT : TabOk N m h) : ∀ (q : Nat) (i : Int), (q : Int) + i = N → 0 ≤ i → Ev (fun f => diffs_checked.l2 f N i N m h N m N h) true := by
  intro q
  induction q with
  | zero =>
    intro i hq i0
    exact Ev.step (f := fun _ => some true) (fun f => by rw [diffs_checked.l2, if_neg (by omega)]) (Ev.now _)
  | succ q ih =>
    intro i hq i0
    exact Ev.step (f := fun f => diffs_checked.l3 f i N i N 0 N m h N m N h) (fun f => by rw [diffs_checked.l2, if_pos (by omega)]) (ck_l3 hT i0 (by omega) N (ih (i + 1) (by omega) (by omega)) N.toNat 0 (by have := hT.n0; omega) (by omega))
theorem ck_l1 (hT : TabOk N m h) {i : Int} (i0 : 0 ≤ i) (i1 : i < N) {r : Bool} (hgo : Ev (fun k => diffs_checked.l0 k (wrap64 (N * 1073741824)) N (i + 1) N m h N m N h) r) : ∀ (q : Nat) (j : Int), (q : Int) + j = N → 0 ≤ j →
    Ev (fun f => diffs_checked.l1 f (wrap64 (N * 1073741824)) i N i N j N m h N m N h) r := by
  have hn0 := hT.n0
  have hn := hT.n1
  have hw : wrap64 (N * 1073741824) = N * 1073741824 := wrap_id (by omega) (by omega)
  have hw2 : wrap64 (-(N * 1073741824)) = -(N * 1073741824) := wrap_id (by omega) (by omega)
  rw [hw] at hgo ⊢
  intro q
  induction q with
  | zero =>
    intro j hq j0
    exact Ev.step (fun f => by rw [diffs_checked.l1, if_neg (by omega), wrap_id (x := i + 1) (by omega) (by omega)]) hgo
  | succ q ih =>
    intro j hq j0
    have g1 := get_some hT.n0 hT.n1 hT.lm hT.lh i0 i1 j0 (show j < N by omega)
    have hc := hT.c i j i0 i1 j0 (by omega)
    have c0 := hc.b0
    have c1 := hc.b1
    have hj3 : Ev (fun f => diffs_checked.j3 f (N * 1073741824) i N i N j false N m h N m N h) r := Ev.step (fun f => by rw [diffs_checked.j3, if_neg (by decide), wrap_id (x := j + 1) (by omega) (by omega)]) (ih (j + 1) (by omega) (by omega))
    have hin : ∀ x : Int, diffs_in.f x (-(N * 1073741824)) (N * 1073741824) = some (decide (-(N * 1073741824) ≤ x) && decide (x ≤ N * 1073741824)) := fun x => in_some x _ _
    have hb : (decide (-(N * 1073741824) ≤ rd m (i * N + j)) && decide (rd m (i * N + j) ≤ N * 1073741824)) = true := by
      rw [decide_eq_true c0, decide_eq_true c1]; rfl
    cases hh : rdOf false h (i * N + j) with
    | true =>
      rw [hh] at hc
      refine Ev.step (f := fun f => if i = j then (diffs_checked.j3 f (N * 1073741824) i N i N j (rd m (i * N + j) != 0) N m h N m N h) else (diffs_checked.j3 f (N * 1073741824) i N i N j false N m h N m N h)) (fun f => by rw [diffs_checked.l1, if_pos (by omega), g1, Option.bind_some, hh, if_pos rfl, hw2, hin, Option.bind_some, if_pos hb]) ?_
      by_cases e : i = j
      · refine Ev.pos e ?_
        rw [show (rd m (i * N + j) != 0) = false from bne_eq_false_iff_eq.mpr (hc.d e).2]
        exact hj3
      · exact Ev.neg e hj3
    | false =>
      rw [hh] at hc
      have hne : ¬ i = j := fun e => by have := (hc.d e).1; cases this
      refine Ev.step (f := fun f => diffs_checked.j3 f (N * 1073741824) i N i N j false N m h N m N h) (fun f => by rw [diffs_checked.l1, if_pos (by omega), g1, Option.bind_some, hh, if_neg (by simp), if_pos (hc.z rfl), hw2, hin, Option.bind_some, if_pos hb, if_neg hne]) hj3
theorem ck_l0 (hT : TabOk N m h) : ∀ (q : Nat) (i : Int), (q : Int) + i = N → 0 ≤ i → Ev (fun f => diffs_checked.l0 f (wrap64 (N * 1073741824)) N i N m h N m N h) true := by
  have hn0 := hT.n0
  intro q
  induction q with
  | zero =>
    intro i hq i0
    exact Ev.step (f := fun f => diffs_checked.l2 f N 0 N m h N m N h) (fun f => by rw [diffs_checked.l0, if_neg (by omega)]) (ck_l2 hT N.toNat 0 (by omega) (by omega))
  | succ q ih =>
    intro i hq i0
    exact Ev.step (f := fun f => diffs_checked.l1 f (wrap64 (N * 1073741824)) i N i N 0 N m h N m N h) (fun f => by rw [diffs_checked.l0, if_pos (by omega)]) (ck_l1 hT i0 (by omega) (ih (i + 1) (by omega) (by omega)) N.toNat 0 (by omega) (by omega))
theorem checked_true (hT : TabOk N m h) : Ev (fun k => diffs_checked.f k N m h) true := by
  have hn0 := hT.n0
  have hn := hT.n1
  have lm := hT.lm
  have lh := hT.lh
  have := nn_le (N := N) (by omega) hn
  have hp := pl_ok (N := N) (i := 0) (j := 0) (by omega) (by omega) (by omega) (by omega)
  unfold diffs_checked.f
  simp only [in_some, Option.bind_some]
  refine Ev.pos (by rw [decide_eq_true hn0, decide_eq_true hn]; rfl) (Ev.pos (by rw [wrap_id (x := N * N) (by omega) (by omega)]; exact lm) ?_)
  rw [wrap_id (x := N * N) (by omega) (by omega), show ((h.length : Int) != N * N) = false from bne_eq_false_iff_eq.mpr lh]
  exact Ev.step (f := fun k => diffs_checked.l0 k (wrap64 (N * 1073741824)) N 0 N m h N m N h) (fun k => by rw [diffs_checked.j0, if_neg (by decide), opened_some (by omega) (by omega)]; rfl) (ck_l0 hT N.toNat 0 (by omega) (by omega))
end
end Go.Proofs.Ytpolojoeabmhdaa.A
/- Words for what a call keeps. -/
namespace Go.Proofs.YtpolojoeabmhdaaW.PrintWords
open Go.RowKit
section
variable {w W W2 : World} {S S2 S' : Nat → Prop}
theorem Kept.of_below (h : Below w.heap.size w W) (S : Nat → Prop) : Kept w W S := ⟨h.size, fun i hi _ => h.block i hi⟩
theorem Kept.of_grown {row : Option Nat} (hg : W.grownBy W2 row) (h : Kept w W S) (hr : ∀ k, row = some k → S k ∨ w.heap.size ≤ k) : Kept w W2 S :=
  h.then_ (S2 := fun k => row = some k) ⟨hg.size, fun i hi hn => hg.block i hi (fun he => hn he.symm)⟩ hr
theorem Kept.below (h : Kept w W S) (hb : Below W.heap.size W W2) : Kept w W2 S := h.then_ (Kept.of_below hb (fun _ => False)) (fun _ hk => hk.elim)
theorem Kept.alloc (h : Kept w W S) (o : Obj) : Kept w (W.alloc o) S := h.below (below_alloc (Below.refl _ _) o)
theorem Kept.drewN (h : Kept w W S) (m : Nat) : Kept w (W.drewN m) S := h
end
end Go.Proofs.YtpolojoeabmhdaaW.PrintWords
namespace Go.Proofs.Ytpolojoeabmhdaa.A
open Go.RowKit Go.Proofs.YtpolojoeabmhdaaW.PrintWords Go.Proofs.YtpolojoeabmhdaaW.PrintLast Go.Proofs.YtpolojoeabmhdaaW.PrintMore
attribute [local go_sem] max2_int min2_int max_two min_two max_three min_three max_four min_four
def diffs_square_int_set.f (a0_0 : Int) (l0_1 : List Int) (a1 : Int) (a2 : Int) (a3 : Int) : Option (List Int) := if 0 ≤ (wrap64 ((wrap64 (a1 * a0_0)) + a2)) then (if (wrap64 ((wrap64 (a1 * a0_0)) + a2)) < (l0_1.length : Int) then (some (l0_1.set ((wrap64 ((wrap64 (a1 * a0_0)) + a2)) : Int).toNat a3)) else (none)) else (none)
set_option maxHeartbeats 8000000 in
set_option maxRecDepth 100000 in
theorem diffs_square_int_set.calls (a0_0 : Int) (P0_1_ : Nat → Prop) (u9000_ : Value) (l0_1 : List Int) (a1 : Int) (a2 : Int) (a3 : Int) (r : List Int) (w0 w : World) (hB : Below w0.heap.size w0 w) (ho0_1 : Kd.R (Kd.int .i64) 3 w w0.heap.size P0_1_ u9000_ l0_1) (h : diffs_square_int_set.f a0_0 l0_1 a1 a2 a3 = some r) :
  Calls Try.prog 86 #[.agg #[.int .i64 a0_0, u9000_], .int .i64 a1, .int .i64 a2, .int .i64 a3] w fun e w' => e = .returned (.tuple #[]) ∧ Kd.R (Kd.int .i64) 3 w' w0.heap.size (fun k_ => (P0_1_ k_ ∨ w.heap.size ≤ k_)) u9000_ r ∧ Below w0.heap.size w0 w' ∧ Kept w w' (fun k_ => P0_1_ k_) := by
 have hu105 := Try.underlying105; have HO0_1 := Z_ (show Kd.R (Kd.int .i64) 3 w w0.heap.size (fun k_ => (P0_1_ k_ ∨ w.heap.size ≤ k_)) u9000_ l0_1 from rM_ ho0_1 (fun k_ hk => (.inl hk))); have HK := Z_ (Kept.refl w (fun k_ => P0_1_ k_)); have HW0 := Z_ hB.size; have HB := Z_ hB; clear hB; have H : (if 0 ≤ (wrap64 ((wrap64 (a1 * a0_0)) + a2)) then (if (wrap64 ((wrap64 (a1 * a0_0)) + a2)) < (l0_1.length : Int) then (some (l0_1.set ((wrap64 ((wrap64 (a1 * a0_0)) + a2)) : Int).toNat a3)) else (none)) else (none)) = some r := h; clear h; obtain ⟨ji5, hji5⟩ : ∃ j_ : Int, (wrap64 ((wrap64 (a1 * a0_0)) + a2)) = j_ := ⟨_, rfl⟩; replace H : (if 0 ≤ (ji5) then (if (ji5) < (l0_1.length : Int) then (some (l0_1.set ((ji5) : Int).toNat a3)) else (none)) else (none)) = some r := by first | (rw [hji5] at H; exact H) | (simp only [hji5] at H ⊢; exact H)
 have hji5w : (IntKind.i64.wrap ((wrap64 (a1 * a0_0)) + a2)) = ji5 := (i64_w _).trans hji5; by_cases c6 : 0 ≤ (ji5)
 ·rw [if_pos c6] at H
  have c6b0 : decide (0 ≤ (ji5)) = true := eT_ c6; clear c6; by_cases c7 : (ji5) < (l0_1.length : Int)
  ·rw [if_pos c7] at H
   have c7b0 : decide ((ji5) < (l0_1.length : Int)) = true := eT_ c7; clear c7; obtain ⟨y591, hy591⟩ : ∃ y_ : List Int, y_ = (l0_1.set ((ji5) : Int).toNat a3) := ⟨_, rfl⟩; replace H : (some y591) = some r := by first | (rw [hy591]; with_reducible exact H) | (have H2_ := (oB_ _ _).symm.trans H; rw [hy591]; with_reducible exact H2_) | (have H2_ := (oB_ _ _).symm.trans H; with_reducible exact H2_) | with_reducible exact H | (rw [hy591]; exact H) | exact H
   have Ny591 := Z_ hy591; clear hy591; obtain rfl := oI_ H; obtain ⟨Ao9, co9, eo9⟩ := rS_ HO0_1.out; subst eo9; go_enter Try.func86, Try.ntmps86; go_wp2_with (first | ((with_reducible refine gate_dst (N := 4) rfl ?_); refine bX_ 4 #[.int .i64 a0_0, .slice Ao9 l0_1.length co9] 105 ?_; intro gb590 hg w10 hbox hb; replace HO0_1 := Z_ (rB_ (rK_ HO0_1.out) hb); have BK590 := Z_ (hbox); have GW590 := Z_ ((by rw [hg]; exact (by first | exact HK.out.1 | exact (show Kept w _ (fun k_ => P0_1_ k_) from by repeat (first | (with_reducible first | exact HK.out | apply Kept.alloc | apply Kept.drewN | apply Kept.drew) | exact HK.out)).1) : w.heap.size ≤ gb590)); replace HK := Z_ (Kept.below (S := (fun k_ => P0_1_ k_)) (by repeat (first | (with_reducible first | exact HK.out | apply Kept.alloc | apply Kept.drewN | apply Kept.drew) | exact HK.out)) hb); have GE590 := Z_ ((by rw [hg]; exact (fZ_ hB_) : w0.heap.size ≤ gb590)); replace HB := Z_ (fS_ hB_ hb); clear hb hbox hg; obtain ⟨⟨hcz11_0, hcz11_1⟩, hfz11_0, hfz11_1⟩ := f2_ BK590.out; have p8 : 0 ≤ ((ji5) : Int) := dT_ as_; have q8 : ((ji5) : Int) < ((l0_1.length : Int) : Int) := dT_ as_; obtain ⟨go8, co8, eo8, gb8, gl8, cl8, HG8⟩ := Kd.R_form HO0_1.out (by omega); (first | cases eo8 | (injection eo8 with ea_ en_ ec_; (first | subst ea_ | (injection ea_ with ea_; subst ea_)); subst ec_; clear en_)); have GB8 := Z_ gb8; have GG8 := Z_ HG8; clear gb8 gl8 HG8; have HMgo8 := Z_ (show (P0_1_ go8 ∨ w.heap.size ≤ go8) from (HO0_1.out.1 _ rfl)); obtain ⟨hx8_0, hf8_0⟩ := Kd.R_celln 0 HO0_1.out ((ji5) : Int) p8 q8; replace p8 := eq_true p8; replace q8 := eq_true q8; obtain ⟨hy12_, hz12_⟩ := Kd.R_celln 0 HO0_1.out ((ji5) : Int) (dT_ as_) (dT_ as_); have HP12 := Kd.R_putg HO0_1.out ((ji5) : Int) a3) | ((with_reducible refine gate_store (t := 3) (p := 17) rfl ?_); refine store_event (t := 3) (p := 17) (v := ?vo_w13) (w1 := (w10.setCell ⟨go8, ((ji5) : Int).toNat, none⟩ (.int .i64 a3))) ?hg ?ho ?hn ?hr ?_; (case ho => rfl); (case hg => rfl); (case hn => rfl); (case hr => first | (go_simp; done) | (go_simp; rfl)); intro w13 hw; have hg : w10.grownBy w13 (some go8) := (by rw [hw]; exact HP12.2); have hp_ : Kd.R (Kd.int .i64) 3 w13 w0.heap.size (fun k_ => (P0_1_ k_ ∨ w.heap.size ≤ k_)) (.slice (some ⟨go8, 0, none⟩) l0_1.length co9) y591 := (by rw [hw, Ny591.out]; exact HP12.1); clear HP12; replace BK590 := Z_ (blk_grown (g := gb590) (o := .cells #[.int .i64 a0_0, .slice (some ⟨go8, 0, none⟩) l0_1.length co9] 105 (0, 0)) (bR_ BK590.out) hg (Kd.R_ne HO0_1.out BK590.out (by decide))); replace HB := Z_ ((by rw [hw]; exact fE_ (HB.out) GB8.out : Below w0.heap.size w0 w13)); replace HK := Z_ (Kept.of_grown (S := (fun k_ => P0_1_ k_)) hg (by repeat (first | (with_reducible first | exact HK.out | apply Kept.alloc | apply Kept.drewN | apply Kept.drew | refine Kept.setCell ?_ (.inr GW590.out) _) | exact HK.out)) (fun k_ e_ => (HO0_1.out.1 k_ e_))); replace HO0_1 := Z_ (hp_); clear hg hw hp_)); first | go_end0 | ((try simp only [Exit.inBlock, Exit.then]); refine bodyPost_ret (results_none rfl _ _ _) rfl ?_)
   exact ⟨by first | rfl | (simp [errW_none, errW_some] <;> rfl) | (simp only [← hji5]; first | rfl | (simp [errW_none, errW_some] <;> rfl)) | (simp [*, errW_none, errW_some] <;> rfl), rK_ HO0_1.out, hB_, by repeat (first | (with_reducible first | exact HK.out | apply Kept.alloc | apply Kept.drewN | apply Kept.drew | refine Kept.setCell ?_ (.inr GW590.out) _) | exact HK.out)⟩
  rw [if_neg c7] at H; exact absurd H (by simp)
 rw [if_neg c6] at H; exact absurd H (by simp)
def diffs_square_bool_set.f (a0_0 : Int) (l0_1 : List Bool) (a1 : Int) (a2 : Int) (a3 : Bool) : Option (List Bool) := if 0 ≤ (wrap64 ((wrap64 (a1 * a0_0)) + a2)) then (if (wrap64 ((wrap64 (a1 * a0_0)) + a2)) < (l0_1.length : Int) then (some (l0_1.set ((wrap64 ((wrap64 (a1 * a0_0)) + a2)) : Int).toNat a3)) else (none)) else (none)
set_option maxHeartbeats 8000000 in
set_option maxRecDepth 100000 in
theorem diffs_square_bool_set.calls (a0_0 : Int) (P0_1_ : Nat → Prop) (u9000_ : Value) (l0_1 : List Bool) (a1 : Int) (a2 : Int) (a3 : Bool) (r : List Bool) (w0 w : World) (hB : Below w0.heap.size w0 w) (ho0_1 : Kd.R Kd.bool 4 w w0.heap.size P0_1_ u9000_ l0_1) (h : diffs_square_bool_set.f a0_0 l0_1 a1 a2 a3 = some r) :
  Calls Try.prog 87 #[.agg #[.int .i64 a0_0, u9000_], .int .i64 a1, .int .i64 a2, .bool a3] w fun e w' => e = .returned (.tuple #[]) ∧ Kd.R Kd.bool 4 w' w0.heap.size (fun k_ => (P0_1_ k_ ∨ w.heap.size ≤ k_)) u9000_ r ∧ Below w0.heap.size w0 w' ∧ Kept w w' (fun k_ => P0_1_ k_) := by
 have hu107 := Try.underlying107; have HO0_1 := Z_ (show Kd.R Kd.bool 4 w w0.heap.size (fun k_ => (P0_1_ k_ ∨ w.heap.size ≤ k_)) u9000_ l0_1 from rM_ ho0_1 (fun k_ hk => (.inl hk))); have HK := Z_ (Kept.refl w (fun k_ => P0_1_ k_)); have HW0 := Z_ hB.size; have HB := Z_ hB; clear hB; have H : (if 0 ≤ (wrap64 ((wrap64 (a1 * a0_0)) + a2)) then (if (wrap64 ((wrap64 (a1 * a0_0)) + a2)) < (l0_1.length : Int) then (some (l0_1.set ((wrap64 ((wrap64 (a1 * a0_0)) + a2)) : Int).toNat a3)) else (none)) else (none)) = some r := h; clear h; obtain ⟨ji5, hji5⟩ : ∃ j_ : Int, (wrap64 ((wrap64 (a1 * a0_0)) + a2)) = j_ := ⟨_, rfl⟩; replace H : (if 0 ≤ (ji5) then (if (ji5) < (l0_1.length : Int) then (some (l0_1.set ((ji5) : Int).toNat a3)) else (none)) else (none)) = some r := by first | (rw [hji5] at H; exact H) | (simp only [hji5] at H ⊢; exact H)
 have hji5w : (IntKind.i64.wrap ((wrap64 (a1 * a0_0)) + a2)) = ji5 := (i64_w _).trans hji5; by_cases c6 : 0 ≤ (ji5)
 ·rw [if_pos c6] at H
  have c6b0 : decide (0 ≤ (ji5)) = true := eT_ c6; clear c6; by_cases c7 : (ji5) < (l0_1.length : Int)
  ·rw [if_pos c7] at H
   have c7b0 : decide ((ji5) < (l0_1.length : Int)) = true := eT_ c7; clear c7; obtain ⟨y593, hy593⟩ : ∃ y_ : List Bool, y_ = (l0_1.set ((ji5) : Int).toNat a3) := ⟨_, rfl⟩; replace H : (some y593) = some r := by first | (rw [hy593]; with_reducible exact H) | (have H2_ := (oB_ _ _).symm.trans H; rw [hy593]; with_reducible exact H2_) | (have H2_ := (oB_ _ _).symm.trans H; with_reducible exact H2_) | with_reducible exact H | (rw [hy593]; exact H) | exact H
   have Ny593 := Z_ hy593; clear hy593; obtain rfl := oI_ H; obtain ⟨Ao9, co9, eo9⟩ := rS_ HO0_1.out; subst eo9; go_enter Try.func87, Try.ntmps87; go_wp2_with (first | ((with_reducible refine gate_dst (N := 4) rfl ?_); refine bX_ 4 #[.int .i64 a0_0, .slice Ao9 l0_1.length co9] 107 ?_; intro gb592 hg w10 hbox hb; replace HO0_1 := Z_ (rB_ (rK_ HO0_1.out) hb); have BK592 := Z_ (hbox); have GW592 := Z_ ((by rw [hg]; exact (by first | exact HK.out.1 | exact (show Kept w _ (fun k_ => P0_1_ k_) from by repeat (first | (with_reducible first | exact HK.out | apply Kept.alloc | apply Kept.drewN | apply Kept.drew) | exact HK.out)).1) : w.heap.size ≤ gb592)); replace HK := Z_ (Kept.below (S := (fun k_ => P0_1_ k_)) (by repeat (first | (with_reducible first | exact HK.out | apply Kept.alloc | apply Kept.drewN | apply Kept.drew) | exact HK.out)) hb); have GE592 := Z_ ((by rw [hg]; exact (fZ_ hB_) : w0.heap.size ≤ gb592)); replace HB := Z_ (fS_ hB_ hb); clear hb hbox hg; obtain ⟨⟨hcz11_0, hcz11_1⟩, hfz11_0, hfz11_1⟩ := f2_ BK592.out; have p8 : 0 ≤ ((ji5) : Int) := dT_ as_; have q8 : ((ji5) : Int) < ((l0_1.length : Int) : Int) := dT_ as_; obtain ⟨go8, co8, eo8, gb8, gl8, cl8, HG8⟩ := Kd.R_form HO0_1.out (by omega); (first | cases eo8 | (injection eo8 with ea_ en_ ec_; (first | subst ea_ | (injection ea_ with ea_; subst ea_)); subst ec_; clear en_)); have GB8 := Z_ gb8; have GG8 := Z_ HG8; clear gb8 gl8 HG8; have HMgo8 := Z_ (show (P0_1_ go8 ∨ w.heap.size ≤ go8) from (HO0_1.out.1 _ rfl)); obtain ⟨hx8_0, hf8_0⟩ := Kd.R_celln false HO0_1.out ((ji5) : Int) p8 q8; replace p8 := eq_true p8; replace q8 := eq_true q8; obtain ⟨hy12_, hz12_⟩ := Kd.R_celln false HO0_1.out ((ji5) : Int) (dT_ as_) (dT_ as_); have HP12 := Kd.R_putg HO0_1.out ((ji5) : Int) a3) | ((with_reducible refine gate_store (t := 4) (p := 17) rfl ?_); refine store_event (t := 4) (p := 17) (v := ?vo_w13) (w1 := (w10.setCell ⟨go8, ((ji5) : Int).toNat, none⟩ (.bool a3))) ?hg ?ho ?hn ?hr ?_; (case ho => rfl); (case hg => rfl); (case hn => rfl); (case hr => first | (go_simp; done) | (go_simp; rfl)); intro w13 hw; have hg : w10.grownBy w13 (some go8) := (by rw [hw]; exact HP12.2); have hp_ : Kd.R Kd.bool 4 w13 w0.heap.size (fun k_ => (P0_1_ k_ ∨ w.heap.size ≤ k_)) (.slice (some ⟨go8, 0, none⟩) l0_1.length co9) y593 := (by rw [hw, Ny593.out]; exact HP12.1); clear HP12; replace BK592 := Z_ (blk_grown (g := gb592) (o := .cells #[.int .i64 a0_0, .slice (some ⟨go8, 0, none⟩) l0_1.length co9] 107 (0, 0)) (bR_ BK592.out) hg (Kd.R_ne HO0_1.out BK592.out (by decide))); replace HB := Z_ ((by rw [hw]; exact fE_ (HB.out) GB8.out : Below w0.heap.size w0 w13)); replace HK := Z_ (Kept.of_grown (S := (fun k_ => P0_1_ k_)) hg (by repeat (first | (with_reducible first | exact HK.out | apply Kept.alloc | apply Kept.drewN | apply Kept.drew | refine Kept.setCell ?_ (.inr GW592.out) _) | exact HK.out)) (fun k_ e_ => (HO0_1.out.1 k_ e_))); replace HO0_1 := Z_ (hp_); clear hg hw hp_)); first | go_end0 | ((try simp only [Exit.inBlock, Exit.then]); refine bodyPost_ret (results_none rfl _ _ _) rfl ?_)
   exact ⟨by first | rfl | (simp [errW_none, errW_some] <;> rfl) | (simp only [← hji5]; first | rfl | (simp [errW_none, errW_some] <;> rfl)) | (simp [*, errW_none, errW_some] <;> rfl), rK_ HO0_1.out, hB_, by repeat (first | (with_reducible first | exact HK.out | apply Kept.alloc | apply Kept.drewN | apply Kept.drew | refine Kept.setCell ?_ (.inr GW592.out) _) | exact HK.out)⟩
  rw [if_neg c7] at H; exact absurd H (by simp)
 rw [if_neg c6] at H; exact absurd H (by simp)
end Go.Proofs.Ytpolojoeabmhdaa.A
