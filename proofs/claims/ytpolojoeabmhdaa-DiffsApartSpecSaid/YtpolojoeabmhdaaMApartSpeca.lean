import Derived.Test.YtpolojoeabmhdaaMZcoreb
import Derived.Test.YtpolojoeabmhdaaMZcored
import Derived.Test.YtpolojoeabmhdaaMZcoref
import Derived.Test.YtpolojoeabmhdaaMZcoreg
import Derived.Test.YtpolojoeabmhdaaMZcoreh
set_option linter.unusedVariables false
set_option linter.unusedSimpArgs false
/- Numbers that fulfil a net; lists. -/
namespace Go.Proofs.Ytpolojoeabmhdaa.A
open Go.RowKit Go.Proofs.YtpolojoeabmhdaaW.PrintWords Go.Proofs.YtpolojoeabmhdaaW.PrintLast Go.Proofs.YtpolojoeabmhdaaW.PrintMore
theorem rd_cons (x : Int) (xs : List Int) (i : Int) (h : 0 ≤ i) : rd (x :: xs) (i + 1) = rd xs i := by
  unfold rd
  rw [show (i + 1).toNat = i.toNat + 1 from by omega]
  rfl
theorem rd_mem {l : List Int} {i : Int} (h0 : 0 ≤ i) (h1 : i < l.length) : rd l i ∈ l := by
  unfold rd
  rw [List.getD_eq_getElem?_getD, List.getElem?_eq_getElem (by omega)]; exact List.getElem_mem _
theorem mem_rd {l : List Int} {x : Int} (h : x ∈ l) : ∃ i : Int, 0 ≤ i ∧ i < l.length ∧ rd l i = x := by
  obtain ⟨i, hi, rfl⟩ := List.getElem_of_mem h
  refine ⟨i, by omega, by omega, ?_⟩
  unfold rd
  rw [List.getD_eq_getElem?_getD, Int.toNat_natCast, List.getElem?_eq_getElem hi]; rfl
theorem take_snoc {α : Type} (l : List α) (i : Nat) (h : i < l.length) : l.take (i + 1) = l.take i ++ [l[i]] := by
  rw [List.take_add_one, List.getElem?_eq_getElem h]; rfl
theorem chain_len (L : List S39) (la : List Int) : ∀ c v, (chain L la c v).length = c
  | 0, _ => rfl
  | c + 1, v => by simp [chain, chain_len L la c]
theorem edges_mem {n : Int} {D : List S39} (hE : EdgesOk n D) : ∀ d ∈ D, EdgeOk n d := fun d hd => by
  obtain ⟨i, hi, rfl⟩ := List.getElem_of_mem hd
  have := hE i (by omega) (by omega)
  unfold rd_T39 at this
  rw [List.getD_eq_getElem?_getD, Int.toNat_natCast, List.getElem?_eq_getElem hi] at this
  exact this
structure Asg (L : List S39) (x : Int → Int) : Prop where
  z : x 0 = 0
  p : Pot L x
def EC (n : Int) (x : List Int) (d : S39) : Prop := 0 ≤ d.f0 ∧ d.f0 < n ∧ 0 ≤ d.f1 ∧ d.f1 < n ∧ rd x d.f1 - rd x d.f0 ≤ d.f2
structure Ful (n : Int) (L : List S39) (x : List Int) : Prop where
  l : (x.length : Int) = n
  n0 : 0 < n
  z : rd x 0 = 0
  b : ∀ v, 0 ≤ v → v < n → -1099511627776 ≤ rd x v ∧ rd x v ≤ 1099511627776
  e : ∀ k, 0 ≤ k → k < (L.length : Int) → EC n x (rd_T39 L k)
theorem Ful.asg {n : Int} {L : List S39} {x : List Int} (h : Ful n L x) : Asg L (rd x) := ⟨h.z, fun k k0 k1 => (h.e k k0 k1).2.2.2.2⟩
section
variable {n : Nat} {D L : List S39}
theorem hmul (hV : Valid n D) : (n : Int) * D.length ≤ 1048576 := by
  have h1 := hV.n2
  have h2 := hV.l
  have := Int.mul_le_mul (a := (n : Int)) (b := D.length) (c := 256) (d := 4096) (by omega) (by omega) (by omega) (by omega)
  omega
theorem wk_bound {n : Int} {L : List S39} (hE : EdgesOk n L) : ∀ {u : Int} {l : List Int} {v W : Int}, Wk L u l v W → -(l.length * 1073741824) ≤ W ∧ W ≤ l.length * 1073741824
  | u, [], v, W, h => by
    obtain ⟨_, rfl⟩ := h
    simp
  | u, i :: is, v, W, h => by
    obtain ⟨⟨i0, i1⟩, _, h2⟩ := h
    have := wk_bound hE h2
    have hd := hE i i0 i1
    have := hd.e
    have := hd.f
    rw [List.length_cons]
    push_cast
    omega
theorem chain_len' (L : List S39) (la : List Int) (c : Nat) (v : Int) : (chain L la c v).length = c := chain_len L la c v
theorem solve_ful {L : List S39} (hn0 : 0 < n) (hn : n ≤ 256) (hE : EdgesOk n L) (hm : (n : Int) * L.length ≤ 1048576) (hs : Solv L) : ∃ (x : List Int) (s : Sg), Ev (fun k => diffs_solve.f k n L) (x, s.lo, s.ha, s.la, -1) ∧ Ful n L x := by
  obtain ⟨x, s, bad, h1, h2, h3, h4, h5⟩ := solve_ev hn0 (by omega) hE hm
  have ha : ∀ v, 0 ≤ v → v < (n : Int) → v ∈ allL n := fun v a b => mem_allL.2 ⟨a, b⟩
  have hb := (h2.bad_iff hE ha).2 hs
  subst hb
  obtain ⟨l1, l2⟩ := h4 rfl
  obtain ⟨y, hy⟩ := hs
  have hf := (h2.good hE hy).2
  have bd : ∀ v, 0 ≤ v → v < (n : Int) → -274877906944 ≤ rd s.lo v ∧ rd s.lo v ≤ 274877906944 := fun v v0 v1 => by
    obtain ⟨c, hc⟩ := h2.tree hE hf v0 v1 (h2.all_has ha v0 v1)
    have := wk_bound hE hc.walk
    rw [List.length_reverse, chain_len'] at this
    have := hc.few
    omega
  refine ⟨x, s, h3, by omega, by omega, ?_, fun v v0 v1 => ?_, fun k k0 k1 => ?_⟩
  · rw [l2 0 (by omega) (by omega)]; omega
  · rw [l2 v v0 v1]
    have := bd v v0 v1
    have := bd 0 (by omega) (by omega)
    omega
  · have he := hE k k0 k1
    have hp := h2.pot hE ha rfl k k0 k1
    refine ⟨he.a, he.b, he.c, he.g, ?_⟩
    rw [l2 _ he.c he.g, l2 _ he.a he.b]
    omega
structure NumOk (n : Int) (x : List Int) : Prop where
  l : (x.length : Int) = n
  b : ∀ v, 0 ≤ v → v < n → -1099511627776 ≤ rd x v ∧ rd x v ≤ 1099511627776
theorem Ful.num {n : Int} {L : List S39} {x : List Int} (h : Ful n L x) : NumOk n x := ⟨h.l, h.b⟩
theorem Ful.solv {m : Int} {x : List Int} (h : Ful m L x) : Solv L := ⟨_, h.asg.p⟩
end
end Go.Proofs.Ytpolojoeabmhdaa.A
/- Rows of indices, walks, a list turned round. -/
namespace Go.Proofs.Ytpolojoeabmhdaa.A
open Go.RowKit Go.Proofs.YtpolojoeabmhdaaW.PrintWords Go.Proofs.YtpolojoeabmhdaaW.PrintLast Go.Proofs.YtpolojoeabmhdaaW.PrintMore
theorem rd_ext {l m : List Int} (h : l.length = m.length) (hr : ∀ v, 0 ≤ v → v < (l.length : Int) → rd l v = rd m v) : l = m := by
  refine List.ext_getElem h (fun i h1 h2 => ?_)
  have := hr i (by omega) (by omega)
  unfold rd at this
  rw [List.getD_eq_getElem?_getD, List.getD_eq_getElem?_getD, show ((i : Nat) : Int).toNat = i from by omega, List.getElem?_eq_getElem h1, List.getElem?_eq_getElem h2] at this
  exact this
theorem rd_reverse (l : List Int) {v : Int} (h0 : 0 ≤ v) (h1 : v < l.length) : rd l.reverse v = rd l (l.length - 1 - v) := by
  unfold rd
  rw [List.getD_eq_getElem?_getD, List.getD_eq_getElem?_getD, List.getElem?_reverse (by omega)]
  congr 2
  omega
theorem reverse_l0 (l : List Int) (hl : l.length ≤ 65536) : ∀ (q : Nat) (i : Int) (s : List Int), (l.length : Int) - 2 * i ≤ 2 * (q : Int) → 0 ≤ i → s.length = l.length → (∀ v, 0 ≤ v → v < (l.length : Int) → rd s v = if v < i ∨ (l.length : Int) - 1 - i < v then rd l (l.length - 1 - v) else rd l v) →
    Ev (fun k => slices_Reverse_int_int.l0 k s i (l.length - 1 - i)) l.reverse := by
  intro q
  have fin : ∀ (i : Int) (s : List Int), 0 ≤ i → ¬ i < (l.length : Int) - 1 - i → s.length = l.length → (∀ v, 0 ≤ v → v < (l.length : Int) → rd s v = if v < i ∨ (l.length : Int) - 1 - i < v then rd l (l.length - 1 - v) else rd l v) → s = l.reverse := by
    intro i s hi hc hs hz
    refine rd_ext (by rw [List.length_reverse]; exact hs) (fun v v0 v1 => ?_)
    rw [rd_reverse l v0 (by omega), hz v v0 (by omega)]
    split
    · rfl
    · rw [show (l.length : Int) - 1 - v = v from by omega]
  induction q with
  | zero =>
    intro i s hq hi hs hz
    rw [← fin i s hi (by omega) hs hz]
    exact Ev.step (f := fun _ => some s) (fun k => by rw [slices_Reverse_int_int.l0, if_neg (by omega)]) (Ev.now _)
  | succ q ih =>
    intro i s hq hi hs hz
    by_cases hc : i < (l.length : Int) - 1 - i
    case neg =>
      rw [← fin i s hi hc hs hz]
      exact Ev.step (f := fun _ => some s) (fun k => by rw [slices_Reverse_int_int.l0, if_neg (by omega)]) (Ev.now _)
    refine Ev.step (fun k => ?_) (ih (i + 1) ((s.set i.toNat (rd s (l.length - 1 - i))).set ((l.length : Int) - 1 - i).toNat (rd s i)) (by omega) (by omega) (by rw [List.length_set, List.length_set]; exact hs) (fun v v0 v1 => ?_))
    · rw [slices_Reverse_int_int.l0, if_pos hc, if_pos (by omega), if_pos (by omega), if_pos (by omega), if_pos (by omega), wrap_id (x := i + 1) (by omega) (by omega), wrap_id (x := (l.length : Int) - 1 - i - 1) (by omega) (by omega), show (l.length : Int) - 1 - i - 1 = (l.length : Int) - 1 - (i + 1) from by omega]
    · have ei : rd s i = rd l i := by rw [hz i hi (by omega), if_neg (by omega)]
      have ej : rd s ((l.length : Int) - 1 - i) = rd l ((l.length : Int) - 1 - i) := by rw [hz ((l.length : Int) - 1 - i) (by omega) (by omega), if_neg (by omega)]
      rw [rd_set _ _ _ _ (by omega) (by rw [List.length_set]; omega) v0, rd_set _ _ _ _ hi (by omega) v0, ei, ej, hz v v0 v1]
      by_cases e1 : v = (l.length : Int) - 1 - i
      · rw [if_pos e1, if_pos (by omega), show (l.length : Int) - 1 - v = i from by omega]
      · rw [if_neg e1]
        by_cases e2 : v = i
        · rw [if_pos e2, if_pos (by omega), e2]
        · rw [if_neg e2]
          by_cases e3 : v < i ∨ (l.length : Int) - 1 - i < v
          · rw [if_pos e3, if_pos (by omega)]
          · rw [if_neg e3, if_neg (by omega)]
theorem reverse_ev (l : List Int) (hl : l.length ≤ 65536) : Ev (fun k => slices_Reverse_int_int.f k l) l.reverse := by
  have := reverse_l0 l hl l.length 0 l (by omega) (by omega) rfl (fun v v0 v1 => by rw [if_neg (by omega)])
  unfold slices_Reverse_int_int.f
  rw [wrap_id (by omega) (by omega)]
  rw [Int.sub_zero] at this
  exact this
section
variable {n : Nat} {L : List S39}
def Idx (L : List S39) (l : List Int) : Prop := ∀ i, 0 ≤ i → i < (l.length : Int) → 0 ≤ rd l i ∧ rd l i < (L.length : Int)
theorem indices_iff {n : Int} {l : List Int} : ∃ b, diffs_indices.f n L l = some b ∧ (b = true ↔ Idx L l) := by
  refine ⟨_, rfl, ?_⟩
  rw [List.all_eq_true]
  constructor
  · intro h i i0 i1
    have := h (rd l i) (rd_mem i0 i1)
    simp [in_] at this
    omega
  · intro h x hx
    obtain ⟨i, i0, i1, rfl⟩ := mem_rd hx
    have := h i i0 i1
    simp [in_]
    omega
theorem walk_l0 (hE : EdgesOk n L) {l : List Int} (hi : Idx L l) (hl : l.length ≤ 17592186044416) (tt N : Int) : ∀ (q : Nat) (i at_ acc : Int), (q : Int) + i = l.length → 0 ≤ i → (l.length ≤ 65536 → -(i * 1073741824) ≤ acc ∧ acc ≤ i * 1073741824) →
    ∃ W b, Ev (fun k => diffs_walk.l0 k at_ tt acc l l.length i N L) (W, b) ∧ (b = true → ∃ W', Wk L at_ (l.drop i.toNat) tt W' ∧ (l.length ≤ 65536 → W' = W - acc)) ∧ (b = false → ∀ W', ¬ Wk L at_ (l.drop i.toNat) tt W') := by
  intro q
  induction q with
  | zero =>
    intro i at_ acc hq h0 h1
    rw [List.drop_eq_nil_of_le (by omega)]
    refine ⟨acc, (at_ == tt), Ev.step (f := fun _ => some (acc, (at_ == tt))) (fun k => by rw [diffs_walk.l0, if_neg (by omega)]) (Ev.now _), fun h => ⟨0, ⟨(beq_iff_eq.mp h).symm, rfl⟩, fun _ => by omega⟩, fun h W' hW => ?_⟩
    rw [hW.1] at h
    simp at h
  | succ q ih =>
    intro i at_ acc hq h0 h1
    have hlt : i < (l.length : Int) := by omega
    have hx := hi i h0 hlt
    have hd := hE _ hx.1 hx.2
    have d1 := hd.e
    have d2 := hd.f
    rw [drop_rd l i h0 hlt]
    by_cases hc : (rd_T39 L (rd l i)).f0 = at_
    · have hacc : l.length ≤ 65536 → wrap64 (acc + (rd_T39 L (rd l i)).f2) = acc + (rd_T39 L (rd l i)).f2 := fun hs => by
        have := h1 hs
        exact wrap_id (by omega) (by omega)
      obtain ⟨W, b, g1, g2, g3⟩ := ih (i + 1) (rd_T39 L (rd l i)).f1 (wrap64 (acc + (rd_T39 L (rd l i)).f2)) (by omega) (by omega) (fun hs => by rw [hacc hs]; have := h1 hs; omega)
      refine ⟨W, b, Ev.step (fun k => ?_) g1, fun hb => ?_, fun hb W' hW => g3 hb _ hW.2.2⟩
      · rw [diffs_walk.l0, if_pos hlt, if_pos h0, if_pos hlt, if_pos hx.1, if_pos hx.2, if_pos hc, wrap_id (x := i + 1) (by omega) (by omega)]
      · obtain ⟨W', w1, w2⟩ := g2 hb
        refine ⟨W' + (rd_T39 L (rd l i)).f2, ⟨hx, hc, ?_⟩, fun hs => ?_⟩
        · rw [show W' + (rd_T39 L (rd l i)).f2 - (rd_T39 L (rd l i)).f2 = W' from by omega]
          exact w1
        · have := w2 hs
          rw [hacc hs] at this
          omega
    · exact ⟨0, false, Ev.step (f := fun _ => some (0, false)) (fun k => by rw [diffs_walk.l0, if_pos hlt, if_pos h0, if_pos hlt, if_pos hx.1, if_pos hx.2, if_neg hc]) (Ev.now _), fun h => (by cases h), fun _ W' hW => hc hW.2.1⟩
theorem walk_ev (hE : EdgesOk n L) {l : List Int} (hi : Idx L l) (hl : l.length ≤ 17592186044416) (N u v : Int) : ∃ W b, Ev (fun k => diffs_walk.f k N L u v l) (W, b) ∧ (b = true → ∃ W', Wk L u l v W' ∧ (l.length ≤ 65536 → W' = W)) ∧ (b = false → ∀ W', ¬ Wk L u l v W') := by
  obtain ⟨W, b, h1, h2, h3⟩ := walk_l0 hE hi hl v N l.length 0 u 0 (by omega) (by omega) (by omega)
  rw [Int.sub_zero] at h2
  exact ⟨W, b, h1, h2, h3⟩
theorem Wk.unique : ∀ {l : List Int} {u v W W' : Int}, Wk L u l v W → Wk L u l v W' → W = W'
  | [], u, v, W, W', h, h' => by rw [h.2, h'.2]
  | i :: is, u, v, W, W', h, h' => by
    have := Wk.unique h.2.2 h'.2.2
    omega
end
/-- An answer in numbers: 1, 43 or 0. -/
structure Code (A P : Prop) (e : Int) : Prop where
  arg : ¬ A → e = 1
  no : A → ¬ P → e = 43
  yes : A → P → e = 0
theorem Code.unique {A P : Prop} {e e' : Int} (h : Code A P e) (h' : Code A P e') : e = e' := by
  by_cases a : A
  · by_cases p : P
    · rw [h.yes a p, h'.yes a p]
    · rw [h.no a p, h'.no a p]
  · rw [h.arg a, h'.arg a]
theorem Code.zero {A P : Prop} {e : Int} (h : Code A P e) (hp : P → A) : e = 0 ↔ P := by
  constructor
  · intro he
    apply Classical.byContradiction
    intro p
    by_cases a : A
    · have := h.no a p; omega
    · have := h.arg a; omega
  · intro p
    exact h.yes (hp p) p
end Go.Proofs.Ytpolojoeabmhdaa.A
/- Clash and CheckClash: what they answer. -/
namespace Go.Proofs.Ytpolojoeabmhdaa.A
open Go.RowKit Go.Proofs.YtpolojoeabmhdaaW.PrintWords Go.Proofs.YtpolojoeabmhdaaW.PrintLast Go.Proofs.YtpolojoeabmhdaaW.PrintMore
theorem least (P : Nat → Prop) : ∀ n, P n → ∃ c, P c ∧ ∀ d, d < c → ¬ P d := by
  intro n
  induction n using Nat.strongRecOn with
  | ind n ih =>
    intro h
    by_cases hd : ∃ d, d < n ∧ P d
    · obtain ⟨d, d1, d2⟩ := hd
      exact ih d d1 d2
    · exact ⟨n, h, fun d d1 d2 => hd ⟨d, d1, d2⟩⟩
theorem rd_chain (L : List S39) (la : List Int) : ∀ (c : Nat) (v : Int) (i : Nat), i < c → rd (chain L la c v) i = rd la (it L la i v)
  | c + 1, v, 0, _ => rfl
  | c + 1, v, i + 1, h => by
    have := rd_chain L la c (bk L la v) i (by omega)
    rw [chain, show (((i + 1 : Nat)) : Int) = (i : Int) + 1 from by omega, rd_cons _ _ _ (by omega), this]
    rfl
theorem chain_snoc (L : List S39) (la : List Int) : ∀ (c : Nat) (v : Int), chain L la (c + 1) v = chain L la c v ++ [rd la (it L la c v)]
  | 0, v => rfl
  | c + 1, v => by
    rw [chain, chain_snoc L la c (bk L la v)]
    rfl
theorem it_succ (L : List S39) (la : List Int) (c : Nat) (v : Int) : it L la (c + 1) v = bk L la (it L la c v) := by
  rw [it_add L la c 1 v]; rfl
section
variable {n : Nat} {L : List S39}
/-- The start of the difference i of a row. -/
abbrev st (L : List S39) (l : List Int) (i : Int) : Int := (rd_T39 L (rd l i)).f0
structure ClashIs (n : Nat) (L : List S39) (l : List Int) : Prop where
  i : Idx L l
  n0 : 0 < l.length
  n1 : (l.length : Int) ≤ n
  d : ∀ i j : Int, 0 ≤ i → i < j → j < l.length → st L l i ≠ st L l j
  w : ∃ W, W < 0 ∧ Wk L (st L l 0) l (st L l 0) W
theorem cclash_l0 (hE : EdgesOk n L) {l : List Int} (hi : Idx L l) (h0 : 0 < l.length) (hn : (l.length : Int) ≤ n) (hn2 : n ≤ 256) (N : Int) : ∀ (q : Nat) (i : Int) (s : List Bool), (q : Int) + i = l.length → 0 ≤ i → s.length = n → (∀ v, 0 ≤ v → v < (n : Int) → (rdOf false s v = true ↔ ∃ j, 0 ≤ j ∧ j < i ∧ st L l j = v)) → (∀ a b, 0 ≤ a → a < b → b < i → st L l a ≠ st L l b) →
    ∃ e, Ev (fun k => diffs_CheckClash.l0 k l s l l.length i N L) e ∧ (ClashIs n L l → e = 0) ∧ (¬ ClashIs n L l → e = 43) := by
  intro q
  induction q with
  | zero =>
    intro i s hq hi0 hs hz hd
    have x0 := hi 0 (by omega) (by omega)
    obtain ⟨W, b, g1, g2, g3⟩ := walk_ev hE hi (by omega) N (st L l 0) (st L l 0)
    have hin : ∀ {e}, Ev (fun k => if b = true then diffs_CheckClash.j2 k (decide (W ≥ 0)) else diffs_CheckClash.j2 k true) e → Ev (fun k => diffs_CheckClash.l0 k l s l l.length i N L) e := fun h =>
      Ev.step (f := fun k => (diffs_walk.f k N L (st L l 0) (st L l 0) l).bind fun t => if t.2 = true then diffs_CheckClash.j2 k (decide (t.1 ≥ 0)) else diffs_CheckClash.j2 k true) (fun k => by rw [diffs_CheckClash.l0, if_neg (by omega), if_pos (by omega), if_pos x0.1, if_pos x0.2]) (g1.bind h)
    have hT : Ev (fun k => diffs_CheckClash.j2 k true) 43 := Ev.step (f := fun _ => some 43) (fun k => by rw [diffs_CheckClash.j2]; rfl) (Ev.now _)
    cases b with
    | false => exact ⟨43, hin (Ev.neg (by decide) hT), fun h => by
        obtain ⟨W', _, h2⟩ := h.w
        exact absurd h2 (g3 rfl _), fun _ => rfl⟩
    | true =>
      obtain ⟨W', w1, w2⟩ := g2 rfl
      obtain rfl := w2 (by omega)
      by_cases hW : W' ≥ 0
      · refine ⟨43, hin (Ev.pos rfl ?_), fun h => ?_, fun _ => rfl⟩
        · rw [decide_eq_true hW]; exact hT
        · obtain ⟨W', h1, h2⟩ := h.w
          have := w1.unique h2
          omega
      · refine ⟨0, hin (Ev.pos rfl ?_), fun _ => rfl, fun h => absurd ⟨hi, h0, hn, fun a b a0 ab b1 => hd a b a0 ab (by omega), _, by omega, w1⟩ h⟩
        rw [decide_eq_false hW]
        exact Ev.step (f := fun _ => some 0) (fun k => by rw [diffs_CheckClash.j2]; rfl) (Ev.now _)
  | succ q ih =>
    intro i s hq hi0 hs hz hdd
    have hlt : i < (l.length : Int) := by omega
    have hx := hi i hi0 hlt
    have hd := hE _ hx.1 hx.2
    have d1 := hd.a
    have d2 := hd.b
    by_cases hc : rdOf false s (st L l i) = true
    · refine ⟨43, Ev.step (f := fun _ => some 43) (fun k => ?_) (Ev.now _), fun h => ?_, fun _ => rfl⟩
      · rw [diffs_CheckClash.l0, if_pos hlt, if_pos hi0, if_pos hlt, if_pos hx.1, if_pos hx.2, if_pos d1, if_pos (by omega), if_pos hc]
      · obtain ⟨j, j0, j1, j2⟩ := (hz _ d1 d2).1 hc
        exact absurd j2 (h.d j i j0 j1 hlt)
    · obtain ⟨e, g1, g2⟩ := ih (i + 1) (s.set (st L l i).toNat true) (by omega) (by omega) (by rw [List.length_set]; exact hs) (fun v v0 v1 => by
        rw [rdOf_set _ _ _ _ _ d1 (by omega) v0]
        by_cases ev : v = st L l i
        · rw [if_pos ev]
          exact ⟨fun _ => ⟨i, hi0, by omega, ev.symm⟩, fun _ => rfl⟩
        · rw [if_neg ev, hz v v0 v1]
          constructor
          · rintro ⟨j, j0, j1, j2⟩; exact ⟨j, j0, by omega, j2⟩
          · rintro ⟨j, j0, j1, j2⟩
            exact ⟨j, j0, by
              by_cases e : j = i
              · rw [e] at j2; exact absurd j2.symm ev
              · omega, j2⟩) (fun a b a0 ab b1 => by
        by_cases e : b = i
        · intro h2
          rw [e] at h2
          exact hc ((hz _ d1 d2).2 ⟨a, a0, by omega, h2⟩)
        · exact hdd a b a0 ab (by omega))
      refine ⟨e, Ev.step (fun k => ?_) g1, g2⟩
      rw [diffs_CheckClash.l0, if_pos hlt, if_pos hi0, if_pos hlt, if_pos hx.1, if_pos hx.2, if_pos d1, if_pos (by omega), if_neg hc, wrap_id (x := i + 1) (by omega) (by omega)]
theorem cclash_ev (hV : Valid n L) (l : List Int) : ∃ e, Ev (fun k => diffs_CheckClash.f k n L l) e ∧ Code (Idx L l) (ClashIs n L l) e := by
  have hn1 := hV.n1
  have hn2 := hV.n2
  obtain ⟨b, b1, b2⟩ := indices_iff (n := (n : Int)) (L := L) (l := l)
  have hask := asked_ev n L [b] (by simp)
  rw [if_pos (validB_iff.2 hV)] at hask
  unfold diffs_CheckClash.f
  rw [b1]
  simp only [Option.bind_some]
  cases b with
  | false => exact ⟨1, hask.bind (Ev.neg (by decide) (Ev.now _)), fun _ => rfl, fun h => absurd (b2.2 h) (by decide), fun h => absurd (b2.2 h) (by decide)⟩
  | true =>
    have hi := b2.1 rfl
    have hT : Ev (fun k => diffs_CheckClash.j0 k l true n L) 43 := Ev.step (f := fun _ => some 43) (fun k => by rw [diffs_CheckClash.j0]; rfl) (Ev.now _)
    by_cases c1 : (l.length : Int) = 0
    · exact ⟨43, hask.bind (Ev.pos (by decide) (Ev.pos c1 hT)), fun h => absurd hi h, fun _ _ => rfl, fun _ h => by have := h.n0; omega⟩
    by_cases c2 : (l.length : Int) > n
    · refine ⟨43, hask.bind (Ev.pos (by decide) (Ev.neg c1 ?_)), fun h => absurd hi h, fun _ _ => rfl, fun _ h => by have := h.n1; omega⟩
      rw [decide_eq_true c2]; exact hT
    · obtain ⟨e, g1, g2, g3⟩ := cclash_l0 hV.e hi (by omega) (by omega) (by omega) n l.length 0 (List.replicate (n : Int).toNat false) (by omega) (by omega) (by rw [List.length_replicate]; omega) (fun v v0 v1 => by
        constructor
        · intro h
          unfold rdOf at h
          rw [List.getD_eq_getElem?_getD, List.getElem?_replicate] at h
          split at h <;> simp at h
        · rintro ⟨j, j0, j1, _⟩; omega) (fun a b a0 ab b1 => by omega)
      refine ⟨e, hask.bind (Ev.pos (by decide) (Ev.neg c1 ?_)), fun h => absurd hi h, fun _ h => g3 h, fun _ h => g2 h⟩
      rw [decide_eq_false c2]
      exact Ev.step (fun k => by rw [diffs_CheckClash.j0, if_neg (by decide), if_pos (by omega), if_pos (by omega)]) g1
theorem cclash_bad {m : Int} (hv : ¬ validB m L = true) (l : List Int) : Ev (fun k => diffs_CheckClash.f k m L l) 40 := by
  obtain ⟨b, b1, _⟩ := indices_iff (n := m) (L := L) (l := l)
  have hask := asked_ev m L [b] (by simp)
  rw [if_neg hv] at hask
  unfold diffs_CheckClash.f
  rw [b1]
  simp only [Option.bind_some]
  exact hask.bind (Ev.neg (by decide) (Ev.now _))
theorem clash_bad {m : Int} (hv : ¬ validB m L = true) : Ev (fun k => diffs_Clash.f k m L) ([], false, 40) := by
  have hc := check_ev m L
  rw [if_neg hv] at hc
  unfold diffs_Clash.f
  exact hc.bind (Ev.neg (by decide) (Ev.now _))
theorem ClashIs.no {l : List Int} (h : ClashIs n L l) : ¬ Solv L := fun ⟨x, hx⟩ => by
  obtain ⟨W, w1, w2⟩ := h.w
  have := hx.walk w2
  omega
/-- The way back round, from a node on it. -/
theorem clash_l0 {la : List Int} (hla : la.length = n) (hn : n ≤ 256) {v : Int} {c : Nat} (hc : 0 < c) (hcn : (c : Int) ≤ n) (hg : Goes L la c v) (he : it L la c v = v) (hmin : ∀ d, 0 < d → d < c → it L la d v ≠ v) (hnode : ∀ i, i ≤ c → 0 ≤ it L la i v ∧ it L la i v < n) (hidx : ∀ i, i < c → 0 ≤ rd la (it L la i v) ∧ rd la (it L la i v) < (L.length : Int)) (N : Int) (lo : List Int) (ha : List Bool) : ∀ (q i : Nat), q + i + 1 = c →
    Ev (fun k => diffs_Clash.l0 k v (chain L la i v) (it L la i v) N L lo ha la) ((chain L la c v).reverse, true, 0) := by
  have hstep : ∀ i : Nat, i < c → ∀ {r : List Int × Bool × Int}, Ev (fun k => if it L la (i + 1) v = v then ((slices_Reverse_int_int.f k (chain L la (i + 1) v)).bind fun t => some (t, true, 0)) else diffs_Clash.l0 k v (chain L la (i + 1) v) (it L la (i + 1) v) N L lo ha la) r → Ev (fun k => diffs_Clash.l0 k v (chain L la i v) (it L la i v) N L lo ha la) r := fun i hi r h => by
    have hx := hidx i hi
    have hy := hnode i (by omega)
    refine Ev.step (fun k => ?_) h
    rw [diffs_Clash.l0, if_pos hy.1, if_pos (by omega), if_pos (by rw [chain_len L la]; omega), Option.bind_some, if_pos hx.1, if_pos hx.2, chain_snoc, it_succ]
    rfl
  intro q
  induction q with
  | zero =>
    intro i hi
    obtain rfl : c = i + 1 := by omega
    refine hstep i (by omega) (Ev.pos he ((reverse_ev _ (by rw [chain_len L la]; omega)).bind (Ev.now _)))
  | succ q ih =>
    intro i hi
    exact hstep i (by omega) (Ev.neg (hmin (i + 1) (by omega) (by omega)) (ih (i + 1) (by omega)))
theorem clash_ev (hV : Valid n L) (hs : ¬ Solv L) : ∃ r, Ev (fun k => diffs_Clash.f k n L) (r, true, 0) ∧ ClashIs n L r := by
  have hn0 : 0 < n := by have := hV.n1; omega
  have hn : n ≤ 256 := by have := hV.n2; omega
  have hc := check_ev n L
  rw [if_pos (validB_iff.2 hV)] at hc
  obtain ⟨x, s, bad, h1, h2, h3, h4, h5⟩ := solve_ev hn0 (by omega) hV.e (hmul hV)
  have hb : ¬ bad = -1 := fun e => hs ((h2.bad_iff hV.e (fun v a b => mem_allL.2 ⟨a, b⟩)).1 e)
  rcases h2.res with ⟨a, _⟩ | ⟨hbad, hr⟩
  · exact absurd a hb
  obtain ⟨v0, v1, hex⟩ := hr
  obtain ⟨c', hc'⟩ := hex
  obtain ⟨c, ⟨c0, cg, ce⟩, hmin⟩ := least (fun c => 0 < c ∧ Goes L s.la c bad ∧ it L s.la c bad = bad) c' hc'
  obtain ⟨b, T, _, _, hB⟩ := h2.bf
  have l3 := hB.l3
  obtain ⟨W, w1, w2⟩ := hB.round hV.e v0 v1 cg c0 ce
  have hnode : ∀ i, i ≤ c → 0 ≤ it L s.la i bad ∧ it L s.la i bad < n := fun i hi => hB.it_node hV.e i v0 v1 (goes_le cg hi)
  have hidx : ∀ i, i < c → 0 ≤ rd s.la (it L s.la i bad) ∧ rd s.la (it L s.la i bad) < (L.length : Int) := fun i hi => by
    have hg := (goes_add L s.la i 1 bad).1 (goes_le cg (by omega))
    have hp := hg.2.1
    have hy := hnode i (by omega)
    have := hB.p _ hy.1 hy.2 (hB.la_pos hy.1 hy.2 hp)
    exact ⟨this.1, this.2.1⟩
  have hmin' : ∀ d, 0 < d → d < c → it L s.la d bad ≠ bad := fun d d0 d1 e => hmin d d1 ⟨d0, goes_le cg (by omega), e⟩
  have hne : ∀ i j : Nat, 1 ≤ i → i < j → j ≤ c → it L s.la i bad ≠ it L s.la j bad := fun i j i1 ij jc e => by
    have e1 : it L s.la (j + (c - j)) bad = it L s.la (i + (c - j)) bad := by rw [it_add, it_add, e]
    rw [show j + (c - j) = c from by omega, ce] at e1
    exact hmin' (i + (c - j)) (by omega) (by omega) e1.symm
  have hcn : (c : Int) ≤ n := by
    by_cases h : c ≤ n
    · omega
    · obtain ⟨i, j, ij, jn, e⟩ := pigeon n (fun i => it L s.la (i + 1) bad) (fun i hi => hnode (i + 1) (by omega))
      exact absurd e (hne (i + 1) (j + 1) (by omega) (by omega) (by omega))
  have hlen : (chain L s.la c bad).reverse.length = c := by rw [List.length_reverse, chain_len L s.la]
  have hrd : ∀ i : Int, 0 ≤ i → i < c → rd (chain L s.la c bad).reverse i = rd s.la (it L s.la (c - 1 - i.toNat) bad) := fun i i0 i1 => by
    rw [rd_reverse _ i0 (by rw [chain_len L s.la]; omega), chain_len L s.la, show (c : Int) - 1 - i = ((c - 1 - i.toNat : Nat) : Int) from by omega, rd_chain L s.la c bad _ (by omega)]
  have hst : ∀ i : Int, 0 ≤ i → i < c → st L (chain L s.la c bad).reverse i = it L s.la (c - i.toNat) bad := fun i i0 i1 => by
    unfold st
    rw [hrd i i0 i1, show c - i.toNat = (c - 1 - i.toNat) + 1 from by omega, it_succ]
    rfl
  refine ⟨(chain L s.la c bad).reverse, ?_, fun i i0 i1 => ?_, by omega, by omega, fun i j i0 ij j1 => ?_, W, w1, ?_⟩
  · unfold diffs_Clash.f
    refine hc.bind (Ev.pos rfl (h3.bind (Ev.neg (by simp only; omega) ?_)))
    exact clash_l0 (by omega) hn c0 hcn cg ce hmin' hnode hidx n s.lo s.ha (c - 1) 0 (by omega)
  · rw [hlen] at i1
    rw [hrd i i0 i1]
    exact hidx _ (by omega)
  · rw [hlen] at j1
    rw [hst i i0 (by omega), hst j (by omega) j1]
    exact fun e => hne (c - j.toNat) (c - i.toNat) (by omega) (by omega) (by omega) e.symm
  · rw [hst 0 (by omega) (by omega), show c - (0 : Int).toNat = c from by simp, ce]
    exact w2
theorem clash_no (hV : Valid n L) (hs : Solv L) : Ev (fun k => diffs_Clash.f k n L) ([], false, 0) := by
  have hn0 : 0 < n := by have := hV.n1; omega
  have hn : n ≤ 256 := by have := hV.n2; omega
  have hc := check_ev n L
  rw [if_pos (validB_iff.2 hV)] at hc
  obtain ⟨x, s, bad, h1, h2, h3, h4, h5⟩ := solve_ev hn0 (by omega) hV.e (hmul hV)
  have hb := (h2.bad_iff hV.e (fun v a b => mem_allL.2 ⟨a, b⟩)).2 hs
  unfold diffs_Clash.f
  exact hc.bind (Ev.pos rfl (h3.bind (Ev.pos (by simp only; omega) (Ev.now _))))
end
end Go.Proofs.Ytpolojoeabmhdaa.A
namespace Go.Proofs.Ytpolojoeabmhdaa.A
open Go.RowKit Go.Proofs.YtpolojoeabmhdaaW.PrintWords Go.Proofs.YtpolojoeabmhdaaW.PrintLast Go.Proofs.YtpolojoeabmhdaaW.PrintMore
attribute [local go_sem] max2_int min2_int max_two min_two max_three min_three max_four min_four
def snowlineref04_node.f (a0 : Int) (a1 : Int) : Option (Bool) := if a0 ≥ 0 then (some (decide (a0 < a1))) else (some false)
set_option maxHeartbeats 8000000 in
set_option maxRecDepth 100000 in
theorem snowlineref04_node.calls (a0 : Int) (a1 : Int) (r : Bool) (w : World) (h : snowlineref04_node.f a0 a1 = some r) :
  Calls Try.prog 96 #[.int .i64 a0, .int .i64 a1] w fun e w' => e = .returned (.bool r) ∧ Drawn0 w w' := by
 have H : (if a0 ≥ 0 then (some (decide (a0 < a1))) else (some false)) = some r := h; clear h; by_cases c3 : a0 ≥ 0
 ·rw [if_pos c3] at H
  have c3b0 : decide (0 ≤ a0) = true := eT_ c3; clear c3; obtain rfl := oI_ H; go_enter Try.func96, Try.ntmps96; go_wp2; go_ret; exact ⟨rf_, by repeat (first | exact Drawn0.refl _ | apply Drawn0.step)⟩
 rw [if_neg c3] at H; have c3b0 : decide (0 ≤ a0) = false := eF_ c3; clear c3; obtain rfl := oI_ H; go_enter Try.func96, Try.ntmps96; go_wp2; go_ret; exact ⟨rf_, by repeat (first | exact Drawn0.refl _ | apply Drawn0.step)⟩
def snowlineref04_Valid.f (a0_0 : Int) (a0_1 : Int) (a0_2 : Int) (a1 : Int) : Option (Bool) := (snowlineref04_node.f a0_0 a1).bind fun t333 => (if t333 = true then ((snowlineref04_node.f a0_1 a1).bind fun t334 => (if t334 = true then (if a0_2 ≥ (-1073741824) then (some (decide (a0_2 ≤ 1073741824))) else (some false)) else (some false))) else (some false))
set_option maxHeartbeats 8000000 in
set_option maxRecDepth 100000 in
theorem snowlineref04_Valid.calls (a0_0 : Int) (a0_1 : Int) (a0_2 : Int) (a1 : Int) (r : Bool) (w : World) (h : snowlineref04_Valid.f a0_0 a0_1 a0_2 a1 = some r) :
  Calls Try.prog 69 #[.agg #[.int .i64 a0_0, .int .i64 a0_1, .int .i64 a0_2], .int .i64 a1] w fun e w' => e = .returned (.bool r) ∧ Below w.heap.size w w' := by
 have hu39 := Try.underlying39; have HB := Z_ (Below.refl w.heap.size w); have H : ((snowlineref04_node.f a0_0 a1).bind fun t333 => (if t333 = true then ((snowlineref04_node.f a0_1 a1).bind fun t334 => (if t334 = true then (if a0_2 ≥ (-1073741824) then (some (decide (a0_2 ≤ 1073741824))) else (some false)) else (some false))) else (some false))) = some r := h; clear h; replace H := oS_.mp H; obtain ⟨t333, A30, H⟩ := H; have A3 := Z_ A30; clear A30; by_cases c4 : t333 = true
 ·subst c4
  rw [if_pos rfl] at H; replace H := oS_.mp H; obtain ⟨t334, A50, H⟩ := H; have A5 := Z_ A50; clear A50; by_cases c6 : t334 = true
  ·subst c6
   rw [if_pos rfl] at H; by_cases c7 : a0_2 ≥ (-1073741824)
   ·rw [if_pos c7] at H
    have c7b0 : decide ((-1073741824) ≤ a0_2) = true := eT_ c7; clear c7; obtain rfl := oI_ H; go_enter Try.func69, Try.ntmps69; go_wp2_with (first | ((with_reducible refine gate_dst (N := 2) rfl ?_); refine bX_ 2 #[.int .i64 a0_0, .int .i64 a0_1, .int .i64 a0_2] 39 ?_; intro gb332 hg w8 hbox hb; have BK332 := Z_ (hbox); have GW332 := Z_ ((by rw [hg]; exact (fZ_ hB_) : w.heap.size ≤ gb332)); have GE332 := Z_ ((by rw [hg]; exact (fZ_ hB_) : w.heap.size ≤ gb332)); replace HB := Z_ (fS_ hB_ hb); clear hb hbox hg; obtain ⟨⟨hcz9_0, hcz9_1, hcz9_2⟩, hfz9_0, hfz9_1, hfz9_2⟩ := f3_ BK332.out) | ((with_reducible refine gate_callee (f := 96) rfl ?_); refine gL_ (some 8) Try.func96 #[.int .i64 a0_0, .int .i64 a1] ?_; (with_reducible refine (snowlineref04_node.calls a0_0 a1 true _ A3.out).mono ?_); rintro e w' ⟨rfl, ⟨nd, rfl⟩⟩; refine ⟨_, rfl, ?_⟩) | (go_at_call 96; (with_reducible refine (snowlineref04_node.calls a0_1 a1 true _ A5.out).mono ?_); rintro e w' ⟨rfl, ⟨nd, rfl⟩⟩)); go_ret; exact ⟨eW_, hB_⟩
   rw [if_neg c7] at H; have c7b0 : decide ((-1073741824) ≤ a0_2) = false := eF_ c7; clear c7; obtain rfl := oI_ H; go_enter Try.func69, Try.ntmps69; go_wp2_with (first | ((with_reducible refine gate_dst (N := 2) rfl ?_); refine bX_ 2 #[.int .i64 a0_0, .int .i64 a0_1, .int .i64 a0_2] 39 ?_; intro gb332 hg w10 hbox hb; have BK332 := Z_ (hbox); have GW332 := Z_ ((by rw [hg]; exact (fZ_ hB_) : w.heap.size ≤ gb332)); have GE332 := Z_ ((by rw [hg]; exact (fZ_ hB_) : w.heap.size ≤ gb332)); replace HB := Z_ (fS_ hB_ hb); clear hb hbox hg; obtain ⟨⟨hcz11_0, hcz11_1, hcz11_2⟩, hfz11_0, hfz11_1, hfz11_2⟩ := f3_ BK332.out) | ((with_reducible refine gate_callee (f := 96) rfl ?_); refine gL_ (some 8) Try.func96 #[.int .i64 a0_0, .int .i64 a1] ?_; (with_reducible refine (snowlineref04_node.calls a0_0 a1 true _ A3.out).mono ?_); rintro e w' ⟨rfl, ⟨nd, rfl⟩⟩; refine ⟨_, rfl, ?_⟩) | (go_at_call 96; (with_reducible refine (snowlineref04_node.calls a0_1 a1 true _ A5.out).mono ?_); rintro e w' ⟨rfl, ⟨nd, rfl⟩⟩)); go_ret; exact ⟨eW_, hB_⟩
  replace c6 := bE_.mpr c6; subst c6; have H1 : (some false) = some r := by rw [if_neg (show ¬ (false = true) by decide)] at H; exact H
  clear H; have H := H1; clear H1; obtain rfl := oI_ H; go_enter Try.func69, Try.ntmps69; go_wp2_with (first | ((with_reducible refine gate_dst (N := 2) rfl ?_); refine bX_ 2 #[.int .i64 a0_0, .int .i64 a0_1, .int .i64 a0_2] 39 ?_; intro gb332 hg w12 hbox hb; have BK332 := Z_ (hbox); have GW332 := Z_ ((by rw [hg]; exact (fZ_ hB_) : w.heap.size ≤ gb332)); have GE332 := Z_ ((by rw [hg]; exact (fZ_ hB_) : w.heap.size ≤ gb332)); replace HB := Z_ (fS_ hB_ hb); clear hb hbox hg; obtain ⟨⟨hcz13_0, hcz13_1, hcz13_2⟩, hfz13_0, hfz13_1, hfz13_2⟩ := f3_ BK332.out) | ((with_reducible refine gate_callee (f := 96) rfl ?_); refine gL_ (some 8) Try.func96 #[.int .i64 a0_0, .int .i64 a1] ?_; (with_reducible refine (snowlineref04_node.calls a0_0 a1 true _ A3.out).mono ?_); rintro e w' ⟨rfl, ⟨nd, rfl⟩⟩; refine ⟨_, rfl, ?_⟩) | (go_at_call 96; (with_reducible refine (snowlineref04_node.calls a0_1 a1 false _ A5.out).mono ?_); rintro e w' ⟨rfl, ⟨nd, rfl⟩⟩)); go_ret; exact ⟨eW_, hB_⟩
 replace c4 := bE_.mpr c4; subst c4; have H1 : (some false) = some r := by rw [if_neg (show ¬ (false = true) by decide)] at H; exact H
 clear H; have H := H1; clear H1; obtain rfl := oI_ H; go_enter Try.func69, Try.ntmps69; go_wp2_with (first | ((with_reducible refine gate_dst (N := 2) rfl ?_); refine bX_ 2 #[.int .i64 a0_0, .int .i64 a0_1, .int .i64 a0_2] 39 ?_; intro gb332 hg w14 hbox hb; have BK332 := Z_ (hbox); have GW332 := Z_ ((by rw [hg]; exact (fZ_ hB_) : w.heap.size ≤ gb332)); have GE332 := Z_ ((by rw [hg]; exact (fZ_ hB_) : w.heap.size ≤ gb332)); replace HB := Z_ (fS_ hB_ hb); clear hb hbox hg; obtain ⟨⟨hcz15_0, hcz15_1, hcz15_2⟩, hfz15_0, hfz15_1, hfz15_2⟩ := f3_ BK332.out) | ((with_reducible refine gate_callee (f := 96) rfl ?_); refine gL_ (some 8) Try.func96 #[.int .i64 a0_0, .int .i64 a1] ?_; (with_reducible refine (snowlineref04_node.calls a0_0 a1 false _ A3.out).mono ?_); rintro e w' ⟨rfl, ⟨nd, rfl⟩⟩; refine ⟨_, rfl, ?_⟩)); go_ret; exact ⟨eW_, hB_⟩
mutual
def snowlineref04_Check.j0 : Nat → Bool → Int → List (S39) → Option (Int)
 | 0, _, _, _ => none
 | k + 1, x17, x336000, x336001 => if x17 = true then (some 40) else (snowlineref04_Check.l0 k 0 x336000 x336001)
def snowlineref04_Check.l0 : Nat → Int → Int → List (S39) → Option (Int)
 | 0, _, _, _ => none
 | k + 1, x3, x336000, x336001 => if x3 < (x336001.length : Int) then (if 0 ≤ x3 then ((snowlineref04_Valid.f ((rd_T39 x336001 x3).f0) ((rd_T39 x336001 x3).f1) ((rd_T39 x336001 x3).f2) x336000).bind fun t337 => (if t337 = true then (snowlineref04_Check.l0 k (wrap64 (x3 + 1)) x336000 x336001) else (some 40))) else (none)) else (some 0)
end
def snowlineref04_Check.f (k : Nat) (a0_0 : Int) (l0_1 : List (S39)) : Option (Int) := if a0_0 < 1 then (snowlineref04_Check.j0 k true a0_0 l0_1) else (if a0_0 > 256 then (snowlineref04_Check.j0 k true a0_0 l0_1) else (snowlineref04_Check.j0 k (decide ((l0_1.length : Int) > 4096)) a0_0 l0_1))
theorem snowlineref04_Check.mono_l : ∀ k, (∀ y0 y1 y2, LeO (snowlineref04_Check.j0 k y0 y1 y2) (snowlineref04_Check.j0 (k + 1) y0 y1 y2)) ∧ (∀ y0 y1 y2, LeO (snowlineref04_Check.l0 k y0 y1 y2) (snowlineref04_Check.l0 (k + 1) y0 y1 y2))
 | 0 => ⟨fun _ _ _ r h => by simp [snowlineref04_Check.j0] at h, fun _ _ _ r h => by simp [snowlineref04_Check.l0] at h⟩
 | k + 1 => by
  obtain ⟨ih0, ih1⟩ := snowlineref04_Check.mono_l k; refine ⟨?_, ?_⟩ <;> intros <;> (first | unfold snowlineref04_Check.j0 | unfold snowlineref04_Check.l0) <;> repeat' first | (with_reducible first | exact ih0 _ _ _ | exact ih1 _ _ _ | exact LeO.refl _ | exact LeO.none _ | refine LeO.ite ?_ ?_ | refine LeO.bind ?_ (fun _ => ?_)) | exact ih0 _ _ _ | exact ih1 _ _ _ | exact LeO.none _ | refine LeO.ite ?_ ?_ | refine LeO.bind ?_ (fun _ => ?_)
theorem snowlineref04_Check.mono : ∀ a0 a1 k, LeO (snowlineref04_Check.f k a0 a1) (snowlineref04_Check.f (k + 1) a0 a1) := by
 intro a0 a1 k; obtain ⟨ih0, ih1⟩ := snowlineref04_Check.mono_l k; unfold snowlineref04_Check.f; repeat' first | (with_reducible first | exact ih0 _ _ _ | exact ih1 _ _ _ | exact LeO.refl _ | exact LeO.none _ | refine LeO.ite ?_ ?_ | refine LeO.bind ?_ (fun _ => ?_)) | exact ih0 _ _ _ | exact ih1 _ _ _ | exact LeO.none _ | refine LeO.ite ?_ ?_ | refine LeO.bind ?_ (fun _ => ?_)
def snowlineref04_Check.T6 : Bool × List (List Nat × List Nat) := (true, [([], []), ([0], [0]), ([], []), ([1, 2], [1, 2]), ([3], [3]), ([], []), ([5], [5]), ([4, 6], [4, 6]), ([7], [7])])
def snowlineref04_Check.B6 : List Nat := [0, 1, 0, 7, 15, 0, 32, 127, 255]
theorem snowlineref04_Check.tab6 : rtab .any (opsOf Try.f22 6) = snowlineref04_Check.T6 := by kernel_rfl
theorem snowlineref04_Check.bits6 : waitsOk snowlineref04_Check.T6.2 snowlineref04_Check.B6 = true := by kernel_rfl
set_option maxHeartbeats 8000000 in
set_option maxRecDepth 100000 in
theorem snowlineref04_Check.calls (k : Nat) (a0_0 : Int) (A0_1 : Option Addr) (c0_1 : Nat) (l0_1 : List (S39)) (r : Int) (w : World) (hr0_1 : Kd.C k39 w A0_1 l0_1.length l0_1) (hc0_1 : l0_1.length ≤ c0_1) (h : snowlineref04_Check.f k a0_0 l0_1 = some r) :
  Calls Try.prog 22 #[.agg #[.int .i64 a0_0, .slice A0_1 l0_1.length c0_1]] w fun e w' => e = .returned (.int .i64 r) ∧ Below w.heap.size w w' := by
 have hu24 := Try.underlying24; have hu39 := Try.underlying39; have HR0_1 := Z_ hr0_1; have HC0_1 := Z_ hc0_1; clear hr0_1 hc0_1; have HB := Z_ (Below.refl w.heap.size w); have H : (if a0_0 < 1 then (snowlineref04_Check.j0 k true a0_0 l0_1) else (if a0_0 > 256 then (snowlineref04_Check.j0 k true a0_0 l0_1) else (snowlineref04_Check.j0 k (decide ((l0_1.length : Int) > 4096)) a0_0 l0_1))) = some r := h; clear h; have HC2 := Z_ H; clear H; go_enter Try.func22, Try.ntmps22; go_upto_region 1 with (first | ((with_reducible refine gate_dst (N := 1) rfl ?_); (try (refine gate_guard (by rfl) ?_; dsimp only)); refine bX_ 1 #[.int .i64 a0_0, .slice A0_1 l0_1.length c0_1] 24 ?_; intro gb335 hg w3 hbox hb; have BK335 := Z_ (hbox); have GW335 := Z_ ((by rw [hg]; exact (fZ_ hB_) : w.heap.size ≤ gb335)); have GE335 := Z_ ((by rw [hg]; exact (fZ_ hB_) : w.heap.size ≤ gb335)); replace HB := Z_ (fS_ hB_ hb); clear hb hbox hg)); (try simp only [Act.put, sT_, sZ_, sS_])
 go_cut [17] (fun v17 wc => ∃ (kq : Nat) (x17_1 : Bool), v17 = .bool x17_1 ∧ Aside0 (snowlineref04_Check.j0 kq x17_1 a0_0 l0_1 = some r) ∧ Aside0 (kq ≤ k) ∧ Aside0 (wc.heap[gb335]? = some (.cells #[.int .i64 a0_0, (.slice A0_1 l0_1.length c0_1)] 24 (0, 0))) ∧ Aside0 (Below w.heap.size w wc))
 case first =>
  have H := HC2.out; clear HC2; by_cases c4 : a0_0 < 1
  ·rw [if_pos c4] at H
   have c4b0 : decide (a0_0 < 1) = true := eT_ c4; clear c4; (first | rw [c4b0] | (simp only [i64_w, i32_w]; rw [c4b0]) | skip)
   have H' := Z_ H; clear H; obtain ⟨⟨hcz5_0, hcz5_1⟩, hfz5_0, hfz5_1⟩ := f2_ BK335.out; go_wp2; go_meet
   case rel => exact ⟨_, (true), rf_, H', ⟨oL_⟩, ⟨bR_ BK335.out⟩, ⟨hB_⟩⟩
  rw [if_neg c4] at H; have c4b0 : decide (a0_0 < 1) = false := eF_ c4; clear c4; (first | rw [c4b0] | (simp only [i64_w, i32_w]; rw [c4b0]) | skip)
  by_cases c6 : a0_0 > 256
  ·rw [if_pos c6] at H
   have c6b0 : decide (256 < a0_0) = true := eT_ c6; clear c6; have H' := Z_ H; clear H; obtain ⟨⟨hcz7_0, hcz7_1⟩, hfz7_0, hfz7_1⟩ := f2_ BK335.out; go_wp2; go_meet
   case rel => exact ⟨_, (true), rf_, H', ⟨oL_⟩, ⟨bR_ BK335.out⟩, ⟨hB_⟩⟩
  rw [if_neg c6] at H; have c6b0 : decide (256 < a0_0) = false := eF_ c6; clear c6; have H' := Z_ H; clear H; obtain ⟨⟨hcz8_0, hcz8_1⟩, hfz8_0, hfz8_1⟩ := f2_ BK335.out; go_wp2; go_meet
  case rel => exact ⟨_, (decide ((l0_1.length : Int) > 4096)), rf_, H', ⟨oL_⟩, ⟨bR_ BK335.out⟩, ⟨hB_⟩⟩
 case rest =>
  clear HC2; (try clear c2); (try clear p2); (try clear c4); (try clear c4b0); (try clear c6); (try clear c6b0); (try clear hcz5_0); (try clear hcz5_1); (try clear hcz7_0); (try clear hcz7_1); (try clear hcz8_0); (try clear hcz8_1); (try clear hfz5_0); (try clear hfz5_1); (try clear hfz7_0); (try clear hfz7_1); (try clear hfz8_0); (try clear hfz8_1)
  obtain ⟨kq, x17_1, rfl, HA, HJ1, BK335, HB⟩ := hcut
  cases kq with
  | zero => exact absurd HA.out (by simp [snowlineref04_Check.j0])
  | succ kj1 =>
   have H := HA.out; clear HA; simp only [snowlineref04_Check.j0] at H; by_cases c9 : x17_1 = true
   ·subst c9
    rw [if_pos rfl] at H; obtain rfl := oI_ H; go_wp2; go_ret; exact ⟨eW_, hB_⟩
   replace c9 := bE_.mpr c9; subst c9; have H1 : (snowlineref04_Check.l0 kj1 0 a0_0 l0_1) = some r := by rw [if_neg (show ¬ (false = true) by decide)] at H; exact H
   clear H; have H := H1; clear H1; have H' := Z_ H; clear H; go_wp2; go_loopg [3] kj1 (fun kq v3 w' => ∃ (x3_2 : Int), v3 = .int .i64 x3_2 ∧ Aside0 (snowlineref04_Check.l0 kq x3_2 a0_0 l0_1 = some r) ∧ Aside0 (kq ≤ kj1) ∧ Aside0 (w'.heap[gb335]? = some (.cells #[.int .i64 a0_0, (.slice A0_1 l0_1.length c0_1)] 24 (0, 0))) ∧ Aside0 (Below w.heap.size w w'))
   case atStart => exact ⟨(0), rf_, H', ⟨nR_ _⟩, ⟨bR_ BK335.out⟩, ⟨hB_⟩⟩
   case round =>
    clear H'; (try clear c2); (try clear p2); (try clear c4); (try clear c4b0); (try clear c6); (try clear c6b0); (try clear c9); (try clear hcz5_0); (try clear hcz5_1); (try clear hcz7_0); (try clear hcz7_1); (try clear hcz8_0); (try clear hcz8_1); (try clear hfz5_0); (try clear hfz5_1); (try clear hfz7_0); (try clear hfz7_1); (try clear hfz8_0); (try clear hfz8_1); (try clear p2)
    obtain ⟨x3_2, rfl, HA, HK2, BK335, HB⟩ := hrel
    cases gk with
    | zero => exact absurd HA.out (by simp [snowlineref04_Check.l0])
    | succ k2 =>
     have H := HA.out; clear HA; simp only [snowlineref04_Check.l0] at H; by_cases c10 : x3_2 < (l0_1.length : Int)
     ·rw [if_pos c10] at H
      have c10b0 : decide (x3_2 < (l0_1.length : Int)) = true := eT_ c10; clear c10; by_cases c11 : 0 ≤ x3_2
      ·rw [if_pos c11] at H
       have c11b0 : decide (0 ≤ x3_2) = true := eT_ c11; clear c11; replace H := oS_.mp H; obtain ⟨t337, A120, H⟩ := H; have A12 := Z_ A120; clear A120; have HF13 := Z_ H; clear H; obtain ⟨⟨hcz14_0, hcz14_1⟩, hfz14_0, hfz14_1⟩ := f2_ BK335.out; try go_wp2
       replace BK335 := Z_ (bD_ BK335.out); replace HB := Z_ (fD_ HB.out); have p336 : 0 ≤ (x3_2 : Int) := dT_ as_; have q336 : x3_2 < (l0_1.length : Int) := dT_ as_; obtain ⟨ad336, e336, hx336_0, hx336_1, hx336_2⟩ := at_T39 HR0_1.out x3_2 p336 q336; have hw336_2 := hx336_2; have hw336_1 := hx336_1; have hw336_0 := hx336_0; cases e336
       replace hx336_0 := (HB.out.cell (World.block_lt_of_cell? w _ hx336_0)).trans hx336_0; replace hx336_1 := (HB.out.cell (World.block_lt_of_cell? w _ hx336_1)).trans hx336_1; replace hx336_2 := (HB.out.cell (World.block_lt_of_cell? w _ hx336_2)).trans hx336_2; replace p336 := eq_true p336; replace q336 := eq_true q336; refine start_ (n := 9) (S := fun w' => w'.cell? ⟨gb335, 0, none⟩ = some (.int .i64 a0_0) ∧ w'.cell? ⟨gb335, 1, none⟩ = some (.slice (some ad336) l0_1.length c0_1) ∧ w'.cell? (ad336.add ((x3_2).toNat * 3)) = some (.int .i64 ((rd_T39 l0_1 x3_2).f0)) ∧ w'.cell? ⟨(ad336.add ((x3_2).toNat * 3)).block, (ad336.add ((x3_2).toNat * 3)).off + 1, none⟩ = some (.int .i64 ((rd_T39 l0_1 x3_2).f1)) ∧ w'.cell? ⟨(ad336.add ((x3_2).toNat * 3)).block, (ad336.add ((x3_2).toNat * 3)).off + 2, none⟩ = some (.int .i64 ((rd_T39 l0_1 x3_2).f2))) (ds := []) #[false, false, false, false, false, false, false, false, false] (by kernel_rfl) rfl rfl ⟨(bC_ BK335.out 0).trans rfl, (bC_ BK335.out 1).trans rfl, ((HB.out.cell (World.block_lt_of_cell? w _ hw336_0)).trans hw336_0), ((HB.out.cell (World.block_lt_of_cell? w _ hw336_1)).trans hw336_1), ((HB.out.cell (World.block_lt_of_cell? w _ hw336_2)).trans hw336_2)⟩ (fun hHeld => ?_); refine with_tabW snowlineref04_Check.tab6 snowlineref04_Check.bits6 (fun HT_ HW_ => ?_); generalize wr.drew = w15 at BK335 HB hx336_0 hx336_1 hx336_2 hHeld ⊢; refine pP_ 0 25 ?_; refine pP_ 2 27 ?_; refine pP_ 5 30 ?_; refine pT_ 1 26 ?_; refine pP_ 3 28 ?_; refine pT_ 4 29 ?_; refine pT_ 6 31 ?_; refine oN_ 7 (some 32) (fun K hK => ?_); refine gO_ Try.func69 #[.agg #[.int .i64 ((rd_T39 l0_1 x3_2).f0), .int .i64 ((rd_T39 l0_1 x3_2).f1), .int .i64 ((rd_T39 l0_1 x3_2).f2)], .int .i64 a0_0] ?_; with_reducible refine (snowlineref04_Valid.calls ((rd_T39 l0_1 x3_2).f0) ((rd_T39 l0_1 x3_2).f1) ((rd_T39 l0_1 x3_2).f2) a0_0 t337 _ A12.out).mono ?_
       rintro e w16 ⟨rfl, hb⟩; refine ⟨_, rfl, ?_⟩; replace BK335 := Z_ (bB_ (g := gb335) (o := .cells #[.int .i64 a0_0, .slice (some ad336) l0_1.length c0_1] 24 (0, 0)) (bR_ BK335.out) hb); replace HB := Z_ (fS_ hB_ hb); (try clear hb)
       (try clear hb2)
       (try clear hk)
       (try clear hi)
       refine hK.out _ _ ⟨(bC_ BK335.out 0).trans rfl, (bC_ BK335.out 1).trans rfl, ((HB.out.cell (World.block_lt_of_cell? w _ hw336_0)).trans hw336_0), ((HB.out.cell (World.block_lt_of_cell? w _ hw336_1)).trans hw336_1), ((HB.out.cell (World.block_lt_of_cell? w _ hw336_2)).trans hw336_2)⟩ (fun hHeld => ?_); clear hK K; refine nP_ 32 ?_; refine pP_ 8 33 ?_; refine dN_ ?_; go_upto_if 33 with (fail); have H := HF13.out; clear HF13; by_cases c17 : t337 = true
       ·subst c17
        rw [if_pos rfl] at H; have H' := Z_ H; clear H; go_wp2; go_roundg k2
        case measure => have := HJ1.out; have := HK2.out; omega
        case rel => exact ⟨(wrap64 (x3_2 + 1)), rf_, H', ⟨by have := HJ1.out; have := HK2.out; omega⟩, ⟨bR_ BK335.out⟩, ⟨hB_⟩⟩
       replace c17 := bE_.mpr c17; subst c17; have H1 : (some 40) = some r := by rw [if_neg (show ¬ (false = true) by decide)] at H; exact H
       clear H; have H := H1; clear H1; obtain rfl := oI_ H; go_wp2; go_ret; exact ⟨eW_, hB_⟩
      rw [if_neg c11] at H; exact absurd H (by simp)
     rw [if_neg c10] at H; have c10b0 : decide (x3_2 < (l0_1.length : Int)) = false := eF_ c10; clear c10; obtain rfl := oI_ H; obtain ⟨⟨hcz18_0, hcz18_1⟩, hfz18_0, hfz18_1⟩ := f2_ BK335.out; go_wp2; go_ret; exact ⟨eW_, hB_⟩
mutual
def snowlineref04_Lengths.l0 : Nat → List Bool → List Int → List Bool → Int → Int → List (S39) → Option (List Int × List Bool × Bool)
 | 0, _, _, _, _, _, _ => none
 | k + 1, x1, x4, x5, x7, x340000, x340001 => if x7 < x340000 then (if x4.length < 17592186044416 then (if 0 ≤ x7 then (if x7 < (x1.length : Int) then (if x5.length < 140737488355328 then (snowlineref04_Lengths.l0 k x1 (x4 ++ [0]) (x5 ++ [rdOf false x1 x7]) (wrap64 (x7 + 1)) x340000 x340001) else (none)) else (none)) else (none)) else (none)) else (snowlineref04_Lengths.l1 k x4 x5 0 x340000 x340001)
def snowlineref04_Lengths.l1 : Nat → List Int → List Bool → Int → Int → List (S39) → Option (List Int × List Bool × Bool)
 | 0, _, _, _, _, _ => none
 | k + 1, x4, x5, x8, x340000, x340001 => if x8 ≤ x340000 then (snowlineref04_Lengths.l2 k x4 x5 x8 false 0 x340000 x340001) else (some (x4, x5, false))
def snowlineref04_Lengths.l2 : Nat → List Int → List Bool → Int → Bool → Int → Int → List (S39) → Option (List Int × List Bool × Bool)
 | 0, _, _, _, _, _, _, _ => none
 | k + 1, x4, x5, x8, x9, x10, x340000, x340001 => if x10 < (x340001.length : Int) then (if 0 ≤ x10 then (if 0 ≤ ((rd_T39 x340001 x10).f0) then (if ((rd_T39 x340001 x10).f0) < (x5.length : Int) then (if rdOf false x5 ((rd_T39 x340001 x10).f0) = true then (if 0 ≤ ((rd_T39 x340001 x10).f1) then (if ((rd_T39 x340001 x10).f1) < (x5.length : Int) then (if (rdOf false x5 ((rd_T39 x340001 x10).f1) = true) then (if ((rd_T39 x340001 x10).f0) < (x4.length : Int) then (if ((rd_T39 x340001 x10).f1) < (x4.length : Int) then (snowlineref04_Lengths.j3 k x4 x5 x8 x9 x10 (decide ((wrap64 ((rd x4 ((rd_T39 x340001 x10).f0)) + ((rd_T39 x340001 x10).f2))) < (rd x4 ((rd_T39 x340001 x10).f1)))) x340000 x340001 ((rd_T39 x340001 x10).f0) ((rd_T39 x340001 x10).f1) ((rd_T39 x340001 x10).f2)) else (none)) else (none)) else (snowlineref04_Lengths.j3 k x4 x5 x8 x9 x10 true x340000 x340001 ((rd_T39 x340001 x10).f0) ((rd_T39 x340001 x10).f1) ((rd_T39 x340001 x10).f2))) else (none)) else (none)) else (snowlineref04_Lengths.j3 k x4 x5 x8 x9 x10 false x340000 x340001 ((rd_T39 x340001 x10).f0) ((rd_T39 x340001 x10).f1) ((rd_T39 x340001 x10).f2))) else (none)) else (none)) else (none)) else (if x9 = true then (snowlineref04_Lengths.l1 k x4 x5 (wrap64 (x8 + 1)) x340000 x340001) else (some (x4, x5, true)))
def snowlineref04_Lengths.j3 : Nat → List Int → List Bool → Int → Bool → Int → Bool → Int → List (S39) → Int → Int → Int → Option (List Int × List Bool × Bool)
 | 0, _, _, _, _, _, _, _, _, _, _, _ => none
 | k + 1, x4, x5, x8, x9, x10, x74, x340000, x340001, x349000, x349001, x349002 => if x74 = true then (if 0 ≤ x349000 then (if x349000 < (x4.length : Int) then (if 0 ≤ x349001 then (if x349001 < (x4.length : Int) then (if x349001 < (x5.length : Int) then (snowlineref04_Lengths.l2 k (x4.set (x349001 : Int).toNat (wrap64 ((rd x4 x349000) + x349002))) (x5.set (x349001 : Int).toNat true) x8 true (wrap64 (x10 + 1)) x340000 x340001) else (none)) else (none)) else (none)) else (none)) else (none)) else (snowlineref04_Lengths.l2 k x4 x5 x8 x9 (wrap64 (x10 + 1)) x340000 x340001)
end
def snowlineref04_Lengths.f (k : Nat) (a0_0 : Int) (l0_1 : List (S39)) (l1 : List Bool) : Option (List Int × List Bool × Bool) := snowlineref04_Lengths.l0 k l1 ([] : List Int) ([] : List Bool) 0 a0_0 l0_1
theorem snowlineref04_Lengths.mono_l : ∀ k, (∀ y0 y1 y2 y3 y4 y5, LeO (snowlineref04_Lengths.l0 k y0 y1 y2 y3 y4 y5) (snowlineref04_Lengths.l0 (k + 1) y0 y1 y2 y3 y4 y5)) ∧ (∀ y0 y1 y2 y3 y4, LeO (snowlineref04_Lengths.l1 k y0 y1 y2 y3 y4) (snowlineref04_Lengths.l1 (k + 1) y0 y1 y2 y3 y4)) ∧ (∀ y0 y1 y2 y3 y4 y5 y6, LeO (snowlineref04_Lengths.l2 k y0 y1 y2 y3 y4 y5 y6) (snowlineref04_Lengths.l2 (k + 1) y0 y1 y2 y3 y4 y5 y6)) ∧ (∀ y0 y1 y2 y3 y4 y5 y6 y7 y8 y9 y10, LeO (snowlineref04_Lengths.j3 k y0 y1 y2 y3 y4 y5 y6 y7 y8 y9 y10) (snowlineref04_Lengths.j3 (k + 1) y0 y1 y2 y3 y4 y5 y6 y7 y8 y9 y10))
 | 0 => ⟨fun _ _ _ _ _ _ r h => by simp [snowlineref04_Lengths.l0] at h, fun _ _ _ _ _ r h => by simp [snowlineref04_Lengths.l1] at h, fun _ _ _ _ _ _ _ r h => by simp [snowlineref04_Lengths.l2] at h, fun _ _ _ _ _ _ _ _ _ _ _ r h => by simp [snowlineref04_Lengths.j3] at h⟩
 | k + 1 => by
  obtain ⟨ih0, ih1, ih2, ih3⟩ := snowlineref04_Lengths.mono_l k; refine ⟨?_, ?_, ?_, ?_⟩ <;> intros <;> (first | unfold snowlineref04_Lengths.l0 | unfold snowlineref04_Lengths.l1 | unfold snowlineref04_Lengths.l2 | unfold snowlineref04_Lengths.j3) <;> repeat' first | (with_reducible first | exact ih0 _ _ _ _ _ _ | exact ih1 _ _ _ _ _ | exact ih2 _ _ _ _ _ _ _ | exact ih3 _ _ _ _ _ _ _ _ _ _ _ | exact LeO.refl _ | exact LeO.none _ | refine LeO.ite ?_ ?_ | refine LeO.bind ?_ (fun _ => ?_)) | exact ih0 _ _ _ _ _ _ | exact ih1 _ _ _ _ _ | exact ih2 _ _ _ _ _ _ _ | exact ih3 _ _ _ _ _ _ _ _ _ _ _ | exact LeO.none _ | refine LeO.ite ?_ ?_ | refine LeO.bind ?_ (fun _ => ?_)
theorem snowlineref04_Lengths.mono : ∀ a0 a1 a2 k, LeO (snowlineref04_Lengths.f k a0 a1 a2) (snowlineref04_Lengths.f (k + 1) a0 a1 a2) := by
 intro a0 a1 a2 k; obtain ⟨ih0, ih1, ih2, ih3⟩ := snowlineref04_Lengths.mono_l k; unfold snowlineref04_Lengths.f; repeat' first | (with_reducible first | exact ih0 _ _ _ _ _ _ | exact ih1 _ _ _ _ _ | exact ih2 _ _ _ _ _ _ _ | exact ih3 _ _ _ _ _ _ _ _ _ _ _ | exact LeO.refl _ | exact LeO.none _ | refine LeO.ite ?_ ?_ | refine LeO.bind ?_ (fun _ => ?_)) | exact ih0 _ _ _ _ _ _ | exact ih1 _ _ _ _ _ | exact ih2 _ _ _ _ _ _ _ | exact ih3 _ _ _ _ _ _ _ _ _ _ _ | exact LeO.none _ | refine LeO.ite ?_ ?_ | refine LeO.bind ?_ (fun _ => ?_)
def snowlineref04_Lengths.T14 : Bool × List (List Nat × List Nat) := (true, [([], []), ([], []), ([1], [1]), ([0, 2], [0, 2]), ([3], [3]), ([4], [4]), ([5], [5]), ([5], [5]), ([7, 5], [5, 7]), ([6, 8, 5], [5, 6, 8]), ([9, 5], [5, 9]), ([10, 5], [5, 10]), ([11, 5, 5], [5, 11]), ([12], [12]), ([12], [12]), ([14, 12], [12, 14]), ([13, 15, 12], [12, 13, 15]), ([16, 12], [12, 16]), ([12], [12]), ([18, 12], [12, 18]), ([17, 19, 12], [12, 17, 19]), ([12], [12]), ([12], [12]), ([22, 12], [12, 22]), ([21, 23, 12], [12, 21, 23]), ([24, 12], [12, 24]), ([20, 25, 12], [12, 20, 25]), ([12, 26, 5], [5, 12, 26]), ([5, 27], [5, 27])])
def snowlineref04_Lengths.B14 : List Nat := [0, 0, 2, 7, 15, 31, 63, 63, 191, 511, 1023, 2047, 4095, 8191, 8191, 24575, 65535, 131071, 8191, 270335, 1048575, 8191, 8191, 4202495, 14688255, 31465471, 67108863, 134217727, 268435455]
theorem snowlineref04_Lengths.tab14 : rtab .any (opsOf Try.f71 14) = snowlineref04_Lengths.T14 := by kernel_rfl
theorem snowlineref04_Lengths.bits14 : waitsOk snowlineref04_Lengths.T14.2 snowlineref04_Lengths.B14 = true := by kernel_rfl
def snowlineref04_Lengths.T15 : Bool × List (List Nat × List Nat) := (true, [([], []), ([], []), ([1], [1]), ([], []), ([], []), ([4], [4]), ([3, 5], [3, 5]), ([6], [6]), ([], []), ([8], [8]), ([7, 9], [7, 9]), ([0, 2, 0, 1, 2, 3, 4, 5, 6, 7, 8, 9, 10], [0, 2]), ([11, 10, 0, 1, 2, 3, 4, 5, 6, 7, 8, 9, 10], [10, 11])])
def snowlineref04_Lengths.B15 : List Nat := [0, 0, 2, 0, 0, 16, 56, 120, 0, 256, 1016, 2047, 4095]
theorem snowlineref04_Lengths.tab15 : rtab .any (opsOf Try.f71 15) = snowlineref04_Lengths.T15 := by kernel_rfl
theorem snowlineref04_Lengths.bits15 : waitsOk snowlineref04_Lengths.T15.2 snowlineref04_Lengths.B15 = true := by kernel_rfl
set_option maxHeartbeats 8000000 in
set_option maxRecDepth 100000 in
theorem snowlineref04_Lengths.calls (k : Nat) (a0_0 : Int) (A0_1 : Option Addr) (c0_1 : Nat) (l0_1 : List (S39)) (A1 : Option Addr) (c1 : Nat) (l1 : List Bool) (r1 : List Int) (r2 : List Bool) (r3 : Bool) (w : World) (hr0_1 : Kd.C k39 w A0_1 l0_1.length l0_1) (hc0_1 : l0_1.length ≤ c0_1) (hr1 : Kd.C Kd.bool w A1 l1.length l1) (hc1 : l1.length ≤ c1) (h : snowlineref04_Lengths.f k a0_0 l0_1 l1 = some (r1, r2, r3)) :
  Calls Try.prog 71 #[.agg #[.int .i64 a0_0, .slice A0_1 l0_1.length c0_1], .slice A1 l1.length c1] w fun e w' => ∃ v0_ v1_ : Value, e = .returned (.tuple #[v0_, v1_, .bool r3]) ∧ Kd.R (Kd.int .i64) 3 w' w.heap.size (fun _ => True) v0_ r1 ∧ Kd.R Kd.bool 4 w' w.heap.size (fun _ => True) v1_ r2 ∧ Below w.heap.size w w' := by
 have hu24 := Try.underlying24; have hu39 := Try.underlying39; have HR0_1 := Z_ hr0_1; have HC0_1 := Z_ hc0_1; clear hr0_1 hc0_1; have HR1 := Z_ hr1; have HC1 := Z_ hc1; clear hr1 hc1; have HB := Z_ (Below.refl w.heap.size w); have H : (snowlineref04_Lengths.l0 k l1 ([] : List Int) ([] : List Bool) 0 a0_0 l0_1) = some (r1, r2, r3) := h; clear h; have H' := Z_ H; clear H; go_enter Try.func71, Try.ntmps71; go_wp2_with (first | ((with_reducible refine gate_dst (N := 2) rfl ?_); refine bX_ 2 #[.int .i64 a0_0, .slice A0_1 l0_1.length c0_1] 24 ?_; intro gb339 hg w3 hbox hb; have BK339 := Z_ (hbox); have GW339 := Z_ ((by rw [hg]; exact (fZ_ hB_) : w.heap.size ≤ gb339)); have GE339 := Z_ ((by rw [hg]; exact (fZ_ hB_) : w.heap.size ≤ gb339)); replace HB := Z_ (fS_ hB_ hb); clear hb hbox hg)); go_loopg [4, 5, 7] k (fun kq v4 v5 v7 w' => ∃ (x4_1 : List Int) (x5_1 : List Bool) (x7_1 : Int), v7 = .int .i64 x7_1 ∧ Aside0 (snowlineref04_Lengths.l0 kq l1 x4_1 x5_1 x7_1 a0_0 l0_1 = some (r1, r2, r3)) ∧ Aside0 (kq ≤ k) ∧ Aside0 (Kd.R (Kd.int .i64) 3 w' w.heap.size (fun _ => True) v4 x4_1) ∧ Aside0 (Kd.R Kd.bool 4 w' w.heap.size (fun _ => True) v5 x5_1) ∧ Aside0 (w'.heap[gb339]? = some (.cells #[.int .i64 a0_0, (.slice A0_1 l0_1.length c0_1)] 24 (0, 0))) ∧ Aside0 (Below w.heap.size w w'))
 case atStart => exact ⟨(([] : List Int)), (([] : List Bool)), (0), rf_, H', ⟨nR_ _⟩, ⟨by first | exact Kd.R_nil _ _ _ _ _ | exact Kd.N_nil _ _ _ _ _ | exact Kd.V_nil _ _ _ _ _ | exact Kd.Q_nil _ _ _ _ _ | exact Kd.S_nil _ _ _ _ _⟩, ⟨by first | exact Kd.R_nil _ _ _ _ _ | exact Kd.N_nil _ _ _ _ _ | exact Kd.V_nil _ _ _ _ _ | exact Kd.Q_nil _ _ _ _ _ | exact Kd.S_nil _ _ _ _ _⟩, ⟨bR_ BK339.out⟩, ⟨hB_⟩⟩
 case round =>
  clear H'; (try clear c1); (try clear p2)
  obtain ⟨x4_1, x5_1, x7_1, rfl, HA, HK1, HO_4, HO_5, BK339, HB⟩ := hrel
  cases gk with
  | zero => exact absurd HA.out (by simp [snowlineref04_Lengths.l0])
  | succ k1 =>
   have H := HA.out; clear HA; simp only [snowlineref04_Lengths.l0] at H; by_cases c4 : x7_1 < a0_0
   ·rw [if_pos c4] at H
    have c4b0 : decide (x7_1 < a0_0) = true := eT_ c4; clear c4; by_cases c5 : x4_1.length < 17592186044416
    ·rw [if_pos c5] at H
     have LMc5 := Z_ c5; clear c5; obtain ⟨y340, hy340⟩ : ∃ y_ : List Int, y_ = (x4_1 ++ [0]) := ⟨_, rfl⟩; replace H : (if 0 ≤ x7_1 then (if x7_1 < (l1.length : Int) then (if x5_1.length < 140737488355328 then (snowlineref04_Lengths.l0 k1 l1 y340 (x5_1 ++ [rdOf false l1 x7_1]) (wrap64 (x7_1 + 1)) a0_0 l0_1) else (none)) else (none)) else (none)) = some (r1, r2, r3) := by first | (rw [hy340]; with_reducible exact H) | (have H2_ := (oB_ _ _).symm.trans H; rw [hy340]; with_reducible exact H2_) | (have H2_ := (oB_ _ _).symm.trans H; with_reducible exact H2_) | with_reducible exact H | (rw [hy340]; exact H) | exact H
     have Ny340 := Z_ hy340; clear hy340; by_cases c6 : 0 ≤ x7_1
     ·rw [if_pos c6] at H
      have c6b0 : decide (0 ≤ x7_1) = true := eT_ c6; clear c6; by_cases c7 : x7_1 < (l1.length : Int)
      ·rw [if_pos c7] at H
       have c7b0 : decide (x7_1 < (l1.length : Int)) = true := eT_ c7; clear c7; by_cases c8 : x5_1.length < 140737488355328
       ·rw [if_pos c8] at H
        have LMc8 := Z_ c8; clear c8; obtain ⟨y344, hy344⟩ : ∃ y_ : List Bool, y_ = (x5_1 ++ [rdOf false l1 x7_1]) := ⟨_, rfl⟩; replace H : (snowlineref04_Lengths.l0 k1 l1 y340 y344 (wrap64 (x7_1 + 1)) a0_0 l0_1) = some (r1, r2, r3) := by first | (rw [hy344]; with_reducible exact H) | (have H2_ := (oB_ _ _).symm.trans H; rw [hy344]; with_reducible exact H2_) | (have H2_ := (oB_ _ _).symm.trans H; with_reducible exact H2_) | with_reducible exact H | (rw [hy344]; exact H) | exact H
        have Ny344 := Z_ hy344; clear hy344; have H' := Z_ H; clear H; obtain ⟨⟨hcz9_0, hcz9_1⟩, hfz9_0, hfz9_1⟩ := f2_ BK339.out; go_wp2_with (first | ((with_reducible refine gate_builtin (b := .append) (xs := #[.tmp 18, .tmp 19]) rfl ?_); at_builtin; refine Kd.R_append (Kd.int .i64) (w0 := w) w.heap.size rfl (.tmp 18) (.tmp 19) 29 3 (.int .i64 0) 8 rfl Try.underlying29 info3 rfl (by decide) (by omega) u4 x4_1 0 [.int .i64 0] (fun _ => True) (fun _ => False) rfl rfl ?aP (fun _ hk => hk.elim) ?aF ?aO ?aB ?aS ?aL ?_; (case aP => exact rfl); (case aB => exact hB_); (case aF => exact (fun _ _ => trivial)); (case aO => exact (rK_ HO_4.out)); (case aS => exact (fZ_ hB_)); (case aL => have := LMc5.out; omega); intro v341 w10 ho hb hg hat; rw [← Ny340.out] at ho; replace HO_5 := Z_ (Kd.R_over' (rK_ HO_5.out) (Kd.R_typed (rK_ HO_4.out)) (by decide) hg); replace BK339 := Z_ (blk_grown (g := gb339) (o := .cells #[.int .i64 a0_0, .slice A0_1 l0_1.length c0_1] 24 (0, 0)) (bR_ BK339.out) hg (Kd.R_ne HO_4.out BK339.out (by decide))); replace HB := Z_ (hb); have HO342 := Z_ (ho); clear HO_4; clear ho hb hg hat; have p343 : 0 ≤ (x7_1 : Int) := dT_ as_; have q343 : x7_1 < (l1.length : Int) := dT_ as_; obtain ⟨ad343, e343, hx343_0⟩ := Kd.at_bool HR1.out x7_1 p343 q343; cases e343; replace hx343_0 := (HB.out.cell (World.block_lt_of_cell? w _ hx343_0)).trans hx343_0; replace p343 := eq_true p343; replace q343 := eq_true q343) | ((with_reducible refine gate_builtin (b := .append) (xs := #[.tmp 21, .tmp 26]) rfl ?_); at_builtin; refine Kd.R_append Kd.bool (w0 := w) w.heap.size rfl (.tmp 21) (.tmp 26) 41 4 (.bool false) 1 rfl Try.underlying41 info4 rfl (by decide) (by omega) u5 x5_1 (rdOf false l1 x7_1) [.bool (rdOf false l1 x7_1)] (fun _ => True) (fun _ => False) rfl rfl ?aP (fun _ hk => hk.elim) ?aF ?aO ?aB ?aS ?aL ?_; (case aP => exact rfl); (case aB => exact hB_); (case aF => exact (fun _ _ => trivial)); (case aO => exact (rK_ HO_5.out)); (case aS => exact (fZ_ hB_)); (case aL => have := LMc8.out; omega); intro v345 w11 ho hb hg hat; rw [← Ny344.out] at ho; replace BK339 := Z_ (blk_grown (g := gb339) (o := .cells #[.int .i64 a0_0, .slice A0_1 l0_1.length c0_1] 24 (0, 0)) (bR_ BK339.out) hg (Kd.R_ne HO_5.out BK339.out (by decide))); replace HO342 := Z_ (Kd.R_over' (rK_ HO342.out) (Kd.R_typed (rK_ HO_5.out)) (by decide) hg); replace HB := Z_ (hb); have HO346 := Z_ (ho); clear HO_5; clear ho hb hg hat)); go_roundg k1
        case measure => have := HK1.out; omega
        case rel => exact ⟨(y340), (y344), (wrap64 (x7_1 + 1)), rf_, H', ⟨by have := HK1.out; omega⟩, ⟨rK_ HO342.out⟩, ⟨rK_ HO346.out⟩, ⟨bR_ BK339.out⟩, ⟨hB_⟩⟩
       rw [if_neg c8] at H; exact absurd H (by simp)
      rw [if_neg c7] at H; exact absurd H (by simp)
     rw [if_neg c6] at H; exact absurd H (by simp)
    rw [if_neg c5] at H; exact absurd H (by simp)
   rw [if_neg c4] at H; have c4b0 : decide (x7_1 < a0_0) = false := eF_ c4; clear c4; have H' := Z_ H; clear H; obtain ⟨⟨hcz12_0, hcz12_1⟩, hfz12_0, hfz12_1⟩ := f2_ BK339.out; go_wp2; go_loopg [4, 5, 8] k1 (fun kq v4 v5 v8 w' => ∃ (x4_2 : List Int) (x5_2 : List Bool) (x8_2 : Int), v8 = .int .i64 x8_2 ∧ Aside0 (snowlineref04_Lengths.l1 kq x4_2 x5_2 x8_2 a0_0 l0_1 = some (r1, r2, r3)) ∧ Aside0 (kq ≤ k1) ∧ Aside0 (Kd.R (Kd.int .i64) 3 w' w.heap.size (fun _ => True) v4 x4_2) ∧ Aside0 (Kd.R Kd.bool 4 w' w.heap.size (fun _ => True) v5 x5_2) ∧ Aside0 (w'.heap[gb339]? = some (.cells #[.int .i64 a0_0, (.slice A0_1 l0_1.length c0_1)] 24 (0, 0))) ∧ Aside0 (Below w.heap.size w w'))
   case atStart => exact ⟨(x4_1), (x5_1), (0), rf_, H', ⟨nR_ _⟩, ⟨rK_ HO_4.out⟩, ⟨rK_ HO_5.out⟩, ⟨bR_ BK339.out⟩, ⟨hB_⟩⟩
   case round =>
    clear H'; (try clear c1); (try clear p2); (try clear p3); (try clear q3); (try clear hx3); (try clear c4); (try clear c4b0); (try clear c5); (try clear c6); (try clear c6b0); (try clear p6); (try clear c7); (try clear c7b0); (try clear c8); (try clear hcz12_0); (try clear hcz12_1); (try clear hcz9_0); (try clear hcz9_1); (try clear hfz12_0); (try clear hfz12_1); (try clear hfz9_0); (try clear hfz9_1); (try clear hx343_0); (try clear p2); (try clear p343); (try clear q343)
    obtain ⟨x4_2, x5_2, x8_2, rfl, HA, HK2, HO_4, HO_5, BK339, HB⟩ := hrel
    cases gk with
    | zero => exact absurd HA.out (by simp [snowlineref04_Lengths.l1])
    | succ k2 =>
     have H := HA.out; clear HA; simp only [snowlineref04_Lengths.l1] at H; by_cases c13 : x8_2 ≤ a0_0
     ·rw [if_pos c13] at H
      have c13b0 : decide (x8_2 ≤ a0_0) = true := eT_ c13; clear c13; have H' := Z_ H; clear H; obtain ⟨⟨hcz14_0, hcz14_1⟩, hfz14_0, hfz14_1⟩ := f2_ BK339.out; go_wp2; go_loopg [9, 10] k2 (fun kq v9 v10 w' => ∃ (x4_3 : List Int) (x5_3 : List Bool) (x9_3 : Bool) (x10_3 : Int), v9 = .bool x9_3 ∧ v10 = .int .i64 x10_3 ∧ Aside0 (snowlineref04_Lengths.l2 kq x4_3 x5_3 x8_2 x9_3 x10_3 a0_0 l0_1 = some (r1, r2, r3)) ∧ Aside0 (kq ≤ k2) ∧ Aside0 (Kd.R (Kd.int .i64) 3 w' w.heap.size (fun _ => True) u4 x4_3) ∧ Aside0 (Kd.R Kd.bool 4 w' w.heap.size (fun _ => True) u5 x5_3) ∧ Aside0 (w'.heap[gb339]? = some (.cells #[.int .i64 a0_0, (.slice A0_1 l0_1.length c0_1)] 24 (0, 0))) ∧ Aside0 (Below w.heap.size w w'))
      case atStart => exact ⟨(x4_2), (x5_2), (false), (0), rf_, rf_, H', ⟨nR_ _⟩, ⟨rK_ HO_4.out⟩, ⟨rK_ HO_5.out⟩, ⟨bR_ BK339.out⟩, ⟨hB_⟩⟩
      case round =>
       clear H'; (try clear c1); (try clear p2); (try clear p3); (try clear q3); (try clear hx3); (try clear c4); (try clear c4b0); (try clear c5); (try clear c6); (try clear c6b0); (try clear p6); (try clear c7); (try clear c7b0); (try clear c8); (try clear c13); (try clear c13b0); (try clear hcz12_0); (try clear hcz12_1); (try clear hcz14_0); (try clear hcz14_1); (try clear hcz9_0); (try clear hcz9_1); (try clear hfz12_0); (try clear hfz12_1); (try clear hfz14_0); (try clear hfz14_1); (try clear hfz9_0); (try clear hfz9_1); (try clear hx343_0); (try clear p2); (try clear p3); (try clear p343); (try clear p6); (try clear q3); (try clear q343)
       obtain ⟨x4_3, x5_3, x9_3, x10_3, rfl, rfl, HA, HK3, HO_4, HO_5, BK339, HB⟩ := hrel
       cases gk with
       | zero => exact absurd HA.out (by simp [snowlineref04_Lengths.l2])
       | succ k3 =>
        have H := HA.out; clear HA; simp only [snowlineref04_Lengths.l2] at H; by_cases c15 : x10_3 < (l0_1.length : Int)
        ·rw [if_pos c15] at H
         have c15b0 : decide (x10_3 < (l0_1.length : Int)) = true := eT_ c15; clear c15; by_cases c16 : 0 ≤ x10_3
         ·rw [if_pos c16] at H
          have c16b0 : decide (0 ≤ x10_3) = true := eT_ c16; clear c16; have HC17 := Z_ H; clear H; obtain ⟨⟨hcz18_0, hcz18_1⟩, hfz18_0, hfz18_1⟩ := f2_ BK339.out; have p347 : 0 ≤ (x10_3 : Int) := dT_ as_; have q347 : x10_3 < (l0_1.length : Int) := dT_ as_; obtain ⟨ad347, e347, hx347_0, hx347_1, hx347_2⟩ := at_T39 HR0_1.out x10_3 p347 q347; cases e347
          replace hx347_0 := (HB.out.cell (World.block_lt_of_cell? w _ hx347_0)).trans hx347_0; replace hx347_1 := (HB.out.cell (World.block_lt_of_cell? w _ hx347_1)).trans hx347_1; replace hx347_2 := (HB.out.cell (World.block_lt_of_cell? w _ hx347_2)).trans hx347_2; replace p347 := eq_true p347; replace q347 := eq_true q347; go_upto_region 14 with (first | ((with_reducible refine gate_dst (N := 11) rfl ?_); refine bX_ 11 #[.int .i64 0, .int .i64 0, .int .i64 0] 39 ?_; intro gb348 hg w19 hbox hb; replace HO_4 := Z_ (rB_ (rK_ HO_4.out) hb); replace HO_5 := Z_ (rB_ (rK_ HO_5.out) hb); have BK348 := Z_ (hbox); have GW348 := Z_ ((by rw [hg]; exact (fZ_ hB_) : w.heap.size ≤ gb348)); have GE348 := Z_ ((by rw [hg]; exact (fZ_ hB_) : w.heap.size ≤ gb348)); replace HB := Z_ (fS_ hB_ hb); have NB339_348 := Z_ ((by rw [hg]; exact Nat.ne_of_lt (blk_lt (g := gb339) (o := .cells #[.int .i64 a0_0, .slice (some ad347) l0_1.length c0_1] 24 (0, 0)) (bR_ BK339.out)) : gb339 ≠ gb348)); have NB348_339 := Z_ ((by rw [hg]; exact Nat.ne_of_gt (blk_lt (g := gb339) (o := .cells #[.int .i64 a0_0, .slice (some ad347) l0_1.length c0_1] 24 (0, 0)) (bR_ BK339.out)) : gb348 ≠ gb339)); replace BK339 := Z_ (bB_ (g := gb339) (o := .cells #[.int .i64 a0_0, .slice (some ad347) l0_1.length c0_1] 24 (0, 0)) (bR_ BK339.out) hb); clear hb hbox hg; have hnb20 := NB348_339.out; have hnc20 := NB339_348.out; obtain ⟨⟨hcz21_0, hcz21_1, hcz21_2⟩, hfz21_0, hfz21_1, hfz21_2⟩ := f3_ BK348.out)); (try simp only [Act.put, sT_, sZ_, sS_])
          go_cut [74] (fun v74 wc => ∃ (kq : Nat) (x74_16 : Bool), v74 = .bool x74_16 ∧ Aside0 (snowlineref04_Lengths.j3 kq x4_3 x5_3 x8_2 x9_3 x10_3 x74_16 a0_0 l0_1 ((rd_T39 l0_1 x10_3).f0) ((rd_T39 l0_1 x10_3).f1) ((rd_T39 l0_1 x10_3).f2) = some (r1, r2, r3)) ∧ Aside0 (kq ≤ k3) ∧ Aside0 (Kd.R (Kd.int .i64) 3 wc w.heap.size (fun _ => True) u4 x4_3) ∧ Aside0 (Kd.R Kd.bool 4 wc w.heap.size (fun _ => True) u5 x5_3) ∧ Aside0 (wc.heap[gb339]? = some (.cells #[.int .i64 a0_0, (.slice (some ad347) l0_1.length c0_1)] 24 (0, 0))) ∧ Aside0 (wc.heap[gb348]? = some (.cells #[.int .i64 ((rd_T39 l0_1 x10_3).f0), .int .i64 ((rd_T39 l0_1 x10_3).f1), .int .i64 ((rd_T39 l0_1 x10_3).f2)] 39 (0, 0))) ∧ Aside0 (Below w.heap.size w wc))
          case first =>
           have H := HC17.out; clear HC17; by_cases c22 : 0 ≤ ((rd_T39 l0_1 x10_3).f0)
           ·rw [if_pos c22] at H
            have c22b0 : decide (0 ≤ ((rd_T39 l0_1 x10_3).f0)) = true := eT_ c22; clear c22; (first | rw [c22b0] | (simp only [i64_w, i32_w]; rw [c22b0]) | skip)
            by_cases c23 : ((rd_T39 l0_1 x10_3).f0) < (x5_3.length : Int)
            ·rw [if_pos c23] at H
             have c23b0 : decide (((rd_T39 l0_1 x10_3).f0) < (x5_3.length : Int)) = true := eT_ c23; clear c23; obtain ⟨bq24, hbq24⟩ : ∃ b_ : Bool, b_ = (rdOf false x5_3 ((rd_T39 l0_1 x10_3).f0)) := ⟨_, rfl⟩; replace H : (if bq24 = true then (if 0 ≤ ((rd_T39 l0_1 x10_3).f1) then (if ((rd_T39 l0_1 x10_3).f1) < (x5_3.length : Int) then (if (rdOf false x5_3 ((rd_T39 l0_1 x10_3).f1) = true) then (if ((rd_T39 l0_1 x10_3).f0) < (x4_3.length : Int) then (if ((rd_T39 l0_1 x10_3).f1) < (x4_3.length : Int) then (snowlineref04_Lengths.j3 k3 x4_3 x5_3 x8_2 x9_3 x10_3 (decide ((wrap64 ((rd x4_3 ((rd_T39 l0_1 x10_3).f0)) + ((rd_T39 l0_1 x10_3).f2))) < (rd x4_3 ((rd_T39 l0_1 x10_3).f1)))) a0_0 l0_1 ((rd_T39 l0_1 x10_3).f0) ((rd_T39 l0_1 x10_3).f1) ((rd_T39 l0_1 x10_3).f2)) else (none)) else (none)) else (snowlineref04_Lengths.j3 k3 x4_3 x5_3 x8_2 x9_3 x10_3 true a0_0 l0_1 ((rd_T39 l0_1 x10_3).f0) ((rd_T39 l0_1 x10_3).f1) ((rd_T39 l0_1 x10_3).f2))) else (none)) else (none)) else (snowlineref04_Lengths.j3 k3 x4_3 x5_3 x8_2 x9_3 x10_3 false a0_0 l0_1 ((rd_T39 l0_1 x10_3).f0) ((rd_T39 l0_1 x10_3).f1) ((rd_T39 l0_1 x10_3).f2))) = some (r1, r2, r3) := by rw [← hbq24] at H; exact H
             have Nbq24 := Z_ hbq24; clear hbq24; by_cases c25 : bq24 = true
             ·subst c25
              rw [if_pos rfl] at H; by_cases c26 : 0 ≤ ((rd_T39 l0_1 x10_3).f1)
              ·rw [if_pos c26] at H
               have c26b0 : decide (0 ≤ ((rd_T39 l0_1 x10_3).f1)) = true := eT_ c26; clear c26; by_cases c27 : ((rd_T39 l0_1 x10_3).f1) < (x5_3.length : Int)
               ·rw [if_pos c27] at H
                have c27b0 : decide (((rd_T39 l0_1 x10_3).f1) < (x5_3.length : Int)) = true := eT_ c27; clear c27; obtain ⟨bq28, hbq28⟩ : ∃ b_ : Bool, b_ = (rdOf false x5_3 ((rd_T39 l0_1 x10_3).f1)) := ⟨_, rfl⟩; replace H : (if (bq28 = true) then (if ((rd_T39 l0_1 x10_3).f0) < (x4_3.length : Int) then (if ((rd_T39 l0_1 x10_3).f1) < (x4_3.length : Int) then (snowlineref04_Lengths.j3 k3 x4_3 x5_3 x8_2 x9_3 x10_3 (decide ((wrap64 ((rd x4_3 ((rd_T39 l0_1 x10_3).f0)) + ((rd_T39 l0_1 x10_3).f2))) < (rd x4_3 ((rd_T39 l0_1 x10_3).f1)))) a0_0 l0_1 ((rd_T39 l0_1 x10_3).f0) ((rd_T39 l0_1 x10_3).f1) ((rd_T39 l0_1 x10_3).f2)) else (none)) else (none)) else (snowlineref04_Lengths.j3 k3 x4_3 x5_3 x8_2 x9_3 x10_3 true a0_0 l0_1 ((rd_T39 l0_1 x10_3).f0) ((rd_T39 l0_1 x10_3).f1) ((rd_T39 l0_1 x10_3).f2))) = some (r1, r2, r3) := by rw [← hbq28] at H; exact H
                have Nbq28 := Z_ hbq28; clear hbq28; by_cases c29 : (bq28 = true)
                ·subst c29
                 rw [if_pos rfl] at H; by_cases c30 : ((rd_T39 l0_1 x10_3).f0) < (x4_3.length : Int)
                 ·rw [if_pos c30] at H
                  have c30b0 : decide (((rd_T39 l0_1 x10_3).f0) < (x4_3.length : Int)) = true := eT_ c30; clear c30; by_cases c31 : ((rd_T39 l0_1 x10_3).f1) < (x4_3.length : Int)
                  ·rw [if_pos c31] at H
                   have c31b0 : decide (((rd_T39 l0_1 x10_3).f1) < (x4_3.length : Int)) = true := eT_ c31; clear c31; have H' := Z_ H; clear H; try go_wp2
                   have n0_ : Aside0 (Kd.R (Kd.int .i64) 3 (((w19.setCell ⟨gb348, 0, none⟩ (.int .i64 ((rd_T39 l0_1 x10_3).f0))).setCell ⟨gb348, 1, none⟩ (.int .i64 ((rd_T39 l0_1 x10_3).f1))).setCell ⟨gb348, 2, none⟩ (.int .i64 ((rd_T39 l0_1 x10_3).f2))) w.heap.size (fun _ => True) u4 x4_3) := ⟨by (with_reducible repeat (first | apply rN_ | apply rD_)); exact rM_ (rF_ (p := ⟨gb348, 2, none⟩) (rF_ (p := ⟨gb348, 1, none⟩) (rF_ (p := ⟨gb348, 0, none⟩) (Kd.R_types HO_4.out BK348.out (by decide)) (fun _ hk => hk.2) (.int .i64 ((rd_T39 l0_1 x10_3).f0))) (fun _ hk => hk.2) (.int .i64 ((rd_T39 l0_1 x10_3).f1))) (fun _ hk => hk.2) (.int .i64 ((rd_T39 l0_1 x10_3).f2))) (fun _ hk => trivial)⟩; have n1_ : Aside0 (Kd.R Kd.bool 4 (((w19.setCell ⟨gb348, 0, none⟩ (.int .i64 ((rd_T39 l0_1 x10_3).f0))).setCell ⟨gb348, 1, none⟩ (.int .i64 ((rd_T39 l0_1 x10_3).f1))).setCell ⟨gb348, 2, none⟩ (.int .i64 ((rd_T39 l0_1 x10_3).f2))) w.heap.size (fun _ => True) u5 x5_3) := ⟨by (with_reducible repeat (first | apply rN_ | apply rD_)); exact rM_ (rF_ (p := ⟨gb348, 2, none⟩) (rF_ (p := ⟨gb348, 1, none⟩) (rF_ (p := ⟨gb348, 0, none⟩) (Kd.R_types HO_5.out BK348.out (by decide)) (fun _ hk => hk.2) (.int .i64 ((rd_T39 l0_1 x10_3).f0))) (fun _ hk => hk.2) (.int .i64 ((rd_T39 l0_1 x10_3).f1))) (fun _ hk => hk.2) (.int .i64 ((rd_T39 l0_1 x10_3).f2))) (fun _ hk => trivial)⟩; have n2_ : Aside0 ((((w19.setCell ⟨gb348, 0, none⟩ (.int .i64 ((rd_T39 l0_1 x10_3).f0))).setCell ⟨gb348, 1, none⟩ (.int .i64 ((rd_T39 l0_1 x10_3).f1))).setCell ⟨gb348, 2, none⟩ (.int .i64 ((rd_T39 l0_1 x10_3).f2))).heap[gb339]? = some (.cells #[.int .i64 a0_0, .slice (some ad347) l0_1.length c0_1] 24 (0, 0))) := ⟨by (with_reducible repeat (first | refine bN_ ?_ _ | refine bD_ ?_)); refine blk_far ?_ NB339_348.out _; (with_reducible repeat (first | refine bN_ ?_ _ | refine bD_ ?_)); refine blk_far ?_ NB339_348.out _; (with_reducible repeat (first | refine bN_ ?_ _ | refine bD_ ?_)); refine blk_far ?_ NB339_348.out _; (with_reducible repeat (first | refine bN_ ?_ _ | refine bD_ ?_)); exact BK339.out⟩; have n3_ : Aside0 ((((w19.setCell ⟨gb348, 0, none⟩ (.int .i64 ((rd_T39 l0_1 x10_3).f0))).setCell ⟨gb348, 1, none⟩ (.int .i64 ((rd_T39 l0_1 x10_3).f1))).setCell ⟨gb348, 2, none⟩ (.int .i64 ((rd_T39 l0_1 x10_3).f2))).heap[gb348]? = some (.cells #[.int .i64 ((rd_T39 l0_1 x10_3).f0), .int .i64 ((rd_T39 l0_1 x10_3).f1), .int .i64 ((rd_T39 l0_1 x10_3).f2)] 39 (0, 0))) := ⟨by (with_reducible repeat (first | refine bN_ ?_ _ | refine bD_ ?_)); refine blk_put (cs := #[.int .i64 ((rd_T39 l0_1 x10_3).f0), .int .i64 ((rd_T39 l0_1 x10_3).f1), .int .i64 0]) ?_ 2 _ rfl; (with_reducible repeat (first | refine bN_ ?_ _ | refine bD_ ?_)); refine blk_put (cs := #[.int .i64 ((rd_T39 l0_1 x10_3).f0), .int .i64 0, .int .i64 0]) ?_ 1 _ rfl; (with_reducible repeat (first | refine bN_ ?_ _ | refine bD_ ?_)); refine blk_put (cs := #[.int .i64 0, .int .i64 0, .int .i64 0]) ?_ 0 _ rfl; (with_reducible repeat (first | refine bN_ ?_ _ | refine bD_ ?_)); exact BK348.out⟩; have n4_ : Aside0 (Below w.heap.size w (((w19.setCell ⟨gb348, 0, none⟩ (.int .i64 ((rd_T39 l0_1 x10_3).f0))).setCell ⟨gb348, 1, none⟩ (.int .i64 ((rd_T39 l0_1 x10_3).f1))).setCell ⟨gb348, 2, none⟩ (.int .i64 ((rd_T39 l0_1 x10_3).f2)))) := ⟨hB_⟩; (try clear HO_4)
                   (try clear HO_5)
                   (try clear BK339)
                   (try clear BK348)
                   (try clear HB)
                   generalize (((w19.setCell ⟨gb348, 0, none⟩ (.int .i64 ((rd_T39 l0_1 x10_3).f0))).setCell ⟨gb348, 1, none⟩ (.int .i64 ((rd_T39 l0_1 x10_3).f1))).setCell ⟨gb348, 2, none⟩ (.int .i64 ((rd_T39 l0_1 x10_3).f2))) = w32 at n0_ n1_ n2_ n3_ n4_ ⊢; have HO_4 := n0_; have HO_5 := n1_; have BK339 := n2_; have BK348 := n3_; have HB := n4_; clear n0_ n1_ n2_ n3_ n4_; replace HO_4 := Z_ (rD_ HO_4.out); replace HO_5 := Z_ (rD_ HO_5.out); replace BK339 := Z_ (bD_ BK339.out); replace BK348 := Z_ (bD_ BK348.out); replace HB := Z_ (fD_ HB.out); obtain ⟨Ao34, co34, eo34⟩ := rS_ HO_5.out; (first | subst eo34 | (injection eo34 with f1_ f2_ f3_; have f4_ := f1_.symm; have f5_ := f3_.symm; clear f1_ f2_ f3_; subst f4_; subst f5_))
                   have p349 : 0 ≤ (((rd_T39 l0_1 x10_3).f0) : Int) := dT_ as_; have q349 : ((rd_T39 l0_1 x10_3).f0) < (x5_3.length : Int) := dT_ as_; obtain ⟨ad349, e349, hx349_0⟩ := Kd.at_bool (rR_ HO_5.out).2.2 ((rd_T39 l0_1 x10_3).f0) p349 q349; (try rw [← Nbq24.out] at hx349_0)
                   (try rw [← Nbq28.out] at hx349_0)
                   cases e349
                   replace p349 := eq_true p349; replace q349 := eq_true q349; have p350 : 0 ≤ (((rd_T39 l0_1 x10_3).f1) : Int) := dT_ as_; have q350 : ((rd_T39 l0_1 x10_3).f1) < (x5_3.length : Int) := dT_ as_; obtain ⟨ad350, e350, hx350_0⟩ := Kd.at_bool (rR_ HO_5.out).2.2 ((rd_T39 l0_1 x10_3).f1) p350 q350; (try rw [← Nbq24.out] at hx350_0)
                   (try rw [← Nbq28.out] at hx350_0)
                   obtain rfl : ad349 = ad350 := (by injection e350); replace p350 := eq_true p350; replace q350 := eq_true q350; obtain ⟨Ao35, co35, eo35⟩ := rS_ HO_4.out; (first | subst eo35 | (injection eo35 with f1_ f2_ f3_; have f4_ := f1_.symm; have f5_ := f3_.symm; clear f1_ f2_ f3_; subst f4_; subst f5_))
                   have p351 : 0 ≤ (((rd_T39 l0_1 x10_3).f0) : Int) := dT_ as_; have q351 : ((rd_T39 l0_1 x10_3).f0) < (x4_3.length : Int) := dT_ as_; obtain ⟨ad351, e351, hx351_0⟩ := Kd.at_int (rR_ HO_4.out).2.2 ((rd_T39 l0_1 x10_3).f0) p351 q351; cases e351
                   replace p351 := eq_true p351; replace q351 := eq_true q351; have p352 : 0 ≤ (((rd_T39 l0_1 x10_3).f1) : Int) := dT_ as_; have q352 : ((rd_T39 l0_1 x10_3).f1) < (x4_3.length : Int) := dT_ as_; obtain ⟨ad352, e352, hx352_0⟩ := Kd.at_int (rR_ HO_4.out).2.2 ((rd_T39 l0_1 x10_3).f1) p352 q352; obtain rfl : ad351 = ad352 := (by injection e352); replace p352 := eq_true p352; replace q352 := eq_true q352; refine start_ (n := 29) (S := fun w' => w'.cell? ⟨gb348, 0, none⟩ = some (.int .i64 ((rd_T39 l0_1 x10_3).f0)) ∧ w'.cell? ⟨gb348, 1, none⟩ = some (.int .i64 ((rd_T39 l0_1 x10_3).f1)) ∧ w'.cell? ⟨gb348, 2, none⟩ = some (.int .i64 ((rd_T39 l0_1 x10_3).f2)) ∧ w'.cell? (ad349.add (((rd_T39 l0_1 x10_3).f0)).toNat) = some (.bool true) ∧ w'.cell? (ad349.add (((rd_T39 l0_1 x10_3).f1)).toNat) = some (.bool true) ∧ w'.cell? (ad351.add (((rd_T39 l0_1 x10_3).f0)).toNat) = some (.int .i64 (rd x4_3 ((rd_T39 l0_1 x10_3).f0))) ∧ w'.cell? (ad351.add (((rd_T39 l0_1 x10_3).f1)).toNat) = some (.int .i64 (rd x4_3 ((rd_T39 l0_1 x10_3).f1)))) (ds := []) #[false, false, false, false, false, false, false, false, false, false, false, false, false, false, false, false, false, false, false, false, false, false, false, false, false, false, false, false, false] (by kernel_rfl) rfl rfl ⟨(bC_ BK348.out 0).trans rfl, (bC_ BK348.out 1).trans rfl, (bC_ BK348.out 2).trans rfl, hx349_0, hx350_0, hx351_0, hx352_0⟩ (fun hHeld => ?_); refine with_tabW snowlineref04_Lengths.tab14 snowlineref04_Lengths.bits14 (fun HT_ HW_ => ?_); generalize w32.drew = w33 at HO_4 HO_5 BK339 BK348 HB hx349_0 hx350_0 hx351_0 hx352_0 hHeld ⊢; refine pP_ 0 46 ?_; refine pP_ 1 47 ?_; refine pT_ 2 48 ?_; refine pP_ 3 49 ?_; refine pT_ 4 50 ?_; refine pP_ 5 51 ?_; refine pP_ 6 52 ?_; refine pP_ 7 53 ?_; refine pT_ 8 54 ?_; refine pP_ 9 55 ?_; refine pT_ 10 56 ?_; refine pP_ 11 57 ?_; refine pP_ 12 58 ?_; refine pP_ 13 59 ?_; refine pP_ 14 60 ?_; refine pP_ 18 64 ?_; refine pP_ 21 67 ?_; refine pP_ 22 68 ?_; refine pT_ 15 61 ?_; refine pP_ 16 62 ?_; refine pT_ 17 63 ?_; refine pT_ 19 65 ?_; refine pP_ 20 66 ?_; refine pT_ 23 69 ?_; refine pP_ 24 70 ?_; refine pT_ 25 71 ?_; refine pP_ 26 72 ?_; refine pP_ 27 73 ?_; refine pP_ 28 74 ?_; refine dN_ ?_; try go_wp2
                   go_meet
                   case rel => exact ⟨_, (decide ((wrap64 ((rd x4_3 ((rd_T39 l0_1 x10_3).f0)) + ((rd_T39 l0_1 x10_3).f2))) < (rd x4_3 ((rd_T39 l0_1 x10_3).f1)))), rf_, H', ⟨by have := HK1.out; have := HK2.out; have := HK3.out; first | omega | exact nR_ _⟩, ⟨rK_ HO_4.out⟩, ⟨rK_ HO_5.out⟩, ⟨bR_ BK339.out⟩, ⟨bR_ BK348.out⟩, ⟨hB_⟩⟩
                  rw [if_neg c31] at H; exact absurd H (by simp)
                 rw [if_neg c30] at H; exact absurd H (by simp)
                replace c29 := bE_.mpr c29; subst c29; have H1 : (snowlineref04_Lengths.j3 k3 x4_3 x5_3 x8_2 x9_3 x10_3 true a0_0 l0_1 ((rd_T39 l0_1 x10_3).f0) ((rd_T39 l0_1 x10_3).f1) ((rd_T39 l0_1 x10_3).f2)) = some (r1, r2, r3) := by rw [if_neg (show ¬ (false = true) by decide)] at H; exact H
                clear H; have H := H1; clear H1; have H' := Z_ H; clear H; try go_wp2
                have n0_ : Aside0 (Kd.R (Kd.int .i64) 3 (((w19.setCell ⟨gb348, 0, none⟩ (.int .i64 ((rd_T39 l0_1 x10_3).f0))).setCell ⟨gb348, 1, none⟩ (.int .i64 ((rd_T39 l0_1 x10_3).f1))).setCell ⟨gb348, 2, none⟩ (.int .i64 ((rd_T39 l0_1 x10_3).f2))) w.heap.size (fun _ => True) u4 x4_3) := ⟨by (with_reducible repeat (first | apply rN_ | apply rD_)); exact rM_ (rF_ (p := ⟨gb348, 2, none⟩) (rF_ (p := ⟨gb348, 1, none⟩) (rF_ (p := ⟨gb348, 0, none⟩) (Kd.R_types HO_4.out BK348.out (by decide)) (fun _ hk => hk.2) (.int .i64 ((rd_T39 l0_1 x10_3).f0))) (fun _ hk => hk.2) (.int .i64 ((rd_T39 l0_1 x10_3).f1))) (fun _ hk => hk.2) (.int .i64 ((rd_T39 l0_1 x10_3).f2))) (fun _ hk => trivial)⟩; have n1_ : Aside0 (Kd.R Kd.bool 4 (((w19.setCell ⟨gb348, 0, none⟩ (.int .i64 ((rd_T39 l0_1 x10_3).f0))).setCell ⟨gb348, 1, none⟩ (.int .i64 ((rd_T39 l0_1 x10_3).f1))).setCell ⟨gb348, 2, none⟩ (.int .i64 ((rd_T39 l0_1 x10_3).f2))) w.heap.size (fun _ => True) u5 x5_3) := ⟨by (with_reducible repeat (first | apply rN_ | apply rD_)); exact rM_ (rF_ (p := ⟨gb348, 2, none⟩) (rF_ (p := ⟨gb348, 1, none⟩) (rF_ (p := ⟨gb348, 0, none⟩) (Kd.R_types HO_5.out BK348.out (by decide)) (fun _ hk => hk.2) (.int .i64 ((rd_T39 l0_1 x10_3).f0))) (fun _ hk => hk.2) (.int .i64 ((rd_T39 l0_1 x10_3).f1))) (fun _ hk => hk.2) (.int .i64 ((rd_T39 l0_1 x10_3).f2))) (fun _ hk => trivial)⟩; have n2_ : Aside0 ((((w19.setCell ⟨gb348, 0, none⟩ (.int .i64 ((rd_T39 l0_1 x10_3).f0))).setCell ⟨gb348, 1, none⟩ (.int .i64 ((rd_T39 l0_1 x10_3).f1))).setCell ⟨gb348, 2, none⟩ (.int .i64 ((rd_T39 l0_1 x10_3).f2))).heap[gb339]? = some (.cells #[.int .i64 a0_0, .slice (some ad347) l0_1.length c0_1] 24 (0, 0))) := ⟨by (with_reducible repeat (first | refine bN_ ?_ _ | refine bD_ ?_)); refine blk_far ?_ NB339_348.out _; (with_reducible repeat (first | refine bN_ ?_ _ | refine bD_ ?_)); refine blk_far ?_ NB339_348.out _; (with_reducible repeat (first | refine bN_ ?_ _ | refine bD_ ?_)); refine blk_far ?_ NB339_348.out _; (with_reducible repeat (first | refine bN_ ?_ _ | refine bD_ ?_)); exact BK339.out⟩; have n3_ : Aside0 ((((w19.setCell ⟨gb348, 0, none⟩ (.int .i64 ((rd_T39 l0_1 x10_3).f0))).setCell ⟨gb348, 1, none⟩ (.int .i64 ((rd_T39 l0_1 x10_3).f1))).setCell ⟨gb348, 2, none⟩ (.int .i64 ((rd_T39 l0_1 x10_3).f2))).heap[gb348]? = some (.cells #[.int .i64 ((rd_T39 l0_1 x10_3).f0), .int .i64 ((rd_T39 l0_1 x10_3).f1), .int .i64 ((rd_T39 l0_1 x10_3).f2)] 39 (0, 0))) := ⟨by (with_reducible repeat (first | refine bN_ ?_ _ | refine bD_ ?_)); refine blk_put (cs := #[.int .i64 ((rd_T39 l0_1 x10_3).f0), .int .i64 ((rd_T39 l0_1 x10_3).f1), .int .i64 0]) ?_ 2 _ rfl; (with_reducible repeat (first | refine bN_ ?_ _ | refine bD_ ?_)); refine blk_put (cs := #[.int .i64 ((rd_T39 l0_1 x10_3).f0), .int .i64 0, .int .i64 0]) ?_ 1 _ rfl; (with_reducible repeat (first | refine bN_ ?_ _ | refine bD_ ?_)); refine blk_put (cs := #[.int .i64 0, .int .i64 0, .int .i64 0]) ?_ 0 _ rfl; (with_reducible repeat (first | refine bN_ ?_ _ | refine bD_ ?_)); exact BK348.out⟩; have n4_ : Aside0 (Below w.heap.size w (((w19.setCell ⟨gb348, 0, none⟩ (.int .i64 ((rd_T39 l0_1 x10_3).f0))).setCell ⟨gb348, 1, none⟩ (.int .i64 ((rd_T39 l0_1 x10_3).f1))).setCell ⟨gb348, 2, none⟩ (.int .i64 ((rd_T39 l0_1 x10_3).f2)))) := ⟨hB_⟩; (try clear HO_4)
                (try clear HO_5)
                (try clear BK339)
                (try clear BK348)
                (try clear HB)
                generalize (((w19.setCell ⟨gb348, 0, none⟩ (.int .i64 ((rd_T39 l0_1 x10_3).f0))).setCell ⟨gb348, 1, none⟩ (.int .i64 ((rd_T39 l0_1 x10_3).f1))).setCell ⟨gb348, 2, none⟩ (.int .i64 ((rd_T39 l0_1 x10_3).f2))) = w36 at n0_ n1_ n2_ n3_ n4_ ⊢; have HO_4 := n0_; have HO_5 := n1_; have BK339 := n2_; have BK348 := n3_; have HB := n4_; clear n0_ n1_ n2_ n3_ n4_; replace HO_4 := Z_ (rD_ HO_4.out); replace HO_5 := Z_ (rD_ HO_5.out); replace BK339 := Z_ (bD_ BK339.out); replace BK348 := Z_ (bD_ BK348.out); replace HB := Z_ (fD_ HB.out); obtain ⟨Ao38, co38, eo38⟩ := rS_ HO_5.out; (first | subst eo38 | (injection eo38 with f1_ f2_ f3_; have f4_ := f1_.symm; have f5_ := f3_.symm; clear f1_ f2_ f3_; subst f4_; subst f5_))
                have p349 : 0 ≤ (((rd_T39 l0_1 x10_3).f0) : Int) := dT_ as_; have q349 : ((rd_T39 l0_1 x10_3).f0) < (x5_3.length : Int) := dT_ as_; obtain ⟨ad349, e349, hx349_0⟩ := Kd.at_bool (rR_ HO_5.out).2.2 ((rd_T39 l0_1 x10_3).f0) p349 q349; (try rw [← Nbq24.out] at hx349_0)
                (try rw [← Nbq28.out] at hx349_0)
                cases e349
                replace p349 := eq_true p349; replace q349 := eq_true q349; have p350 : 0 ≤ (((rd_T39 l0_1 x10_3).f1) : Int) := dT_ as_; have q350 : ((rd_T39 l0_1 x10_3).f1) < (x5_3.length : Int) := dT_ as_; obtain ⟨ad350, e350, hx350_0⟩ := Kd.at_bool (rR_ HO_5.out).2.2 ((rd_T39 l0_1 x10_3).f1) p350 q350; (try rw [← Nbq24.out] at hx350_0)
                (try rw [← Nbq28.out] at hx350_0)
                obtain rfl : ad349 = ad350 := (by injection e350); replace p350 := eq_true p350; replace q350 := eq_true q350; refine start_ (n := 29) (S := fun w' => w'.cell? ⟨gb348, 0, none⟩ = some (.int .i64 ((rd_T39 l0_1 x10_3).f0)) ∧ w'.cell? ⟨gb348, 1, none⟩ = some (.int .i64 ((rd_T39 l0_1 x10_3).f1)) ∧ w'.cell? ⟨gb348, 2, none⟩ = some (.int .i64 ((rd_T39 l0_1 x10_3).f2)) ∧ w'.cell? (ad349.add (((rd_T39 l0_1 x10_3).f0)).toNat) = some (.bool true) ∧ w'.cell? (ad349.add (((rd_T39 l0_1 x10_3).f1)).toNat) = some (.bool false)) (ds := []) #[false, false, false, false, false, false, false, false, false, false, false, false, false, false, false, false, false, false, false, false, false, false, false, false, false, false, false, false, false] (by kernel_rfl) rfl rfl ⟨(bC_ BK348.out 0).trans rfl, (bC_ BK348.out 1).trans rfl, (bC_ BK348.out 2).trans rfl, hx349_0, hx350_0⟩ (fun hHeld => ?_); refine with_tabW snowlineref04_Lengths.tab14 snowlineref04_Lengths.bits14 (fun HT_ HW_ => ?_); generalize w36.drew = w37 at HO_4 HO_5 BK339 BK348 HB hx349_0 hx350_0 hHeld ⊢; refine pP_ 0 46 ?_; refine pP_ 1 47 ?_; refine pT_ 2 48 ?_; refine pP_ 3 49 ?_; refine pT_ 4 50 ?_; refine pP_ 5 51 ?_; refine pP_ 6 52 ?_; refine pP_ 7 53 ?_; refine pT_ 8 54 ?_; refine pP_ 9 55 ?_; refine pT_ 10 56 ?_; refine pP_ 11 57 ?_; refine pP_ 12 58 ?_; refine pU_ 13 59 ?_; refine pU_ 14 60 ?_; refine pU_ 15 61 ?_; refine pU_ 16 62 ?_; refine pU_ 17 63 ?_; refine pU_ 18 64 ?_; refine pU_ 19 65 ?_; refine pU_ 20 66 ?_; refine pU_ 21 67 ?_; refine pU_ 22 68 ?_; refine pU_ 23 69 ?_; refine pU_ 24 70 ?_; refine pU_ 25 71 ?_; refine pU_ 26 72 ?_; refine pP_ 27 73 ?_; refine pP_ 28 74 ?_; refine dN_ ?_; try go_wp2
                go_meet
                case rel => exact ⟨_, (true), rf_, H', ⟨by have := HK1.out; have := HK2.out; have := HK3.out; first | omega | exact nR_ _⟩, ⟨rK_ HO_4.out⟩, ⟨rK_ HO_5.out⟩, ⟨bR_ BK339.out⟩, ⟨bR_ BK348.out⟩, ⟨hB_⟩⟩
               rw [if_neg c27] at H; exact absurd H (by simp)
              rw [if_neg c26] at H; exact absurd H (by simp)
             replace c25 := bE_.mpr c25; subst c25; have H1 : (snowlineref04_Lengths.j3 k3 x4_3 x5_3 x8_2 x9_3 x10_3 false a0_0 l0_1 ((rd_T39 l0_1 x10_3).f0) ((rd_T39 l0_1 x10_3).f1) ((rd_T39 l0_1 x10_3).f2)) = some (r1, r2, r3) := by rw [if_neg (show ¬ (false = true) by decide)] at H; exact H
             clear H; have H := H1; clear H1; have H' := Z_ H; clear H; try go_wp2
             have n0_ : Aside0 (Kd.R (Kd.int .i64) 3 (((w19.setCell ⟨gb348, 0, none⟩ (.int .i64 ((rd_T39 l0_1 x10_3).f0))).setCell ⟨gb348, 1, none⟩ (.int .i64 ((rd_T39 l0_1 x10_3).f1))).setCell ⟨gb348, 2, none⟩ (.int .i64 ((rd_T39 l0_1 x10_3).f2))) w.heap.size (fun _ => True) u4 x4_3) := ⟨by (with_reducible repeat (first | apply rN_ | apply rD_)); exact rM_ (rF_ (p := ⟨gb348, 2, none⟩) (rF_ (p := ⟨gb348, 1, none⟩) (rF_ (p := ⟨gb348, 0, none⟩) (Kd.R_types HO_4.out BK348.out (by decide)) (fun _ hk => hk.2) (.int .i64 ((rd_T39 l0_1 x10_3).f0))) (fun _ hk => hk.2) (.int .i64 ((rd_T39 l0_1 x10_3).f1))) (fun _ hk => hk.2) (.int .i64 ((rd_T39 l0_1 x10_3).f2))) (fun _ hk => trivial)⟩; have n1_ : Aside0 (Kd.R Kd.bool 4 (((w19.setCell ⟨gb348, 0, none⟩ (.int .i64 ((rd_T39 l0_1 x10_3).f0))).setCell ⟨gb348, 1, none⟩ (.int .i64 ((rd_T39 l0_1 x10_3).f1))).setCell ⟨gb348, 2, none⟩ (.int .i64 ((rd_T39 l0_1 x10_3).f2))) w.heap.size (fun _ => True) u5 x5_3) := ⟨by (with_reducible repeat (first | apply rN_ | apply rD_)); exact rM_ (rF_ (p := ⟨gb348, 2, none⟩) (rF_ (p := ⟨gb348, 1, none⟩) (rF_ (p := ⟨gb348, 0, none⟩) (Kd.R_types HO_5.out BK348.out (by decide)) (fun _ hk => hk.2) (.int .i64 ((rd_T39 l0_1 x10_3).f0))) (fun _ hk => hk.2) (.int .i64 ((rd_T39 l0_1 x10_3).f1))) (fun _ hk => hk.2) (.int .i64 ((rd_T39 l0_1 x10_3).f2))) (fun _ hk => trivial)⟩; have n2_ : Aside0 ((((w19.setCell ⟨gb348, 0, none⟩ (.int .i64 ((rd_T39 l0_1 x10_3).f0))).setCell ⟨gb348, 1, none⟩ (.int .i64 ((rd_T39 l0_1 x10_3).f1))).setCell ⟨gb348, 2, none⟩ (.int .i64 ((rd_T39 l0_1 x10_3).f2))).heap[gb339]? = some (.cells #[.int .i64 a0_0, .slice (some ad347) l0_1.length c0_1] 24 (0, 0))) := ⟨by (with_reducible repeat (first | refine bN_ ?_ _ | refine bD_ ?_)); refine blk_far ?_ NB339_348.out _; (with_reducible repeat (first | refine bN_ ?_ _ | refine bD_ ?_)); refine blk_far ?_ NB339_348.out _; (with_reducible repeat (first | refine bN_ ?_ _ | refine bD_ ?_)); refine blk_far ?_ NB339_348.out _; (with_reducible repeat (first | refine bN_ ?_ _ | refine bD_ ?_)); exact BK339.out⟩; have n3_ : Aside0 ((((w19.setCell ⟨gb348, 0, none⟩ (.int .i64 ((rd_T39 l0_1 x10_3).f0))).setCell ⟨gb348, 1, none⟩ (.int .i64 ((rd_T39 l0_1 x10_3).f1))).setCell ⟨gb348, 2, none⟩ (.int .i64 ((rd_T39 l0_1 x10_3).f2))).heap[gb348]? = some (.cells #[.int .i64 ((rd_T39 l0_1 x10_3).f0), .int .i64 ((rd_T39 l0_1 x10_3).f1), .int .i64 ((rd_T39 l0_1 x10_3).f2)] 39 (0, 0))) := ⟨by (with_reducible repeat (first | refine bN_ ?_ _ | refine bD_ ?_)); refine blk_put (cs := #[.int .i64 ((rd_T39 l0_1 x10_3).f0), .int .i64 ((rd_T39 l0_1 x10_3).f1), .int .i64 0]) ?_ 2 _ rfl; (with_reducible repeat (first | refine bN_ ?_ _ | refine bD_ ?_)); refine blk_put (cs := #[.int .i64 ((rd_T39 l0_1 x10_3).f0), .int .i64 0, .int .i64 0]) ?_ 1 _ rfl; (with_reducible repeat (first | refine bN_ ?_ _ | refine bD_ ?_)); refine blk_put (cs := #[.int .i64 0, .int .i64 0, .int .i64 0]) ?_ 0 _ rfl; (with_reducible repeat (first | refine bN_ ?_ _ | refine bD_ ?_)); exact BK348.out⟩; have n4_ : Aside0 (Below w.heap.size w (((w19.setCell ⟨gb348, 0, none⟩ (.int .i64 ((rd_T39 l0_1 x10_3).f0))).setCell ⟨gb348, 1, none⟩ (.int .i64 ((rd_T39 l0_1 x10_3).f1))).setCell ⟨gb348, 2, none⟩ (.int .i64 ((rd_T39 l0_1 x10_3).f2)))) := ⟨hB_⟩; (try clear HO_4)
             (try clear HO_5)
             (try clear BK339)
             (try clear BK348)
             (try clear HB)
             generalize (((w19.setCell ⟨gb348, 0, none⟩ (.int .i64 ((rd_T39 l0_1 x10_3).f0))).setCell ⟨gb348, 1, none⟩ (.int .i64 ((rd_T39 l0_1 x10_3).f1))).setCell ⟨gb348, 2, none⟩ (.int .i64 ((rd_T39 l0_1 x10_3).f2))) = w39 at n0_ n1_ n2_ n3_ n4_ ⊢; have HO_4 := n0_; have HO_5 := n1_; have BK339 := n2_; have BK348 := n3_; have HB := n4_; clear n0_ n1_ n2_ n3_ n4_; replace HO_4 := Z_ (rD_ HO_4.out); replace HO_5 := Z_ (rD_ HO_5.out); replace BK339 := Z_ (bD_ BK339.out); replace BK348 := Z_ (bD_ BK348.out); replace HB := Z_ (fD_ HB.out); obtain ⟨Ao41, co41, eo41⟩ := rS_ HO_5.out; (first | subst eo41 | (injection eo41 with f1_ f2_ f3_; have f4_ := f1_.symm; have f5_ := f3_.symm; clear f1_ f2_ f3_; subst f4_; subst f5_))
             have p349 : 0 ≤ (((rd_T39 l0_1 x10_3).f0) : Int) := dT_ as_; have q349 : ((rd_T39 l0_1 x10_3).f0) < (x5_3.length : Int) := dT_ as_; obtain ⟨ad349, e349, hx349_0⟩ := Kd.at_bool (rR_ HO_5.out).2.2 ((rd_T39 l0_1 x10_3).f0) p349 q349; (try rw [← Nbq24.out] at hx349_0)
             cases e349
             replace p349 := eq_true p349; replace q349 := eq_true q349; refine start_ (n := 29) (S := fun w' => w'.cell? ⟨gb348, 0, none⟩ = some (.int .i64 ((rd_T39 l0_1 x10_3).f0)) ∧ w'.cell? ⟨gb348, 1, none⟩ = some (.int .i64 ((rd_T39 l0_1 x10_3).f1)) ∧ w'.cell? ⟨gb348, 2, none⟩ = some (.int .i64 ((rd_T39 l0_1 x10_3).f2)) ∧ w'.cell? (ad349.add (((rd_T39 l0_1 x10_3).f0)).toNat) = some (.bool false)) (ds := []) #[false, false, false, false, false, false, false, false, false, false, false, false, false, false, false, false, false, false, false, false, false, false, false, false, false, false, false, false, false] (by kernel_rfl) rfl rfl ⟨(bC_ BK348.out 0).trans rfl, (bC_ BK348.out 1).trans rfl, (bC_ BK348.out 2).trans rfl, hx349_0⟩ (fun hHeld => ?_); refine with_tabW snowlineref04_Lengths.tab14 snowlineref04_Lengths.bits14 (fun HT_ HW_ => ?_); generalize w39.drew = w40 at HO_4 HO_5 BK339 BK348 HB hx349_0 hHeld ⊢; refine pP_ 0 46 ?_; refine pP_ 1 47 ?_; refine pT_ 2 48 ?_; refine pP_ 3 49 ?_; refine pT_ 4 50 ?_; refine pP_ 5 51 ?_; refine pU_ 6 52 ?_; refine pU_ 7 53 ?_; refine pU_ 8 54 ?_; refine pU_ 9 55 ?_; refine pU_ 10 56 ?_; refine pU_ 11 57 ?_; refine pU_ 12 58 ?_; refine pU_ 13 59 ?_; refine pU_ 14 60 ?_; refine pU_ 15 61 ?_; refine pU_ 16 62 ?_; refine pU_ 17 63 ?_; refine pU_ 18 64 ?_; refine pU_ 19 65 ?_; refine pU_ 20 66 ?_; refine pU_ 21 67 ?_; refine pU_ 22 68 ?_; refine pU_ 23 69 ?_; refine pU_ 24 70 ?_; refine pU_ 25 71 ?_; refine pU_ 26 72 ?_; refine pU_ 27 73 ?_; refine pP_ 28 74 ?_; refine dN_ ?_; try go_wp2
             go_meet
             case rel => exact ⟨_, (false), rf_, H', ⟨by have := HK1.out; have := HK2.out; have := HK3.out; first | omega | exact nR_ _⟩, ⟨rK_ HO_4.out⟩, ⟨rK_ HO_5.out⟩, ⟨bR_ BK339.out⟩, ⟨bR_ BK348.out⟩, ⟨hB_⟩⟩
            rw [if_neg c23] at H; exact absurd H (by simp)
           rw [if_neg c22] at H; exact absurd H (by simp)
          case rest =>
           clear HC17; (try clear c2); (try clear p2); (try clear q2); (try clear c3); (try clear p3); (try clear q3); (try clear hx3); (try clear p6); (try clear c22); (try clear c23); (try clear q24); (try clear c25); (try clear c26); (try clear c27); (try clear q28); (try clear c29); (try clear c30); (try clear c31); (try clear p34); (try clear q34); (try clear hx34); (try clear p35); (try clear q35); (try clear hx35); (try clear hx349_0); (try clear hx350_0); (try clear p349); (try clear p350); (try clear q349); (try clear q350)
           obtain ⟨kq, x74_16, rfl, HA, HJ16, HO_4, HO_5, BK339, BK348, HB⟩ := hcut
           cases kq with
           | zero => exact absurd HA.out (by simp [snowlineref04_Lengths.j3])
           | succ kj16 =>
            have H := HA.out; clear HA; simp only [snowlineref04_Lengths.j3] at H; by_cases c42 : x74_16 = true
            ·subst c42
             rw [if_pos rfl] at H; by_cases c43 : 0 ≤ ((rd_T39 l0_1 x10_3).f0)
             ·rw [if_pos c43] at H
              have c43b0 : decide (0 ≤ ((rd_T39 l0_1 x10_3).f0)) = true := eT_ c43; clear c43; by_cases c44 : ((rd_T39 l0_1 x10_3).f0) < (x4_3.length : Int)
              ·rw [if_pos c44] at H
               have c44b0 : decide (((rd_T39 l0_1 x10_3).f0) < (x4_3.length : Int)) = true := eT_ c44; clear c44; by_cases c45 : 0 ≤ ((rd_T39 l0_1 x10_3).f1)
               ·rw [if_pos c45] at H
                have c45b0 : decide (0 ≤ ((rd_T39 l0_1 x10_3).f1)) = true := eT_ c45; clear c45; by_cases c46 : ((rd_T39 l0_1 x10_3).f1) < (x4_3.length : Int)
                ·rw [if_pos c46] at H
                 have c46b0 : decide (((rd_T39 l0_1 x10_3).f1) < (x4_3.length : Int)) = true := eT_ c46; clear c46; obtain ⟨y354, hy354⟩ : ∃ y_ : List Int, y_ = (x4_3.set (((rd_T39 l0_1 x10_3).f1) : Int).toNat (wrap64 ((rd x4_3 ((rd_T39 l0_1 x10_3).f0)) + ((rd_T39 l0_1 x10_3).f2)))) := ⟨_, rfl⟩; replace H : (if ((rd_T39 l0_1 x10_3).f1) < (x5_3.length : Int) then (snowlineref04_Lengths.l2 kj16 y354 (x5_3.set (((rd_T39 l0_1 x10_3).f1) : Int).toNat true) x8_2 true (wrap64 (x10_3 + 1)) a0_0 l0_1) else (none)) = some (r1, r2, r3) := by first | (rw [hy354]; with_reducible exact H) | (have H2_ := (oB_ _ _).symm.trans H; rw [hy354]; with_reducible exact H2_) | (have H2_ := (oB_ _ _).symm.trans H; with_reducible exact H2_) | with_reducible exact H | (rw [hy354]; exact H) | exact H
                 have Ny354 := Z_ hy354; clear hy354; by_cases c48 : ((rd_T39 l0_1 x10_3).f1) < (x5_3.length : Int)
                 ·rw [if_pos c48] at H
                  have c48b0 : decide (((rd_T39 l0_1 x10_3).f1) < (x5_3.length : Int)) = true := eT_ c48; clear c48; obtain ⟨y355, hy355⟩ : ∃ y_ : List Bool, y_ = (x5_3.set (((rd_T39 l0_1 x10_3).f1) : Int).toNat true) := ⟨_, rfl⟩; replace H : (snowlineref04_Lengths.l2 kj16 y354 y355 x8_2 true (wrap64 (x10_3 + 1)) a0_0 l0_1) = some (r1, r2, r3) := by first | (rw [hy355]; with_reducible exact H) | (have H2_ := (oB_ _ _).symm.trans H; rw [hy355]; with_reducible exact H2_) | (have H2_ := (oB_ _ _).symm.trans H; with_reducible exact H2_) | with_reducible exact H | (rw [hy355]; exact H) | exact H
                  have Ny355 := Z_ hy355; clear hy355; have H' := Z_ H; clear H; try go_wp2
                  replace HO_4 := Z_ (rD_ HO_4.out); replace HO_5 := Z_ (rD_ HO_5.out); replace BK339 := Z_ (bD_ BK339.out); replace BK348 := Z_ (bD_ BK348.out); replace HB := Z_ (fD_ HB.out); obtain ⟨Ao51, co51, eo51⟩ := rS_ HO_4.out; (first | subst eo51 | (injection eo51 with f1_ f2_ f3_; have f4_ := f1_.symm; have f5_ := f3_.symm; clear f1_ f2_ f3_; subst f4_; subst f5_))
                  have p353 : 0 ≤ (((rd_T39 l0_1 x10_3).f0) : Int) := dT_ as_; have q353 : ((rd_T39 l0_1 x10_3).f0) < (x4_3.length : Int) := dT_ as_; obtain ⟨ad353, e353, hx353_0⟩ := Kd.at_int (rR_ HO_4.out).2.2 ((rd_T39 l0_1 x10_3).f0) p353 q353; cases e353
                  replace p353 := eq_true p353; replace q353 := eq_true q353; have p47 : 0 ≤ (((rd_T39 l0_1 x10_3).f1) : Int) := dT_ as_; have q47 : (((rd_T39 l0_1 x10_3).f1) : Int) < ((x4_3.length : Int) : Int) := dT_ as_; obtain ⟨go47, co47, eo47, gb47, gl47, cl47, HG47⟩ := Kd.R_form HO_4.out (by omega); (first | cases eo47 | (injection eo47 with ea_ en_ ec_; (first | subst ea_ | (injection ea_ with ea_; subst ea_)); subst ec_; clear en_))
                  have GB47 := Z_ gb47; have GG47 := Z_ HG47; clear gb47 gl47 HG47; (first | simp only [add_plain] at hx353_0 | skip)
                  obtain ⟨hx47_0, hf47_0⟩ := Kd.R_celln 0 HO_4.out (((rd_T39 l0_1 x10_3).f1) : Int) p47 q47; replace p47 := eq_true p47; replace q47 := eq_true q47; have HP52 := Kd.R_putn HO_4.out (((rd_T39 l0_1 x10_3).f1) : Int) (wrap64 ((rd x4_3 ((rd_T39 l0_1 x10_3).f0)) + ((rd_T39 l0_1 x10_3).f2))); rw [← Ny354.out] at HP52; have HQ52 := Z_ HP52; clear HP52; refine start_ (n := 13) (S := fun w' => w'.cell? ⟨gb348, 0, none⟩ = some (.int .i64 ((rd_T39 l0_1 x10_3).f0)) ∧ w'.cell? ⟨gb348, 1, none⟩ = some (.int .i64 ((rd_T39 l0_1 x10_3).f1)) ∧ w'.cell? ⟨gb348, 2, none⟩ = some (.int .i64 ((rd_T39 l0_1 x10_3).f2)) ∧ w'.cell? ⟨go47, (((rd_T39 l0_1 x10_3).f0)).toNat, none⟩ = some (.int .i64 (rd x4_3 ((rd_T39 l0_1 x10_3).f0)))) (ds := [12]) #[false, false, false, false, false, false, false, false, false, false, false, false, false] (by kernel_rfl) rfl rfl ⟨(bC_ BK348.out 0).trans rfl, (bC_ BK348.out 1).trans rfl, (bC_ BK348.out 2).trans rfl, hx353_0⟩ (fun hHeld => ?_); refine with_tabW snowlineref04_Lengths.tab15 snowlineref04_Lengths.bits15 (fun HT_ HW_ => ?_); generalize wc.drew = w50 at HO_4 HO_5 BK339 BK348 HB GG47 HQ52 hf47_0 hx353_0 hx47_0 hHeld ⊢; refine pP_ 0 75 ?_; refine pP_ 1 76 ?_; refine pP_ 3 78 ?_; refine pP_ 4 79 ?_; refine pP_ 8 83 ?_; refine pT_ 2 77 ?_; refine pT_ 5 80 ?_; refine pP_ 6 81 ?_; refine pT_ 7 82 ?_; refine pT_ 9 84 ?_; refine pP_ 10 85 ?_; refine pP_ 11 86 ?_; refine lN_ 12 none (fun K hK => ?_); refine skip_ (w1 := ?_) (by rfl) rfl ?_ ?_; rotate_left
                  ·go_simp
                   rfl
                  refine hK.out _ _ ?_; clear hK K; refine dN_ ?_; have n0_ : Aside0 (Kd.R (Kd.int .i64) 3 (w50.setCell ⟨go47, (((rd_T39 l0_1 x10_3).f1) : Int).toNat, none⟩ (.int .i64 (wrap64 ((rd x4_3 ((rd_T39 l0_1 x10_3).f0)) + ((rd_T39 l0_1 x10_3).f2))))) w.heap.size (fun _ => True) (.slice (some ⟨go47, 0, none⟩) x4_3.length co51) y354) := ⟨rK_ HQ52.out⟩; have n1_ : Aside0 (Kd.R Kd.bool 4 (w50.setCell ⟨go47, (((rd_T39 l0_1 x10_3).f1) : Int).toNat, none⟩ (.int .i64 (wrap64 ((rd x4_3 ((rd_T39 l0_1 x10_3).f0)) + ((rd_T39 l0_1 x10_3).f2))))) w.heap.size (fun _ => True) u5 x5_3) := ⟨by (with_reducible repeat (first | apply rN_ | apply rD_)); exact rM_ (rF_ (p := ⟨go47, (((rd_T39 l0_1 x10_3).f1) : Int).toNat, none⟩) (Kd.R_types HO_5.out GG47.out (by decide)) (fun _ hk => hk.2) (.int .i64 (wrap64 ((rd x4_3 ((rd_T39 l0_1 x10_3).f0)) + ((rd_T39 l0_1 x10_3).f2))))) (fun _ hk => trivial)⟩; have n2_ : Aside0 ((w50.setCell ⟨go47, (((rd_T39 l0_1 x10_3).f1) : Int).toNat, none⟩ (.int .i64 (wrap64 ((rd x4_3 ((rd_T39 l0_1 x10_3).f0)) + ((rd_T39 l0_1 x10_3).f2))))).heap[gb339]? = some (.cells #[.int .i64 a0_0, .slice (some ad347) l0_1.length c0_1] 24 (0, 0))) := ⟨by (with_reducible repeat (first | refine bN_ ?_ _ | refine bD_ ?_)); refine blk_far ?_ (by have h_ := Kd.R_ne HO_4.out BK339.out (by decide); intro e_; exact h_ (by rw [e_]; rfl)) _; (with_reducible repeat (first | refine bN_ ?_ _ | refine bD_ ?_)); exact BK339.out⟩; have n3_ : Aside0 ((w50.setCell ⟨go47, (((rd_T39 l0_1 x10_3).f1) : Int).toNat, none⟩ (.int .i64 (wrap64 ((rd x4_3 ((rd_T39 l0_1 x10_3).f0)) + ((rd_T39 l0_1 x10_3).f2))))).heap[gb348]? = some (.cells #[.int .i64 ((rd_T39 l0_1 x10_3).f0), .int .i64 ((rd_T39 l0_1 x10_3).f1), .int .i64 ((rd_T39 l0_1 x10_3).f2)] 39 (0, 0))) := ⟨by (with_reducible repeat (first | refine bN_ ?_ _ | refine bD_ ?_)); refine blk_far ?_ (by have h_ := Kd.R_ne HO_4.out BK348.out (by decide); intro e_; exact h_ (by rw [e_]; rfl)) _; (with_reducible repeat (first | refine bN_ ?_ _ | refine bD_ ?_)); exact BK348.out⟩; have n4_ : Aside0 (Below w.heap.size w (w50.setCell ⟨go47, (((rd_T39 l0_1 x10_3).f1) : Int).toNat, none⟩ (.int .i64 (wrap64 ((rd x4_3 ((rd_T39 l0_1 x10_3).f0)) + ((rd_T39 l0_1 x10_3).f2)))))) := ⟨hB_⟩; (try clear HO_4)
                  (try clear HO_5)
                  (try clear BK339)
                  (try clear BK348)
                  (try clear HB)
                  generalize (w50.setCell ⟨go47, (((rd_T39 l0_1 x10_3).f1) : Int).toNat, none⟩ (.int .i64 (wrap64 ((rd x4_3 ((rd_T39 l0_1 x10_3).f0)) + ((rd_T39 l0_1 x10_3).f2))))) = w53 at n0_ n1_ n2_ n3_ n4_ ⊢; have HO_4 := n0_; have HO_5 := n1_; have BK339 := n2_; have BK348 := n3_; have HB := n4_; clear n0_ n1_ n2_ n3_ n4_; have hnb54 := NB348_339.out; have hnc54 := NB339_348.out; obtain ⟨⟨hcz55_0, hcz55_1, hcz55_2⟩, hfz55_0, hfz55_1, hfz55_2⟩ := f3_ BK348.out; have p49 : 0 ≤ (((rd_T39 l0_1 x10_3).f1) : Int) := dT_ as_; have q49 : (((rd_T39 l0_1 x10_3).f1) : Int) < ((x5_3.length : Int) : Int) := dT_ as_; obtain ⟨go49, co49, eo49, gb49, gl49, cl49, HG49⟩ := Kd.R_form HO_5.out (by omega); (first | cases eo49 | (injection eo49 with ea_ en_ ec_; (first | subst ea_ | (injection ea_ with ea_; subst ea_)); subst ec_; clear en_))
                  have GB49 := Z_ gb49; have GG49 := Z_ HG49; clear gb49 gl49 HG49; obtain ⟨hx49_0, hf49_0⟩ := Kd.R_celln false HO_5.out (((rd_T39 l0_1 x10_3).f1) : Int) p49 q49; replace p49 := eq_true p49; replace q49 := eq_true q49; obtain ⟨hy56_, hz56_⟩ := Kd.R_celln false HO_5.out (((rd_T39 l0_1 x10_3).f1) : Int) (dT_ as_) (dT_ as_); have HP56 := Kd.R_putg HO_5.out (((rd_T39 l0_1 x10_3).f1) : Int) true; try go_wp2_with (first | ((with_reducible refine gate_store (t := 4) (p := 90) rfl ?_); refine store_event (t := 4) (p := 90) (v := ?vo_w57) (w1 := (w53.setCell ⟨go49, (((rd_T39 l0_1 x10_3).f1) : Int).toNat, none⟩ (.bool true))) ?hg ?ho ?hn ?hr ?_; (case ho => rfl); (case hg => rfl); (case hn => rfl); (case hr => first | (go_simp; done) | (go_simp; rfl)); intro w57 hw; have hg : w53.grownBy w57 (some go49) := (by rw [hw]; exact HP56.2); have hp_ : Kd.R Kd.bool 4 w57 w.heap.size (fun _ => True) (.slice (some ⟨go49, 0, none⟩) x5_3.length co49) y355 := (by rw [hw, Ny355.out]; exact HP56.1); clear HP56; replace HO_4 := Z_ (Kd.R_over' (v := (.slice (some ⟨go49, 0, none⟩) x5_3.length co49)) (rK_ HO_4.out) (Kd.R_typed HO_5.out) (by decide) hg); replace BK339 := Z_ (blk_grown (g := gb339) (o := .cells #[.int .i64 a0_0, .slice (some ad347) l0_1.length c0_1] 24 (0, 0)) (bR_ BK339.out) hg (Kd.R_ne HO_5.out BK339.out (by decide))); replace BK348 := Z_ (blk_grown (g := gb348) (o := .cells #[.int .i64 ((rd_T39 l0_1 x10_3).f0), .int .i64 ((rd_T39 l0_1 x10_3).f1), .int .i64 ((rd_T39 l0_1 x10_3).f2)] 39 (0, 0)) (bR_ BK348.out) hg (Kd.R_ne HO_5.out BK348.out (by decide))); replace HO_5 := Z_ (hp_); replace HB := Z_ ((by rw [hw]; exact fE_ (HB.out) GB49.out : Below w.heap.size w w57)); clear hg hw hp_))
                  go_roundg kj16
                  case measure => have := HK1.out; have := HK2.out; have := HK3.out; have := HJ16.out; omega
                  case rel => exact ⟨(y354), (y355), (true), (wrap64 (x10_3 + 1)), rf_, rf_, H', ⟨by have := HK1.out; have := HK2.out; have := HK3.out; have := HJ16.out; omega⟩, ⟨rK_ HO_4.out⟩, ⟨rK_ HO_5.out⟩, ⟨bR_ BK339.out⟩, ⟨hB_⟩⟩
                 rw [if_neg c48] at H; exact absurd H (by simp)
                rw [if_neg c46] at H; exact absurd H (by simp)
               rw [if_neg c45] at H; exact absurd H (by simp)
              rw [if_neg c44] at H; exact absurd H (by simp)
             rw [if_neg c43] at H; exact absurd H (by simp)
            replace c42 := bE_.mpr c42; subst c42; have H1 : (snowlineref04_Lengths.l2 kj16 x4_3 x5_3 x8_2 x9_3 (wrap64 (x10_3 + 1)) a0_0 l0_1) = some (r1, r2, r3) := by rw [if_neg (show ¬ (false = true) by decide)] at H; exact H
            clear H; have H := H1; clear H1; have H' := Z_ H; clear H; go_wp2; go_roundg kj16
            case measure => have := HK1.out; have := HK2.out; have := HK3.out; have := HJ16.out; omega
            case rel => exact ⟨(x4_3), (x5_3), (x9_3), (wrap64 (x10_3 + 1)), rf_, rf_, H', ⟨by have := HK1.out; have := HK2.out; have := HK3.out; have := HJ16.out; omega⟩, ⟨rK_ HO_4.out⟩, ⟨rK_ HO_5.out⟩, ⟨bR_ BK339.out⟩, ⟨hB_⟩⟩
         rw [if_neg c16] at H; exact absurd H (by simp)
        rw [if_neg c15] at H; have c15b0 : decide (x10_3 < (l0_1.length : Int)) = false := eF_ c15; clear c15; by_cases c58 : x9_3 = true
        ·subst c58
         rw [if_pos rfl] at H; have H' := Z_ H; clear H; obtain ⟨⟨hcz59_0, hcz59_1⟩, hfz59_0, hfz59_1⟩ := f2_ BK339.out; go_wp2; go_roundg k3
         case measure => have := HK1.out; have := HK2.out; have := HK3.out; omega
         case rel => exact ⟨(x4_3), (x5_3), (wrap64 (x8_2 + 1)), rf_, H', ⟨by have := HK1.out; have := HK2.out; have := HK3.out; omega⟩, ⟨rK_ HO_4.out⟩, ⟨rK_ HO_5.out⟩, ⟨bR_ BK339.out⟩, ⟨hB_⟩⟩
        replace c58 := bE_.mpr c58; subst c58; have H1 : (some (x4_3, x5_3, true)) = some (r1, r2, r3) := by rw [if_neg (show ¬ (false = true) by decide)] at H; exact H
        clear H; have H := H1; clear H1; simp only [oJ_, pI_] at H; obtain ⟨rfl, rfl, rfl⟩ := H; obtain ⟨⟨hcz60_0, hcz60_1⟩, hfz60_0, hfz60_1⟩ := f2_ BK339.out; go_wp2; go_ret3; exact ⟨_, _, eW_, rK_ HO_4.out, rK_ HO_5.out, hB_⟩
     rw [if_neg c13] at H; have c13b0 : decide (x8_2 ≤ a0_0) = false := eF_ c13; clear c13; simp only [oJ_, pI_] at H; obtain ⟨rfl, rfl, rfl⟩ := H; obtain ⟨⟨hcz61_0, hcz61_1⟩, hfz61_0, hfz61_1⟩ := f2_ BK339.out; go_wp2; go_ret3; exact ⟨_, _, eW_, rK_ HO_4.out, rK_ HO_5.out, hB_⟩
def snowlineref04_marks.l0 : Nat → Bool → Int → List Bool → Int → Int → List (S39) → Option (List Bool)
 | 0, _, _, _, _, _, _ => none
 | k + 1, x1, x2, x7, x8, x357000, x357001 => if x8 < x357000 then (if x1 = true then (if x7.length < 140737488355328 then (snowlineref04_marks.l0 k x1 x2 (x7 ++ [true]) (wrap64 (x8 + 1)) x357000 x357001) else (none)) else (if x7.length < 140737488355328 then (snowlineref04_marks.l0 k x1 x2 (x7 ++ [(x8 == x2)]) (wrap64 (x8 + 1)) x357000 x357001) else (none))) else (some x7)
def snowlineref04_marks.f (k : Nat) (a0_0 : Int) (l0_1 : List (S39)) (a1 : Bool) (a2 : Int) : Option (List Bool) := snowlineref04_marks.l0 k a1 a2 ([] : List Bool) 0 a0_0 l0_1
theorem snowlineref04_marks.mono_l : ∀ k, (∀ y0 y1 y2 y3 y4 y5, LeO (snowlineref04_marks.l0 k y0 y1 y2 y3 y4 y5) (snowlineref04_marks.l0 (k + 1) y0 y1 y2 y3 y4 y5))
 | 0 => fun _ _ _ _ _ _ r h => by simp [snowlineref04_marks.l0] at h
 | k + 1 => by
  have ih0 := snowlineref04_marks.mono_l k; intro y0 y1 y2 y3 y4 y5; unfold snowlineref04_marks.l0; repeat' first | (with_reducible first | exact ih0 _ _ _ _ _ _ | exact LeO.refl _ | exact LeO.none _ | refine LeO.ite ?_ ?_ | refine LeO.bind ?_ (fun _ => ?_)) | exact ih0 _ _ _ _ _ _ | exact LeO.none _ | refine LeO.ite ?_ ?_ | refine LeO.bind ?_ (fun _ => ?_)
theorem snowlineref04_marks.mono : ∀ a0 a1 a2 a3 k, LeO (snowlineref04_marks.f k a0 a1 a2 a3) (snowlineref04_marks.f (k + 1) a0 a1 a2 a3) := by
 intro a0 a1 a2 a3 k; have ih0 := snowlineref04_marks.mono_l k; unfold snowlineref04_marks.f; repeat' first | (with_reducible first | exact ih0 _ _ _ _ _ _ | exact LeO.refl _ | exact LeO.none _ | refine LeO.ite ?_ ?_ | refine LeO.bind ?_ (fun _ => ?_)) | exact ih0 _ _ _ _ _ _ | exact LeO.none _ | refine LeO.ite ?_ ?_ | refine LeO.bind ?_ (fun _ => ?_)
set_option maxHeartbeats 8000000 in
set_option maxRecDepth 100000 in
theorem snowlineref04_marks.calls (k : Nat) (a0_0 : Int) (A0_1 : Option Addr) (c0_1 : Nat) (l0_1 : List (S39)) (a1 : Bool) (a2 : Int) (r : List Bool) (w : World) (hr0_1 : Kd.C k39 w A0_1 l0_1.length l0_1) (hc0_1 : l0_1.length ≤ c0_1) (h : snowlineref04_marks.f k a0_0 l0_1 a1 a2 = some r) :
  Calls Try.prog 72 #[.agg #[.int .i64 a0_0, .slice A0_1 l0_1.length c0_1], .bool a1, .int .i64 a2] w fun e w' => ∃ v0_ : Value, e = .returned (v0_) ∧ Kd.R Kd.bool 4 w' w.heap.size (fun _ => True) v0_ r ∧ Below w.heap.size w w' := by
 have hu24 := Try.underlying24; have HR0_1 := Z_ hr0_1; have HC0_1 := Z_ hc0_1; clear hr0_1 hc0_1; have HB := Z_ (Below.refl w.heap.size w); have H : (snowlineref04_marks.l0 k a1 a2 ([] : List Bool) 0 a0_0 l0_1) = some r := h; clear h; have H' := Z_ H; clear H; go_enter Try.func72, Try.ntmps72; go_wp2_with (first | ((with_reducible refine gate_dst (N := 3) rfl ?_); refine bX_ 3 #[.int .i64 a0_0, .slice A0_1 l0_1.length c0_1] 24 ?_; intro gb356 hg w4 hbox hb; have BK356 := Z_ (hbox); have GW356 := Z_ ((by rw [hg]; exact (fZ_ hB_) : w.heap.size ≤ gb356)); have GE356 := Z_ ((by rw [hg]; exact (fZ_ hB_) : w.heap.size ≤ gb356)); replace HB := Z_ (fS_ hB_ hb); clear hb hbox hg)); go_loopg [7, 8] k (fun kq v7 v8 w' => ∃ (x7_1 : List Bool) (x8_1 : Int), v8 = .int .i64 x8_1 ∧ Aside0 (snowlineref04_marks.l0 kq a1 a2 x7_1 x8_1 a0_0 l0_1 = some r) ∧ Aside0 (kq ≤ k) ∧ Aside0 (Kd.R Kd.bool 4 w' w.heap.size (fun _ => True) v7 x7_1) ∧ Aside0 (w'.heap[gb356]? = some (.cells #[.int .i64 a0_0, (.slice A0_1 l0_1.length c0_1)] 24 (0, 0))) ∧ Aside0 (Below w.heap.size w w'))
 case atStart => exact ⟨(([] : List Bool)), (0), rf_, H', ⟨nR_ _⟩, ⟨by first | exact Kd.R_nil _ _ _ _ _ | exact Kd.N_nil _ _ _ _ _ | exact Kd.V_nil _ _ _ _ _ | exact Kd.Q_nil _ _ _ _ _ | exact Kd.S_nil _ _ _ _ _⟩, ⟨bR_ BK356.out⟩, ⟨hB_⟩⟩
 case round =>
  clear H'; (try clear p2)
  obtain ⟨x7_1, x8_1, rfl, HA, HK1, HO_7, BK356, HB⟩ := hrel
  cases gk with
  | zero => exact absurd HA.out (by simp [snowlineref04_marks.l0])
  | succ k1 =>
   have H := HA.out; clear HA; simp only [snowlineref04_marks.l0] at H; by_cases c5 : x8_1 < a0_0
   ·rw [if_pos c5] at H
    have c5b0 : decide (x8_1 < a0_0) = true := eT_ c5; clear c5; by_cases c6 : a1 = true
    ·subst c6
     rw [if_pos rfl] at H; by_cases c7 : x7_1.length < 140737488355328
     ·rw [if_pos c7] at H
      have LMc7 := Z_ c7; clear c7; obtain ⟨y357, hy357⟩ : ∃ y_ : List Bool, y_ = (x7_1 ++ [true]) := ⟨_, rfl⟩; replace H : (snowlineref04_marks.l0 k1 true a2 y357 (wrap64 (x8_1 + 1)) a0_0 l0_1) = some r := by first | (rw [hy357]; with_reducible exact H) | (have H2_ := (oB_ _ _).symm.trans H; rw [hy357]; with_reducible exact H2_) | (have H2_ := (oB_ _ _).symm.trans H; with_reducible exact H2_) | with_reducible exact H | (rw [hy357]; exact H) | exact H
      have Ny357 := Z_ hy357; clear hy357; have H' := Z_ H; clear H; obtain ⟨⟨hcz8_0, hcz8_1⟩, hfz8_0, hfz8_1⟩ := f2_ BK356.out; go_wp2_with (first | ((with_reducible refine gate_builtin (b := .append) (xs := #[.tmp 15, .tmp 22]) rfl ?_); at_builtin; refine Kd.R_append Kd.bool (w0 := w) w.heap.size rfl (.tmp 15) (.tmp 22) 41 4 (.bool false) 1 rfl Try.underlying41 info4 rfl (by decide) (by omega) u7 x7_1 true [.bool true] (fun _ => True) (fun _ => False) rfl rfl ?aP (fun _ hk => hk.elim) ?aF ?aO ?aB ?aS ?aL ?_; (case aP => exact rfl); (case aB => exact hB_); (case aF => exact (fun _ _ => trivial)); (case aO => exact (rK_ HO_7.out)); (case aS => exact (fZ_ hB_)); (case aL => have := LMc7.out; omega); intro v358 w9 ho hb hg hat; rw [← Ny357.out] at ho; replace BK356 := Z_ (blk_grown (g := gb356) (o := .cells #[.int .i64 a0_0, .slice A0_1 l0_1.length c0_1] 24 (0, 0)) (bR_ BK356.out) hg (Kd.R_ne HO_7.out BK356.out (by decide))); replace HB := Z_ (hb); have HO359 := Z_ (ho); clear HO_7; clear ho hb hg hat)); go_roundg k1
      case measure => have := HK1.out; omega
      case rel => exact ⟨(y357), (wrap64 (x8_1 + 1)), rf_, H', ⟨by have := HK1.out; omega⟩, ⟨rK_ HO359.out⟩, ⟨bR_ BK356.out⟩, ⟨hB_⟩⟩
     rw [if_neg c7] at H; exact absurd H (by simp)
    replace c6 := bE_.mpr c6; subst c6; have H1 : (if x7_1.length < 140737488355328 then (snowlineref04_marks.l0 k1 false a2 (x7_1 ++ [(x8_1 == a2)]) (wrap64 (x8_1 + 1)) a0_0 l0_1) else (none)) = some r := by rw [if_neg (show ¬ (false = true) by decide)] at H; exact H
    clear H; have H := H1; clear H1; by_cases c10 : x7_1.length < 140737488355328
    ·rw [if_pos c10] at H
     have LMc10 := Z_ c10; clear c10; obtain ⟨y360, hy360⟩ : ∃ y_ : List Bool, y_ = (x7_1 ++ [(x8_1 == a2)]) := ⟨_, rfl⟩; replace H : (snowlineref04_marks.l0 k1 false a2 y360 (wrap64 (x8_1 + 1)) a0_0 l0_1) = some r := by first | (rw [hy360]; with_reducible exact H) | (have H2_ := (oB_ _ _).symm.trans H; rw [hy360]; with_reducible exact H2_) | (have H2_ := (oB_ _ _).symm.trans H; with_reducible exact H2_) | with_reducible exact H | (rw [hy360]; exact H) | exact H
     have Ny360 := Z_ hy360; clear hy360; have H' := Z_ H; clear H; obtain ⟨⟨hcz11_0, hcz11_1⟩, hfz11_0, hfz11_1⟩ := f2_ BK356.out; go_wp2_with (first | ((with_reducible refine gate_builtin (b := .append) (xs := #[.tmp 15, .tmp 22]) rfl ?_); at_builtin; refine Kd.R_append Kd.bool (w0 := w) w.heap.size rfl (.tmp 15) (.tmp 22) 41 4 (.bool false) 1 rfl Try.underlying41 info4 rfl (by decide) (by omega) u7 x7_1 (x8_1 == a2) [.bool (x8_1 == a2)] (fun _ => True) (fun _ => False) rfl rfl ?aP (fun _ hk => hk.elim) ?aF ?aO ?aB ?aS ?aL ?_; (case aP => exact rfl); (case aB => exact hB_); (case aF => exact (fun _ _ => trivial)); (case aO => exact (rK_ HO_7.out)); (case aS => exact (fZ_ hB_)); (case aL => have := LMc10.out; omega); intro v361 w12 ho hb hg hat; rw [← Ny360.out] at ho; replace BK356 := Z_ (blk_grown (g := gb356) (o := .cells #[.int .i64 a0_0, .slice A0_1 l0_1.length c0_1] 24 (0, 0)) (bR_ BK356.out) hg (Kd.R_ne HO_7.out BK356.out (by decide))); replace HB := Z_ (hb); have HO362 := Z_ (ho); clear HO_7; clear ho hb hg hat)); go_roundg k1
     case measure => have := HK1.out; omega
     case rel => exact ⟨(y360), (wrap64 (x8_1 + 1)), rf_, H', ⟨by have := HK1.out; omega⟩, ⟨rK_ HO362.out⟩, ⟨bR_ BK356.out⟩, ⟨hB_⟩⟩
    rw [if_neg c10] at H; exact absurd H (by simp)
   rw [if_neg c5] at H; have c5b0 : decide (x8_1 < a0_0) = false := eF_ c5; clear c5; obtain rfl := oI_ H; obtain ⟨⟨hcz13_0, hcz13_1⟩, hfz13_0, hfz13_1⟩ := f2_ BK356.out; go_wp2; go_ret; exact ⟨_, eW_, rK_ HO_7.out, hB_⟩
def snowlineref04_Solvable.f (k : Nat) (a0_0 : Int) (l0_1 : List (S39)) : Option (Bool) := (snowlineref04_marks.f k a0_0 l0_1 true 0).bind fun t364 => ((snowlineref04_Lengths.f k a0_0 l0_1 t364).bind fun bt367 => (some bt367.2.2))
theorem snowlineref04_Solvable.mono : ∀ a0 a1 k, LeO (snowlineref04_Solvable.f k a0 a1) (snowlineref04_Solvable.f (k + 1) a0 a1) := by
 intro a0 a1 k; unfold snowlineref04_Solvable.f; repeat' first | (with_reducible first | exact snowlineref04_Lengths.mono _ _ _ _ | exact snowlineref04_marks.mono _ _ _ _ _ | exact LeO.refl _ | exact LeO.none _ | refine LeO.ite ?_ ?_ | refine LeO.bind ?_ (fun _ => ?_)) | exact snowlineref04_Lengths.mono _ _ _ _ | exact snowlineref04_marks.mono _ _ _ _ _ | exact LeO.none _ | refine LeO.ite ?_ ?_ | refine LeO.bind ?_ (fun _ => ?_)
def snowlineref04_Solvable.T1 : Bool × List (List Nat × List Nat) := (true, [([], []), ([], []), ([1], [1]), ([0, 2, 2], [0, 2]), ([3], [3]), ([4], [4]), ([4], [4]), ([4], [4]), ([5, 3, 0, 1, 2, 3, 4, 5], [5]), ([6, 8, 0, 1, 2, 3, 4, 5, 6, 8], [6]), ([7, 9, 0, 1, 2, 3, 4, 5, 6, 7, 8, 9], [7])])
def snowlineref04_Solvable.B1 : List Nat := [0, 0, 2, 7, 15, 31, 31, 31, 63, 383, 1023]
theorem snowlineref04_Solvable.tab1 : rtab .any (opsOf Try.f41 1) = snowlineref04_Solvable.T1 := by kernel_rfl
theorem snowlineref04_Solvable.bits1 : waitsOk snowlineref04_Solvable.T1.2 snowlineref04_Solvable.B1 = true := by kernel_rfl
set_option maxHeartbeats 8000000 in
set_option maxRecDepth 100000 in
theorem snowlineref04_Solvable.calls (k : Nat) (a0_0 : Int) (A0_1 : Option Addr) (c0_1 : Nat) (l0_1 : List (S39)) (r : Bool) (w : World) (hr0_1 : Kd.C k39 w A0_1 l0_1.length l0_1) (hc0_1 : l0_1.length ≤ c0_1) (h : snowlineref04_Solvable.f k a0_0 l0_1 = some r) :
  Calls Try.prog 41 #[.agg #[.int .i64 a0_0, .slice A0_1 l0_1.length c0_1]] w fun e w' => e = .returned (.bool r) ∧ Below w.heap.size w w' := by
 have hu24 := Try.underlying24; have HR0_1 := Z_ hr0_1; have HC0_1 := Z_ hc0_1; clear hr0_1 hc0_1; have HB := Z_ (Below.refl w.heap.size w); have H : ((snowlineref04_marks.f k a0_0 l0_1 true 0).bind fun t364 => ((snowlineref04_Lengths.f k a0_0 l0_1 t364).bind fun bt367 => (some bt367.2.2))) = some r := h; clear h; replace H := oS_.mp H; obtain ⟨t364, A20, H⟩ := H; have A2 := Z_ A20; clear A20; replace H := oS_.mp H; obtain ⟨⟨t367, t370, t373⟩, A30, H⟩ := H; have A3 := Z_ A30; clear A30; obtain rfl := oI_ H; go_enter Try.func41, Try.ntmps41; try go_wp2_with (first | ((with_reducible refine gate_dst (N := 1) rfl ?_); refine bX_ 1 #[.int .i64 a0_0, .slice A0_1 l0_1.length c0_1] 24 ?_; intro gb363 hg w4 hbox hb; have BK363 := Z_ (hbox); have GW363 := Z_ ((by rw [hg]; exact (fZ_ hB_) : w.heap.size ≤ gb363)); have GE363 := Z_ ((by rw [hg]; exact (fZ_ hB_) : w.heap.size ≤ gb363)); replace HB := Z_ (fS_ hB_ hb); clear hb hbox hg))
 replace BK363 := Z_ (bD_ BK363.out); replace HB := Z_ (fD_ HB.out); refine start_ (n := 11) (S := fun w' => w'.cell? ⟨gb363, 0, none⟩ = some (.int .i64 a0_0) ∧ w'.cell? ⟨gb363, 1, none⟩ = some (.slice A0_1 l0_1.length c0_1)) (ds := []) #[false, false, false, false, false, false, false, false, false, false, false] (by kernel_rfl) rfl rfl ⟨(bC_ BK363.out 0).trans rfl, (bC_ BK363.out 1).trans rfl⟩ (fun hHeld => ?_); refine with_tabW snowlineref04_Solvable.tab1 snowlineref04_Solvable.bits1 (fun HT_ HW_ => ?_); generalize w4.drew = w5 at BK363 HB hHeld ⊢; refine pT_ 0 7 ?_; refine pT_ 1 8 ?_; refine oN_ 2 (some 9) (fun K hK => ?_); refine gO_ Try.func72 #[.agg #[.int .i64 a0_0, .slice A0_1 l0_1.length c0_1], .bool true, .int .i64 0] ?_; with_reducible refine (snowlineref04_marks.calls k a0_0 _ _ l0_1 true 0 t364 _ ?side1 ?side2 A2.out).mono ?_
 (case side1 => exact cS_ (cB_ HR0_1.out HB.out))
 (case side2 => exact HC0_1.out)
 rintro e w6 ⟨v365, rfl, ho0, hb⟩; refine ⟨_, rfl, ?_⟩; have HO366 := Z_ (rL_ ho0 (fZ_ hB_)); replace BK363 := Z_ (bB_ (g := gb363) (o := .cells #[.int .i64 a0_0, .slice A0_1 l0_1.length c0_1] 24 (0, 0)) (bR_ BK363.out) hb); replace HB := Z_ (fS_ hB_ hb); (try clear hb)
 (try clear hb2)
 (try clear hk)
 (try clear hi)
 (try clear ho0)
 obtain ⟨Ao7, co7, eo7⟩ := rS_ HO366.out; (first | subst eo7 | (injection eo7 with f1_ f2_ f3_; have f4_ := f1_.symm; have f5_ := f3_.symm; clear f1_ f2_ f3_; subst f4_; subst f5_))
 refine hK.out _ _ ⟨(bC_ BK363.out 0).trans rfl, (bC_ BK363.out 1).trans rfl⟩ (fun hHeld => ?_); clear hK K; refine nP_ 9 ?_; refine oN_ 3 (some 10) (fun K hK => ?_); refine gO_ Try.func71 #[.agg #[.int .i64 a0_0, .slice A0_1 l0_1.length c0_1], .slice Ao7 t364.length co7] ?_; with_reducible refine (snowlineref04_Lengths.calls k a0_0 _ _ l0_1 _ _ t364 t367 t370 t373 _ ?side1 ?side2 ?side3 ?side4 A3.out).mono ?_
 (case side1 => exact cS_ (cB_ HR0_1.out HB.out))
 (case side2 => exact HC0_1.out)
 (case side3 => repeat (first | exact (rR_ HO366.out).2.2 | (with_reducible refine Kd.C_alloc ?_ _) | (with_reducible refine Kd.C_drewN ?_ _) | (with_reducible refine Kd.C_drew ?_)))
 (case side4 => exact (rR_ HO366.out).2.1)
 rintro e w8 ⟨v368, v371, rfl, ho0, ho1, hb⟩; refine ⟨_, rfl, ?_⟩; have HO369 := Z_ (rL_ ho0 (fZ_ hB_)); have HO372 := Z_ (rL_ (Kd.R_new' ho1 (Kd.R_lt (rK_ HO366.out))) (fZ_ hB_)); replace HO366 := Z_ (Kd.R_elder' (rK_ HO366.out) (Kd.R_base ho1) hb); replace BK363 := Z_ (bB_ (g := gb363) (o := .cells #[.int .i64 a0_0, .slice A0_1 l0_1.length c0_1] 24 (0, 0)) (bR_ BK363.out) hb); replace HB := Z_ (fS_ hB_ hb); (try clear hb)
 (try clear hb2)
 (try clear hk)
 (try clear hi)
 (try clear ho0)
 (try clear ho1)
 refine hK.out _ _ ⟨(bC_ BK363.out 0).trans rfl, (bC_ BK363.out 1).trans rfl⟩ (fun hHeld => ?_); clear hK K; refine nP_ 10 ?_; refine pP_ 4 6 ?_; refine pP_ 5 11 ?_; refine pP_ 6 12 ?_; refine pP_ 7 13 ?_; refine pP_ 8 3 ?_; refine pP_ 9 4 ?_; refine pP_ 10 5 ?_; refine dN_ ?_; try go_wp2
 go_ret; exact ⟨eW_, hB_⟩
end Go.Proofs.Ytpolojoeabmhdaa.A
/- The reference: Lengths, marks, Solvable, Check. -/
namespace Go.Proofs.Ytpolojoeabmhdaa.A
open Go.RowKit Go.Proofs.YtpolojoeabmhdaaW.PrintWords Go.Proofs.YtpolojoeabmhdaaW.PrintLast Go.Proofs.YtpolojoeabmhdaaW.PrintMore
theorem ext_rd {a b : List Int} (hl : a.length = b.length) (h : ∀ v : Int, 0 ≤ v → v < (a.length : Int) → rd a v = rd b v) : a = b :=
  List.ext_getElem hl (fun i h1 h2 => by
    have p := h i (by omega) (by omega)
    unfold rd at p
    rw [List.getD_eq_getElem?_getD, List.getD_eq_getElem?_getD, Int.toNat_natCast, List.getElem?_eq_getElem h1, List.getElem?_eq_getElem h2] at p
    exact p)
theorem ext_rdOf {α : Type} (d : α) {a b : List α} (hl : a.length = b.length) (h : ∀ v : Int, 0 ≤ v → v < (a.length : Int) → rdOf d a v = rdOf d b v) : a = b :=
  List.ext_getElem hl (fun i h1 h2 => by
    have p := h i (by omega) (by omega)
    unfold rdOf at p
    rw [List.getD_eq_getElem?_getD, List.getD_eq_getElem?_getD, Int.toNat_natCast, List.getElem?_eq_getElem h1, List.getElem?_eq_getElem h2] at p
    exact p)
section
variable {n : Nat} {L : List S39} {src : Int → Prop}
theorem len_l2 (hE : EdgesOk n L) {b : Int} (hb : 0 ≤ b) (hbm : b + L.length ≤ 4294967296) (x8 : Int) : ∀ (q : Nat) (k c : Int) (s : Sg) (T : Int → Int) (f : Nat), (q : Int) + k = L.length → 0 ≤ k → Bf n L src b k s T →
    snowlineref04_Lengths.l2 (f + 2 * q) s.lo s.ha x8 (decide (0 ≤ c)) k n L = snowlineref04_Lengths.l2 f (pass (L.drop k.toNat) k c s).2.lo (pass (L.drop k.toNat) k c s).2.ha x8 (decide (0 ≤ (pass (L.drop k.toNat) k c s).1)) L.length n L
  | 0, k, c, s, T, f, hq, h0, h => by
    have hk : k = L.length := by omega
    rw [List.drop_eq_nil_of_le (by omega), hk]
    rfl
  | q + 1, k, c, s, T, f, hq, h0, h => by
    have hk : k < (L.length : Int) := by omega
    have hd := hE k h0 hk
    have l1 := h.l1
    have l2 := h.l2
    rw [rd_T39_drop L k h0 hk, show f + 2 * (q + 1) = (f + 2 * q) + 1 + 1 from by omega]
    have hw := h.w _ hd.a hd.b
    have he := hd.e
    have hf := hd.f
    have hwr : wrap64 (rd s.lo (rd_T39 L k).f0 + (rd_T39 L k).f2) = rd s.lo (rd_T39 L k).f0 + (rd_T39 L k).f2 := wrap_id (by omega) (by omega)
    have hk1 : wrap64 (k + 1) = k + 1 := wrap_id (by omega) (by omega)
    unfold pass
    rw [snowlineref04_Lengths.l2]
    rw [if_pos hk, if_pos h0, if_pos hd.a, if_pos (show (rd_T39 L k).f0 < (s.ha.length : Int) from by rw [l2]; exact hd.b)]
    have hc1 : decide (0 ≤ (rd_T39 L k).f1) = true := decide_eq_true hd.c
    have hnext : ∀ y, snowlineref04_Lengths.j3 (f + 2 * q + 1) s.lo s.ha x8 (decide (0 ≤ c)) k y n L (rd_T39 L k).f0 (rd_T39 L k).f1 (rd_T39 L k).f2 = if y = true then snowlineref04_Lengths.l2 (f + 2 * q) (s.put (rd_T39 L k) k).lo (s.put (rd_T39 L k) k).ha x8 (decide (0 ≤ (rd_T39 L k).f1)) (k + 1) n L else snowlineref04_Lengths.l2 (f + 2 * q) s.lo s.ha x8 (decide (0 ≤ c)) (k + 1) n L := by
      intro y
      rw [snowlineref04_Lengths.j3, hc1]
      rw [if_pos hd.a, if_pos (show (rd_T39 L k).f0 < (s.lo.length : Int) from by rw [l1]; exact hd.b), if_pos hd.c, if_pos (show (rd_T39 L k).f1 < (s.lo.length : Int) from by rw [l1]; exact hd.g), if_pos (show (rd_T39 L k).f1 < (s.ha.length : Int) from by rw [l2]; exact hd.g), hk1, hwr]
      rfl
    by_cases hu : rdOf false s.ha (rd_T39 L k).f0 = true
    · rw [if_pos hu, if_pos hd.c, if_pos (show (rd_T39 L k).f1 < (s.ha.length : Int) from by rw [l2]; exact hd.g)]
      by_cases hv : rdOf false s.ha (rd_T39 L k).f1 = true
      · rw [if_pos hv, if_pos (show (rd_T39 L k).f0 < (s.lo.length : Int) from by rw [l1]; exact hd.b), if_pos (show (rd_T39 L k).f1 < (s.lo.length : Int) from by rw [l1]; exact hd.g), hnext, hwr]
        by_cases hy : rd s.lo (rd_T39 L k).f0 + (rd_T39 L k).f2 < rd s.lo (rd_T39 L k).f1
        · have hbt : s.better (rd_T39 L k) = true := by rw [better_iff]; exact ⟨hu, Or.inr hy⟩
          rw [if_pos (decide_eq_true hy), if_pos hbt]
          exact len_l2 hE hb hbm x8 q (k + 1) _ _ _ f (by omega) (by omega) (h.step hE h0 hk hb hbt)
        · have hbt : ¬ s.better (rd_T39 L k) = true := by
            rw [better_iff]; rintro ⟨_, h2 | h2⟩
            · exact h2 hv
            · exact hy h2
          rw [if_neg (by simpa using hy), if_neg hbt]
          exact len_l2 hE hb hbm x8 q (k + 1) c s T f (by omega) (by omega) (h.skip hE h0 hk hb hbt)
      · have hbt : s.better (rd_T39 L k) = true := by rw [better_iff]; exact ⟨hu, Or.inl hv⟩
        rw [if_neg hv, hnext, if_pos rfl, if_pos hbt]
        exact len_l2 hE hb hbm x8 q (k + 1) _ _ _ f (by omega) (by omega) (h.step hE h0 hk hb hbt)
    · have hbt : ¬ s.better (rd_T39 L k) = true := by
        rw [better_iff]; rintro ⟨h2, _⟩
        exact hu h2
      rw [if_neg hu, hnext, if_neg (by simp), if_neg hbt]
      exact len_l2 hE hb hbm x8 q (k + 1) c s T f (by omega) (by omega) (h.skip hE h0 hk hb hbt)
theorem len_l1 (hE : EdgesOk n L) (hn : n ≤ 65536) (hm : (n : Int) * L.length ≤ 1048576) (hl : L.length ≤ 65536) : ∀ (r q : Nat) (s : Sg) (T : Int → Int), q + r = n + 1 → Bf n L src ((q : Int) * L.length) 0 s T →
    Ev (fun k => snowlineref04_Lengths.l1 k s.lo s.ha q n L) ((lenP L r s).1.lo, (lenP L r s).1.ha, (lenP L r s).2)
  | 0, q, s, T, hq, h => by
    refine Ev.step (f := fun _ => some (s.lo, s.ha, false)) (fun k => ?_) (Ev.now _)
    rw [snowlineref04_Lengths.l1, if_neg (by omega)]
  | r + 1, q, s, T, hq, h => by
    have hpos : (0 : Int) ≤ (q : Int) * L.length := Int.mul_nonneg (by omega) (by omega)
    have hb1 : ((q : Int) + 1) * L.length = (q : Int) * L.length + L.length := by rw [Int.add_mul, Int.one_mul]
    have hb2 : (q : Int) * L.length ≤ (n : Int) * L.length := Int.mul_le_mul_of_nonneg_right (by omega) (by omega)
    obtain ⟨T', h', hc⟩ := pass_bf hE hpos L.length 0 (-1) s T (by omega) (by omega) h (Or.inl rfl)
    have e2 := fun f => len_l2 hE hpos (by omega) (q : Int) L.length 0 (-1) s T f (by omega) (by omega) h
    simp only [show (0 : Int).toNat = 0 from rfl, List.drop_zero] at h' hc e2
    refine Ev.shift (2 * L.length + 2) (h := fun f => if (decide (0 ≤ (pass L 0 (-1) s).1)) = true then snowlineref04_Lengths.l1 f (pass L 0 (-1) s).2.lo (pass L 0 (-1) s).2.ha ((q : Int) + 1) n L else some ((pass L 0 (-1) s).2.lo, (pass L 0 (-1) s).2.ha, true)) (fun f => ?_) ?_
    · rw [show f + (2 * L.length + 2) = ((f + 1) + 2 * L.length) + 1 from by omega, snowlineref04_Lengths.l1, if_pos (by omega)]
      have := e2 (f + 1)
      rw [show decide ((0 : Int) ≤ -1) = false from rfl] at this
      rw [this, snowlineref04_Lengths.l2, if_neg (by omega), wrap_id (by omega) (by omega)]
    · unfold lenP
      rcases hc with ⟨c1, c2, c3, c4⟩ | hc
      · rw [if_pos (by omega)]
        refine Ev.neg (by simp; omega) (Ev.now _)
      · rw [if_neg (by have := hc.1; omega)]
        refine Ev.pos (by simp; exact hc.1) ?_
        have h'' := h'.next
        rw [← hb1] at h''
        exact len_l1 hE hn hm hl r (q + 1) _ T' (by omega) (by push_cast; exact h'')
theorem len_l0 (n : Nat) (hn : n ≤ 65536) (L : List S39) (ha : List Bool) (hh : ha.length = n) : ∀ (q i f : Nat), q + i = n →
    snowlineref04_Lengths.l0 (f + q + 1) ha (List.replicate i 0) (ha.take i) i n L = snowlineref04_Lengths.l1 f (List.replicate n 0) ha 0 n L
  | 0, i, f, hq => by
    have e : i = n := by omega
    rw [snowlineref04_Lengths.l0, if_neg (by omega), e, List.take_of_length_le (by omega)]
  | q + 1, i, f, hq => by
    rw [show f + (q + 1) + 1 = (f + q + 1) + 1 from by omega, snowlineref04_Lengths.l0, if_pos (by omega), if_pos (by simp; omega), if_pos (by omega), if_pos (by omega), if_pos (by simp; omega), wrap_id (by omega) (by omega)]
    have := len_l0 n hn L ha hh q (i + 1) f (by omega)
    rw [List.replicate_succ', List.take_succ_eq_append_getElem (by omega)] at this
    rw [show rdOf false ha (i : Int) = ha[i] from by unfold rdOf; rw [List.getD_eq_getElem?_getD, Int.toNat_natCast, List.getElem?_eq_getElem (by omega)]; rfl]
    exact this
/-- The reference's Lengths. -/
theorem len_ev (hE : EdgesOk n L) (hn : n ≤ 65536) (hm : (n : Int) * L.length ≤ 1048576) (hl : L.length ≤ 65536) {from_ : List Int} (hf : ∀ i ∈ from_, 0 ≤ i ∧ i < (n : Int)) :
    Ev (fun k => snowlineref04_Lengths.f k n L (sg0 n from_).ha) ((lenP L (n + 1) (sg0 n from_)).1.lo, (lenP L (n + 1) (sg0 n from_)).1.ha, (lenP L (n + 1) (sg0 n from_)).2) := by
  have hh : (sg0 n from_).ha.length = n := (foldl_has n from_ (List.replicate n false) (by simp) hf).1
  refine Ev.shift (n + 1) (h := fun f => snowlineref04_Lengths.l1 f (sg0 n from_).lo (sg0 n from_).ha 0 n L) (fun f => ?_) ?_
  · unfold snowlineref04_Lengths.f
    have := len_l0 n hn L (sg0 n from_).ha hh n 0 f (by omega)
    rw [List.take_zero, List.replicate_zero, show ((0 : Nat) : Int) = 0 from rfl] at this
    exact this
  · have := len_l1 hE hn hm hl (n + 1) 0 (sg0 n from_) (fun _ => 0) (by omega) (by simpa using sg0_bf hf)
    rw [show ((0 : Nat) : Int) = 0 from rfl] at this
    exact this
end
theorem marks_l0 (n : Nat) (hn : n ≤ 65536) (L : List S39) (b : Bool) (o : Int) : ∀ (q i f : Nat), q + i = n →
    snowlineref04_marks.l0 (f + q + 1) b o ((List.range i).map fun (j : Nat) => b || ((j : Int) == o)) i n L = some ((List.range n).map fun (j : Nat) => b || ((j : Int) == o))
  | 0, i, f, hq => by
    rw [snowlineref04_marks.l0, if_neg (by omega), show i = n from by omega]
  | q + 1, i, f, hq => by
    rw [show f + (q + 1) + 1 = (f + q + 1) + 1 from by omega, snowlineref04_marks.l0, if_pos (by omega)]
    have := marks_l0 n hn L b o q (i + 1) f (by omega)
    rw [List.range_succ, List.map_append] at this
    cases b with
    | true => rw [if_pos rfl, if_pos (by simp; omega), wrap_id (by omega) (by omega)]; exact this
    | false => rw [if_neg (by simp), if_pos (by simp; omega), wrap_id (by omega) (by omega)]; exact this
theorem marks_ev (n : Nat) (hn : n ≤ 65536) (L : List S39) (b : Bool) (o : Int) : Ev (fun k => snowlineref04_marks.f k n L b o) ((List.range n).map fun (j : Nat) => b || ((j : Int) == o)) :=
  Ev.shift (n + 1) (h := fun _ => some _) (fun f => by
    unfold snowlineref04_marks.f
    have := marks_l0 n hn L b o n 0 f (by omega)
    rw [show ((0 : Nat) : Int) = 0 from rfl] at this
    exact this) (Ev.now _)
theorem rdOf_range (n : Nat) (g : Nat → Bool) (v : Int) (h0 : 0 ≤ v) (h1 : v < n) : rdOf false ((List.range n).map g) v = g v.toNat := by
  unfold rdOf
  rw [List.getD_eq_getElem?_getD, List.getElem?_map, List.getElem?_range (by omega)]; rfl
theorem sg0_ha (n : Nat) {from_ : List Int} (hf : ∀ i ∈ from_, 0 ≤ i ∧ i < (n : Int)) (g : Nat → Bool) (hg : ∀ v : Int, 0 ≤ v → v < (n : Int) → (g v.toNat = true ↔ v ∈ from_)) : (List.range n).map g = (sg0 n from_).ha := by
  obtain ⟨a, b⟩ := foldl_has n from_ (List.replicate n false) (by simp) hf
  refine ext_rdOf false (by rw [List.length_map, List.length_range]; exact a.symm) (fun v h0 h1 => ?_)
  have hv : v < (n : Int) := by simpa using h1
  rw [rdOf_range n g v h0 hv, Bool.eq_iff_iff, hg v h0 hv]
  show _ ↔ rdOf false (List.foldl _ _ _) v = true
  rw [b v h0 hv, rdOf_replicate n _ _ v h0 hv]
  simp
theorem marks_all (n : Nat) (hn : n ≤ 65536) (L : List S39) : Ev (fun k => snowlineref04_marks.f k n L true 0) (sg0 n (allL n)).ha := by
  have := marks_ev n hn L true 0
  rw [sg0_ha n (from_ := allL n) (fun i hi => mem_allL.1 hi) _ (fun v h0 h1 => by simp [mem_allL]; exact ⟨h0, h1⟩)] at this
  exact this
theorem marks_one (n : Nat) (hn : n ≤ 65536) (L : List S39) {i : Int} (h0 : 0 ≤ i) (h1 : i < n) : Ev (fun k => snowlineref04_marks.f k n L false i) (sg0 n [i]).ha := by
  have := marks_ev n hn L false i
  rw [sg0_ha n (from_ := [i]) (fun v hv => by simp at hv; subst hv; exact ⟨h0, h1⟩) _ (fun v a b => by simp; omega)] at this
  exact this
section
variable {n : Nat} {L : List S39}
theorem solvable_ev (hn0 : 0 < n) (hn : n ≤ 65536) (hE : EdgesOk n L) (hm : (n : Int) * L.length ≤ 1048576) (hl : L.length ≤ 65536) : ∃ b : Bool, (b = true ↔ Solv L) ∧ Ev (fun k => snowlineref04_Solvable.f k n L) b := by
  refine ⟨(lenP L (n + 1) (sg0 n (allL n))).2, ⟨fun h => ?_, fun hs => ?_⟩, ?_⟩
  · obtain ⟨b, T, hb, hB, hf⟩ := lenP_fix hE (n + 1) 0 (sg0 n (allL n)) (lenP L (n + 1) (sg0 n (allL n))).1 (fun _ => 0) (by omega) (sg0_bf (fun i hi => mem_allL.1 hi)) (by rw [← h])
    refine ⟨rd (lenP L (n + 1) (sg0 n (allL n))).1.lo, fun i h0 h1 => ?_⟩
    have hd := hE i h0 h1
    have hha : hasN (lenP L (n + 1) (sg0 n (allL n))).1 (rd_T39 L i).f0 := by
      have := (hB.t0 _ hd.a hd.b).1
      by_cases e : T (rd_T39 L i).f0 = 0
      · exact (hB.z _ hd.a hd.b e).2.2.2 (mem_allL.2 ⟨hd.a, hd.b⟩)
      · exact (hB.p _ hd.a hd.b (by omega)).2.2.1
    have := (hf.edge h0 h1 hha).2
    omega
  · obtain ⟨s, bad, h1, h2⟩ := grow_all hn0 hE (from_ := allL n) (fun i hi => mem_allL.1 hi)
    obtain ⟨x, hx⟩ := hs
    obtain ⟨e, _⟩ := h2.good hE hx
    subst e
    rw [lenP_growP n (n + 1) _ _ (by omega) h1]
  · unfold snowlineref04_Solvable.f
    refine (marks_all n hn L).bind ?_
    exact (len_ev hE hn hm hl (fun i hi => mem_allL.1 hi)).bind (Ev.now _)
/-- The reference's lengths from a node are what grow finds. -/
theorem len_one (hn0 : 0 < n) (hn : n ≤ 65536) (hE : EdgesOk n L) (hm : (n : Int) * L.length ≤ 1048576) (hl : L.length ≤ 65536) {i : Int} (h0 : 0 ≤ i) (h1 : i < n) {s : Sg} (hg : growP L n n (sg0 n [i]) = some (s, -1)) :
    Ev (fun k => snowlineref04_Lengths.f k n L (sg0 n [i]).ha) (s.lo, s.ha, true) := by
  have := len_ev hE hn hm hl (from_ := [i]) (fun v hv => by simp at hv; subst hv; exact ⟨h0, h1⟩)
  rw [lenP_growP n (n + 1) _ _ (by omega) hg] at this
  exact this
end
theorem rvalid_some (d : S39) (n : Int) : snowlineref04_Valid.f d.f0 d.f1 d.f2 n = some (edgeB n d) := by
  unfold snowlineref04_Valid.f snowlineref04_node.f edgeB
  by_cases h0 : d.f0 ≥ 0
  · rw [if_pos h0, Option.bind_some]
    by_cases h1 : d.f0 < n
    · rw [if_pos (decide_eq_true h1)]
      by_cases h2 : d.f1 ≥ 0
      · rw [if_pos h2, Option.bind_some]
        by_cases h3 : d.f1 < n
        · rw [if_pos (decide_eq_true h3)]
          by_cases h4 : d.f2 ≥ -1073741824
          · rw [if_pos h4]; simp [show 0 ≤ d.f0 from h0, h1, show 0 ≤ d.f1 from h2, h3, show -1073741824 ≤ d.f2 from h4]
          · rw [if_neg h4]; simp [show ¬ -1073741824 ≤ d.f2 from h4]
        · rw [if_neg (by simpa using h3)]; simp [h3]
      · rw [if_neg h2, Option.bind_some, if_neg (by simp)]; simp [show ¬ 0 ≤ d.f1 from h2]
    · rw [if_neg (by simpa using h1)]; simp [h1]
  · rw [if_neg h0, Option.bind_some, if_neg (by simp)]; simp [show ¬ 0 ≤ d.f0 from h0]
theorem rcheck_l0 (n : Int) (L : List S39) (hl : L.length ≤ 4096) : ∀ (q : Nat) (i : Int) (f : Nat), (q : Int) + i = L.length → 0 ≤ i →
    snowlineref04_Check.l0 (f + q + 1) i n L = some (if (L.drop i.toNat).all (edgeB n) = true then 0 else 40)
  | 0, i, f, hq, hi => by
    rw [snowlineref04_Check.l0, if_neg (by omega), List.drop_eq_nil_of_le (by omega)]
    rfl
  | q + 1, i, f, hq, hi => by
    have hlt : i < (L.length : Int) := by omega
    rw [show f + (q + 1) + 1 = (f + q + 1) + 1 from by omega, snowlineref04_Check.l0, if_pos hlt, if_pos hi, rvalid_some, rd_T39_drop L i hi hlt]
    simp only [Option.bind_some]
    by_cases c : edgeB n (rd_T39 L i) = true
    · have e : (rd_T39 L i :: L.drop (i + 1).toNat).all (edgeB n) = (L.drop (i + 1).toNat).all (edgeB n) := by rw [List.all_cons, c, Bool.true_and]
      rw [if_pos c, e, wrap_id (by omega) (by omega)]
      exact rcheck_l0 n L hl q (i + 1) f (by omega) (by omega)
    · have e : (rd_T39 L i :: L.drop (i + 1).toNat).all (edgeB n) = false := by
        rw [Bool.not_eq_true] at c
        rw [List.all_cons, c, Bool.false_and]
      rw [if_neg c, e]
      rfl
theorem rcheck_ev (n : Int) (L : List S39) : Ev (fun k => snowlineref04_Check.f k n L) (if validB n L = true then 0 else 40) := by
  unfold snowlineref04_Check.f
  have hbad : validB n L = false → Ev (fun k => snowlineref04_Check.j0 k true n L) (if validB n L = true then 0 else 40) := fun e => by
    rw [e]
    exact Ev.step (f := fun k => some 40) (fun k => by rw [snowlineref04_Check.j0]; rfl) (Ev.now _)
  by_cases h1 : n < 1
  · refine Ev.pos h1 (hbad ?_)
    unfold validB; simp [show ¬ 1 ≤ n by omega]
  refine Ev.neg h1 ?_
  by_cases h2 : n > 256
  · refine Ev.pos h2 (hbad ?_)
    unfold validB; simp [show ¬ n ≤ 256 by omega]
  refine Ev.neg h2 ?_
  by_cases hl : L.length ≤ 4096
  · have e : validB n L = L.all (edgeB n) := by
      unfold validB; simp [show 1 ≤ n by omega, show n ≤ 256 by omega, hl]
    rw [decide_eq_false (by omega), e]
    refine Ev.step (f := fun k => snowlineref04_Check.l0 k 0 n L) (fun k => by rw [snowlineref04_Check.j0]; rfl) ?_
    refine Ev.shift (L.length + 1) (h := fun _ => some _) (fun f => ?_) (Ev.now _)
    have := rcheck_l0 n L hl L.length 0 f (by omega) (by omega)
    rw [show (0 : Int).toNat = 0 from rfl, List.drop_zero] at this
    exact this
  · rw [decide_eq_true (by omega)]
    refine hbad ?_
    unfold validB; simp [hl]
theorem equal_l0 (a b : List Int) (hl : a.length = b.length) (hs : a.length ≤ 4611686018427387904) : ∀ (q : Nat) (i : Int) (f : Nat), (q : Int) + i = a.length → 0 ≤ i → (∀ v : Int, 0 ≤ v → v < i → rd a v = rd b v) →
    ∃ r, slices_Equal_int_int.l0 (f + q + 1) a b a.length i = some r ∧ (r = true ↔ a = b)
  | 0, i, f, hq, hi, h => by
    refine ⟨true, ?_, fun _ => ext_rd hl (fun v h0 h1 => h v h0 (by omega)), fun _ => rfl⟩
    rw [slices_Equal_int_int.l0, if_neg (by omega)]
  | q + 1, i, f, hq, hi, h => by
    rw [show f + (q + 1) + 1 = (f + q + 1) + 1 from by omega, slices_Equal_int_int.l0, if_pos (by omega), if_pos hi, if_pos (by omega), if_pos (by omega)]
    by_cases e : rd a i = rd b i
    · rw [if_pos e, wrap_id (by omega) (by omega)]
      exact equal_l0 a b hl hs q (i + 1) f (by omega) (by omega) (fun v h0 h1 => by
        by_cases hv : v = i
        · rw [hv]; exact e
        · exact h v h0 (by omega))
    · rw [if_neg e]
      exact ⟨false, rfl, fun h => absurd h (by simp), fun h => absurd (by rw [h]) e⟩
theorem equal_ev (a b : List Int) (hs : a.length ≤ 4611686018427387904) : ∃ r : Bool, Ev (fun k => slices_Equal_int_int.f k a b) r ∧ (r = true ↔ a = b) := by
  unfold slices_Equal_int_int.f
  by_cases hl : a.length = b.length
  · obtain ⟨r, h1, h2⟩ := equal_l0 a b hl hs a.length 0 0 (by omega) (by omega) (fun v h0 h1 => by omega)
    refine ⟨r, Ev.pos (by omega) (Ev.shift (a.length + 1) (h := fun _ => some r) (fun f => ?_) (Ev.now _)), h2⟩
    obtain ⟨r', g1, g2⟩ := equal_l0 a b hl hs a.length 0 f (by omega) (by omega) (fun v h0 h1 => by omega)
    rw [show f + (a.length + 1) = f + a.length + 1 from rfl, g1]
    congr 1
    rw [Bool.eq_iff_iff, g2, h2]
  · exact ⟨false, Ev.neg (by omega) (Ev.now _), fun h => absurd h (by simp), fun h => absurd (by rw [h]) hl⟩
end Go.Proofs.Ytpolojoeabmhdaa.A
