import Derived.Test.YtpolojoeabmhdaaMYcorec
import Derived.Test.YtpolojoeabmhdaaMYcoree
import Derived.Test.YtpolojoeabmhdaaMYcoreh
set_option linter.unusedVariables false
set_option linter.unusedSimpArgs false
/- Numbers that fulfil a net; lists. -/
namespace Go.Proofs.Ytpolojoeabmhdaa.A
open Go.RowKit Go.Proofs.YtpolojoeabmhdaaW.PrintWords Go.Proofs.YtpolojoeabmhdaaW.PrintLast Go.Proofs.YtpolojoeabmhdaaW.PrintMore
theorem rd_cons (x : Int) (xs : List Int) (i : Int) (h : 0 <= i) : rd (x :: xs) (i + 1) = rd xs i := by
 unfold rd
 rw [show (i + 1).toNat = i.toNat + 1 from by omega]
 rfl
theorem rd_mem {l : List Int} {i : Int} (h0 : 0 <= i) (h1 : i < l.length) : rd l i ∈ l := by
 unfold rd
 rw [List.getD_eq_getElem?_getD, List.getElem?_eq_getElem (by omega)]; exact List.getElem_mem _
theorem mem_rd {l : List Int} {x : Int} (h : x ∈ l) : ∃ i : Int, 0 <= i /\ i < l.length /\ rd l i = x := by
 obtain ⟨i, hi, rfl⟩ := List.getElem_of_mem h
 refine ⟨i, by omega, by omega, ?_⟩
 unfold rd
 rw [List.getD_eq_getElem?_getD, Int.toNat_natCast, List.getElem?_eq_getElem hi]; rfl
theorem take_snoc {α : Type} (l : List α) (i : Nat) (h : i < l.length) : l.take (i + 1) = l.take i ++ [l[i]] := by
 rw [List.take_add_one, List.getElem?_eq_getElem h]; rfl
theorem chain_len (L : List S39) (la : List Int) : ∀ c v, (chain L la c v).length = c
 | 0, _ => rfl
 | c + 1, v => by simp [chain, chain_len L la c]
theorem edges_mem {n : Int} {D : List S39} (hE : EdgesOk n D) : ∀ d ∈ D, EdgeOk n d := fun d hd => by
 obtain ⟨i, hi, rfl⟩ := List.getElem_of_mem hd
 have := hE i (by omega) (by omega)
 unfold rT39 at this
 rw [List.getD_eq_getElem?_getD, Int.toNat_natCast, List.getElem?_eq_getElem hi] at this
 exact this
structure Asg (L : List S39) (x : Int -> Int) : Prop where
 z : x 0 = 0
 p : Pot L x
def EC (n : Int) (x : List Int) (d : S39) : Prop := 0 <= d.f0 /\ d.f0 < n /\ 0 <= d.f1 /\ d.f1 < n /\ rd x d.f1 - rd x d.f0 <= d.f2
structure Ful (n : Int) (L : List S39) (x : List Int) : Prop where
 l : (x.length : Int) = n
 n0 : 0 < n
 z : rd x 0 = 0
 b : ∀ v, 0 <= v -> v < n -> -1099511627776 <= rd x v /\ rd x v <= 1099511627776
 e : ∀ k, 0 <= k -> k < (L.length : Int) -> EC n x (rT39 L k)
section
variable {n : Nat} {D L : List S39}
theorem hmul (hV : Valid n D) : (n : Int) * D.length <= 1048576 := by
 have h1 := hV.n2
 have h2 := hV.l
 have := Int.mul_le_mul (a := (n : Int)) (b := D.length) (c := 256) (d := 4096) (by omega) (by omega) (by omega) (by omega)
 omega
theorem wk_bound {n : Int} {L : List S39} (hE : EdgesOk n L) : ∀ {u : Int} {l : List Int} {v W : Int}, Wk L u l v W -> -(l.length * 1073741824) <= W /\ W <= l.length * 1073741824
 | u, [], v, W, h => by
  obtain ⟨_, rfl⟩ := h
  simp
 | u, i :: is, v, W, h => by
  obtain ⟨⟨i0, i1⟩, _, h2⟩ := h
  have := wk_bound hE h2
  have hd := hE i i0 i1
  have := hd.e
  have := hd.f
  rw [List.length_cons]
  push_cast
  omega
theorem chain_len' (L : List S39) (la : List Int) (c : Nat) (v : Int) : (chain L la c v).length = c := chain_len L la c v
theorem solve_ful {L : List S39} (hn0 : 0 < n) (hn : n <= 256) (hE : EdgesOk n L) (hm : (n : Int) * L.length <= 1048576) (hs : Solv L) : ∃ (x : List Int) (s : Sg), Ev (fun k => d_solve.f k n L) (x, s.lo, s.ha, s.la, -1) /\ Ful n L x := by
 obtain ⟨x, s, bad, h1, h2, h3, h4, h5⟩ := solve_ev hn0 (by omega) hE hm
 have ha : ∀ v, 0 <= v -> v < (n : Int) -> v ∈ allL n := fun v a b => mem_allL.2 ⟨a, b⟩
 have hb := (h2.bad_iff hE ha).2 hs
 subst hb
 obtain ⟨l1, l2⟩ := h4 rfl
 obtain ⟨y, hy⟩ := hs
 have hf := (h2.good hE hy).2
 have bd : ∀ v, 0 <= v -> v < (n : Int) -> -274877906944 <= rd s.lo v /\ rd s.lo v <= 274877906944 := fun v v0 v1 => by
  obtain ⟨c, hc⟩ := h2.tree hE hf v0 v1 (h2.all_has ha v0 v1)
  have := wk_bound hE hc.walk
  rw [List.length_reverse, chain_len'] at this
  have := hc.few
  omega
 refine ⟨x, s, h3, by omega, by omega, ?_, fun v v0 v1 => ?_, fun k k0 k1 => ?_⟩
 .rw [l2 0 (by omega) (by omega)]; omega
 .rw [l2 v v0 v1]
  have := bd v v0 v1
  have := bd 0 (by omega) (by omega)
  omega
 .have he := hE k k0 k1
  have hp := h2.pot hE ha rfl k k0 k1
  refine ⟨he.a, he.b, he.c, he.g, ?_⟩
  rw [l2 _ he.c he.g, l2 _ he.a he.b]
  omega
structure NumOk (n : Int) (x : List Int) : Prop where
 l : (x.length : Int) = n
 b : ∀ v, 0 <= v -> v < n -> -1099511627776 <= rd x v /\ rd x v <= 1099511627776
theorem Ful.num {n : Int} {L : List S39} {x : List Int} (h : Ful n L x) : NumOk n x := ⟨h.l, h.b⟩
end
end Go.Proofs.Ytpolojoeabmhdaa.A
/- The flow of the differences: steps keep it cheapest; when no step is left it is feasible, or nothing is. -/
namespace Go.Proofs.Ytpolojoeabmhdaa.A
open Go.RowKit Go.Proofs.YtpolojoeabmhdaaW.PrintWords Go.Proofs.YtpolojoeabmhdaaW.PrintLast Go.Proofs.YtpolojoeabmhdaaW.PrintMore
theorem usedL_iff : ∀ (l : List Int) (i k : Int), k ∈ usedL l i <-> i <= k /\ k < i + l.length /\ 0 < rd l (k - i)
 | [], i, k => by simp [usedL]; omega
 | x :: xs, i, k => by
  unfold usedL
  have ih := usedL_iff xs (i + 1) k
  have e0 : rd (x :: xs) 0 = x := rfl
  by_cases hk : k = i
  .subst hk
   rw [show k - k = 0 from by omega, e0]
   by_cases hp : x > 0
   .rw [if_pos hp]; simp; omega
   .rw [if_neg hp, ih]; simp only [List.length_cons]; omega
  .have e1 : i + 1 <= k -> rd (x :: xs) (k - i) = rd xs (k - (i + 1)) := fun h => by
    rw [show k - i = (k - (i + 1)) + 1 from by omega]; exact rd_cons _ _ _ (by omega)
   have key : (k ∈ usedL xs (i + 1)) <-> i <= k /\ k < i + (x :: xs).length /\ 0 < rd (x :: xs) (k - i) := by
    rw [ih]
    simp only [List.length_cons]
    constructor
    .rintro ⟨a, b, c⟩; exact ⟨by omega, by omega, by rw [e1 a]; exact c⟩
    .rintro ⟨a, b, c⟩
     have a' : i + 1 <= k := by omega
     exact ⟨a', by omega, by rw [e1 a'] at c; exact c⟩
   by_cases hp : x > 0
   .rw [if_pos hp, List.mem_cons, <- key]; simp [hk]
   .rw [if_neg hp, <- key]
theorem usedL_sorted : ∀ (l : List Int) (i : Int), (usedL l i).Pairwise (· < ·)
 | [], _ => by simp [usedL]
 | x :: xs, i => by
  unfold usedL
  have ih := usedL_sorted xs (i + 1)
  by_cases hp : x > 0
  .rw [if_pos hp]
   exact List.pairwise_cons.2 ⟨fun k hk => by have := (usedL_iff xs (i + 1) k).1 hk; omega, ih⟩
  .rw [if_neg hp]; exact ih
theorem usedL_inj {l : List Int} {a b : Int} (ha : 0 <= a) (ha1 : a < (usedL l 0).length) (hb : 0 <= b) (hb1 : b < (usedL l 0).length) (e : rd (usedL l 0) a = rd (usedL l 0) b) : a = b := by
 have hs := usedL_sorted l 0
 rw [List.pairwise_iff_getElem] at hs
 unfold rd at e
 rw [List.getD_eq_getElem?_getD, List.getD_eq_getElem?_getD, List.getElem?_eq_getElem (show a.toNat < _ by omega), List.getElem?_eq_getElem (show b.toNat < _ by omega)] at e
 simp only [Option.getD_some] at e
 have h1 := fun h => hs a.toNat b.toNat (by omega) (by omega) h
 have h2 := fun h => hs b.toNat a.toNat (by omega) (by omega) h
 rcases Nat.lt_trichotomy a.toNat b.toNat with h | h | h
 .have := h1 h; omega
 .omega
 .have := h2 h; omega
section
variable {D : List S39} {F : List Int}
theorem lines_len : (linesL D F).length = D.length + (usedL F 0).length := by unfold linesL; simp
theorem lines_lo {i : Int} (h0 : 0 <= i) (h1 : i < D.length) : rT39 (linesL D F) i = rT39 D i := by
 unfold linesL rT39
 rw [List.getD_eq_getElem?_getD, List.getD_eq_getElem?_getD, List.getElem?_append_left (by omega)]
theorem lines_hi {j : Int} (h0 : 0 <= j) (h1 : j < (usedL F 0).length) : rT39 (linesL D F) (D.length + j) = turnD (rT39 D (rd (usedL F 0) j)) := by
 unfold linesL rT39 rd
 rw [List.getD_eq_getElem?_getD, List.getElem?_append_right (by omega), List.getElem?_map]
 rw [show ((D.length : Int) + j).toNat - D.length = j.toNat from by omega, List.getElem?_eq_getElem (show j.toNat < (usedL F 0).length by omega)]
 simp only [Option.map_some, Option.getD_some]
 rw [List.getD_eq_getElem?_getD (l := usedL F 0), List.getElem?_eq_getElem (show j.toNat < (usedL F 0).length by omega)]
 rfl
theorem used_at (hF : F.length = D.length) {j : Int} (h0 : 0 <= j) (h1 : j < (usedL F 0).length) : 0 <= rd (usedL F 0) j /\ rd (usedL F 0) j < D.length /\ 0 < rd F (rd (usedL F 0) j) := by
 have := (usedL_iff F 0 _).1 (rd_mem h0 h1)
 rw [show rd (usedL F 0) j - 0 = rd (usedL F 0) j from by omega] at this
 exact ⟨by omega, by omega, this.2.2⟩
theorem used_of (hF : F.length = D.length) {k : Int} (h0 : 0 <= k) (h1 : k < D.length) (h2 : 0 < rd F k) : ∃ j : Int, 0 <= j /\ j < (usedL F 0).length /\ rd (usedL F 0) j = k :=
 mem_rd ((usedL_iff F 0 k).2 ⟨h0, by omega, by rw [show k - 0 = k from by omega]; exact h2⟩)
theorem lines_ok {n : Int} (hE : EdgesOk n D) (hF : F.length = D.length) : EdgesOk n (linesL D F) := by
 intro i h0 h1
 rw [lines_len] at h1
 by_cases h : i < D.length
 .rw [lines_lo h0 h]; exact hE i h0 h
 .obtain ⟨j, rfl⟩ : ∃ j : Int, i = D.length + j := ⟨i - D.length, by omega⟩
  rw [lines_hi (by omega) (by push_cast at h1; omega)]
  have hu := used_at hF (j := j) (by omega) (by push_cast at h1; omega)
  have hd := hE _ hu.1 hu.2.1
  exact ⟨hd.c, hd.g, hd.a, hd.b, by have := hd.f; simp only [turnD]; omega, by have := hd.e; simp only [turnD]; omega⟩
end
def netF : List S39 -> List Int -> Int -> Int
 | d :: ds, f :: fs, v => ((if d.f1 = v then f else 0) - (if d.f0 = v then f else 0)) + netF ds fs v
 | _, _, _ => 0
def ind (a b x : Int) : Int := (if b = x then 1 else 0) - (if a = x then 1 else 0)
theorem netF_set : ∀ (D : List S39) (F : List Int) (k : Nat) (x v : Int), k < D.length -> F.length = D.length ->
  netF D (F.set k x) v = netF D F v + (x - rd F k) * ind (rT39 D k).f0 (rT39 D k).f1 v
 | [], _, k, _, _, h, _ => absurd h (Nat.not_lt_zero _)
 | d :: ds, [], k, x, v, h, hl => by simp at hl
 | d :: ds, f :: fs, 0, x, v, h, hl => by
  show ((if d.f1 = v then x else 0) - (if d.f0 = v then x else 0)) + netF ds fs v = ((if d.f1 = v then f else 0) - (if d.f0 = v then f else 0)) + netF ds fs v + (x - f) * ((if d.f1 = v then 1 else 0) - (if d.f0 = v then 1 else 0))
  by_cases h1 : d.f1 = v <;> by_cases h0 : d.f0 = v <;> simp [h1, h0] <;> omega
 | d :: ds, f :: fs, k + 1, x, v, h, hl => by
  have ih := netF_set ds fs k x v (by simpa using h) (by simpa using hl)
  show ((if d.f1 = v then f else 0) - (if d.f0 = v then f else 0)) + netF ds (fs.set k x) v = ((if d.f1 = v then f else 0) - (if d.f0 = v then f else 0)) + netF ds fs v + (x - rd fs k) * ind (rT39 ds k).f0 (rT39 ds k).f1 v
  rw [ih]; omega
def dlt (L : List S39) : List Int -> Int -> Int
 | [], _ => 0
 | i :: is, x => ind (rT39 L i).f0 (rT39 L i).f1 x + dlt L is x
theorem dlt_chain {n : Int} {L : List S39} {src : Int -> Prop} {b k : Int} {s : Sg} {T : Int -> Int} (h : Bf n L src b k s T) (hE : EdgesOk n L) : ∀ (c : Nat) {v : Int}, 0 <= v -> v < n -> Goes L s.la c v -> ∀ x, dlt L (chain L s.la c v) x = ind (it L s.la c v) v x
 | 0, v, h0, h1, hg, x => by simp [chain, dlt, it, ind]; omega
 | c + 1, v, h0, h1, hg, x => by
  have hn := h.bk_node hE h0 h1 hg.1
  have hp := h.p v h0 h1 (h.la_pos h0 h1 hg.1)
  have ih := dlt_chain h hE c hn.1 hn.2 hg.2 x
  simp only [chain, dlt, it]
  rw [ih, hp.2.2.2.1]
  unfold ind bk
  omega
theorem mem_chain {L : List S39} {la : List Int} : ∀ (c : Nat) {v i : Int}, i ∈ chain L la c v -> ∃ j, j < c /\ i = rd la (it L la j v)
 | 0, v, i, h => by simp [chain] at h
 | c + 1, v, i, h => by
  rcases List.mem_cons.1 h with h | h
  .exact ⟨0, by omega, h⟩
  .obtain ⟨j, a, b⟩ := mem_chain c h
   exact ⟨j + 1, by omega, b⟩
theorem chain_nodup {n : Int} {L : List S39} {src : Int -> Prop} {b k : Int} {s : Sg} {T : Int -> Int} (h : Bf n L src b k s T) (hE : EdgesOk n L) : ∀ (c : Nat) {v : Int}, 0 <= v -> v < n -> Goes L s.la c v -> (∀ i j, i < j -> j <= c -> it L s.la i v ≠ it L s.la j v) -> (chain L s.la c v).Nodup
 | 0, v, _, _, _, _ => by simp [chain]
 | c + 1, v, h0, h1, hg, ha => by
  have hn := h.bk_node hE h0 h1 hg.1
  have hp := h.p v h0 h1 (h.la_pos h0 h1 hg.1)
  refine List.nodup_cons.2 ⟨fun hm => ?_, chain_nodup h hE c hn.1 hn.2 hg.2 (fun i j hi hj => ha (i + 1) (j + 1) (by omega) (by omega))⟩
  obtain ⟨j, hj, e⟩ := mem_chain c hm
  have hgj : Goes L s.la (j + 1) (bk L s.la v) := goes_le hg.2 (by omega)
  have hnj := h.it_node hE j hn.1 hn.2 (goes_le hgj (by omega))
  have hl : 0 <= rd s.la (it L s.la j (bk L s.la v)) := ((goes_add L s.la j 1 _).1 hgj).2.1
  have hpj := h.p _ hnj.1 hnj.2 (h.la_pos hnj.1 hnj.2 hl)
  refine ha 0 (j + 1) (by omega) (by omega) ?_
  show v = it L s.la j (bk L s.la v)
  have e3 := hpj.2.2.2.1
  rw [<- e] at e3
  exact hp.2.2.2.1.symm.trans e3
theorem chain_ok {n : Int} {L : List S39} {src : Int -> Prop} {b k : Int} {s : Sg} {T : Int -> Int} (h : Bf n L src b k s T) (hE : EdgesOk n L) {c : Nat} {v : Int} (h0 : 0 <= v) (h1 : v < n) (hg : Goes L s.la c v) : ∀ i ∈ chain L s.la c v, 0 <= i /\ i < L.length := by
 intro i hi
 obtain ⟨j, hj, rfl⟩ := mem_chain c hi
 have hgj : Goes L s.la (j + 1) v := goes_le hg (by omega)
 have hn := h.it_node hE j h0 h1 (goes_le hgj (by omega))
 have hl := ((goes_add L s.la j 1 _).1 hgj).2.1
 have hp := h.p _ hn.1 hn.2 (h.la_pos hn.1 hn.2 hl)
 exact ⟨hp.1, hp.2.1⟩
theorem path_chain {n : Int} {L : List S39} {src : Int -> Prop} {b k : Int} {s : Sg} {T : Int -> Int} (h : Bf n L src b k s T) (hE : EdgesOk n L) : ∀ (c : Nat) {v : Int} (acc : List Int) (f : Nat), 0 <= v -> v < n -> Goes L s.la c v -> rd s.la (it L s.la c v) = -1 -> acc.length + c < 65536 ->
  pathL L s.la (f + c + 1) v acc = some (acc ++ chain L s.la c v, it L s.la c v)
 | 0, v, acc, f, h0, h1, hg, hr, hl => by
  have l3 := h.l3
  have hr' : rd s.la v = -1 := hr
  rw [pathL, if_pos ⟨h0, by omega⟩, if_neg (by omega)]
  simp [chain, it]
 | c + 1, v, acc, f, h0, h1, hg, hr, hl => by
  have l3 := h.l3
  have hn := h.bk_node hE h0 h1 hg.1
  have hp := h.p v h0 h1 (h.la_pos h0 h1 hg.1)
  rw [show f + (c + 1) + 1 = (f + c + 1) + 1 from by omega, pathL, if_pos ⟨h0, by omega⟩, if_pos hg.1, if_pos ⟨hp.2.1, by omega⟩]
  have := path_chain h hE c (acc ++ [rd s.la v]) f hn.1 hn.2 hg.2 hr (by simp; omega)
  rw [List.append_assoc] at this
  exact this
section
variable {n : Int} {D : List S39} {F0 : List Int}
theorem much_ok (hF : F0.length = D.length) (hD : D.length <= 65536) : ∀ (l : List Int) (mm : Int), (∀ i ∈ l, 0 <= i /\ i < (linesL D F0).length) ->
  ∃ M, muchL D.length F0 (usedL F0 0) l mm = some M /\ M <= mm /\ (1 <= mm -> 1 <= M) /\ ∀ j : Int, 0 <= j -> (D.length : Int) + j ∈ l -> M <= rd F0 (rd (usedL F0 0) j)
 | [], mm, _ => ⟨mm, rfl, by omega, fun h => h, fun j _ h => by simp at h⟩
 | i :: is, mm, hl => by
  have hi := hl i (by simp)
  have hul := usedL_len F0 0
  rw [lines_len] at hi
  unfold muchL
  by_cases hr : i >= (D.length : Int)
  .have hw : wrap64 (i - D.length) = i - D.length := wrap_id (by omega) (by omega)
   have hu := used_at hF (j := i - D.length) (by omega) (by omega)
   obtain ⟨M, a, b, c, d⟩ := much_ok hF hD is (min mm (rd F0 (rd (usedL F0 0) (i - D.length)))) (fun x hx => hl x (by simp [hx]))
   rw [if_pos hr, hw, if_pos ⟨⟨by omega, by omega⟩, hu.1, by omega⟩]
   refine ⟨M, a, by omega, fun h => c (by omega), fun j hj hm => ?_⟩
   rcases List.mem_cons.1 hm with e | hm
   .rw [show j = i - D.length from by omega]; omega
   .exact d j hj hm
  .obtain ⟨M, a, b, c, d⟩ := much_ok hF hD is mm (fun x hx => hl x (by simp [hx]))
   rw [if_neg hr]
   refine ⟨M, a, b, c, fun j hj hm => ?_⟩
   rcases List.mem_cons.1 hm with e | hm
   .omega
   .exact d j hj hm
theorem apply_ok (hF : F0.length = D.length) (hD : D.length <= 65536) {much : Int} (hm0 : 0 <= much) (hm1 : much <= 1048576) : ∀ (l : List Int) (F : List Int) (X : Int), F.length = D.length -> (∀ i ∈ l, 0 <= i /\ i < (linesL D F0).length) -> l.Nodup -> (∀ k, 0 <= k -> k < (D.length : Int) -> -X <= rd F k /\ rd F k <= X) -> 0 <= X -> X + (l.length : Int) * 1048576 <= 4611686018427387904 ->
  ∃ F', applyL D.length (usedL F0 0) much l F = some F' /\ F'.length = D.length /\ (∀ v, netF D F' v = netF D F v + much * dlt (linesL D F0) l v) /\
   ∀ k : Int, 0 <= k -> k < D.length -> (rd F' k >= rd F k ∨ ((∃ j : Int, 0 <= j /\ j < (usedL F0 0).length /\ (D.length : Int) + j ∈ l /\ rd (usedL F0 0) j = k) /\ rd F' k >= rd F k - much)) /\ (k ∉ l -> rd F' k <= rd F k) /\ rd F' k <= rd F k + much
 | [], F, X, hl, hi, hn, hb, hX, hX2 => ⟨F, rfl, hl, fun v => by simp [dlt], fun k h0 h1 => ⟨Or.inl (by omega), fun _ => by omega, by omega⟩⟩
 | i :: is, F, X, hl, hi, hn, hb, hX, hX2 => by
  have hi0 := hi i (by simp)
  have hul := usedL_len F0 0
  obtain ⟨hni, hns⟩ := List.nodup_cons.1 hn
  have hX3 : X + 1048576 + (is.length : Int) * 1048576 <= 4611686018427387904 := by
   simp only [List.length_cons] at hX2
   rw [Int.natCast_add, Int.add_mul] at hX2
   omega
  rw [lines_len] at hi0
  unfold applyL
  by_cases hr : i >= (D.length : Int)
  .have hw : wrap64 (i - D.length) = i - D.length := wrap_id (by omega) (by omega)
   obtain ⟨u1, u2, u3⟩ := used_at hF (j := i - D.length) (by omega) (by omega)
   have hbk := hb _ u1 u2
   rw [if_pos hr, hw, if_pos ⟨⟨by omega, by omega⟩, u1, by omega⟩, wrap_id (x := rd F (rd (usedL F0 0) (i - D.length)) - much) (by omega) (by omega)]
   obtain ⟨k0, hk0⟩ : ∃ k0, k0 = rd (usedL F0 0) (i - D.length) := ⟨_, rfl⟩
   rw [<- hk0] at u1 u2 u3 hbk ⊢
   have hset : ∀ k, 0 <= k -> rd (F.set k0.toNat (rd F k0 - much)) k = if k = k0 then rd F k0 - much else rd F k := fun k hk => rd_set _ _ _ _ u1 (by omega) hk
   obtain ⟨F', a, b, c, d⟩ := apply_ok hF hD hm0 hm1 is (F.set k0.toNat (rd F k0 - much)) (X + 1048576) (by simpa using hl) (fun x hx => hi x (by simp [hx])) hns (fun k h0 h1 => by
    rw [hset k h0]; have := hb k h0 h1; split <;> omega) (by omega) hX3
   refine ⟨F', a, b, fun v => ?_, fun k h0 h1 => ?_⟩
   .rw [c v]
    have e1 := netF_set D F k0.toNat (rd F k0 - much) v (by omega) hl
    have e2 : ((k0.toNat : Nat) : Int) = k0 := by omega
    rw [e2] at e1
    rw [e1]
    have e3 : rT39 (linesL D F0) i = turnD (rT39 D k0) := by
     have := lines_hi (D := D) (F := F0) (j := i - D.length) (by omega) (by omega)
     rw [show (D.length : Int) + (i - D.length) = i from by omega, <- hk0] at this
     exact this
    simp only [dlt]
    rw [e3, Int.mul_add]
    have e4 : (rd F k0 - much - rd F k0) * ind (rT39 D k0).f0 (rT39 D k0).f1 v = much * ind (turnD (rT39 D k0)).f0 (turnD (rT39 D k0)).f1 v := by
     rw [show rd F k0 - much - rd F k0 = -much from by omega, Int.neg_mul, <- Int.mul_neg]
     congr 1
     simp only [ind, turnD]
     omega
    omega
   .obtain ⟨d1, d2, d3⟩ := d k h0 h1
    rw [hset k h0] at d1 d2 d3
    by_cases e : k = k0
    .rw [if_pos e] at d1 d2 d3
     subst e
     refine ⟨?_, fun hk => ?_, by omega⟩
     .rcases d1 with d1 | ⟨⟨j, j0, j1, jm, je⟩, d1⟩
      .exact Or.inr ⟨⟨i - D.length, by omega, by omega, by rw [show (D.length : Int) + (i - D.length) = i from by omega]; simp, hk0.symm⟩, by omega⟩
      .have := usedL_inj j0 j1 (by omega) (by omega) (je.trans hk0)
       exact absurd (by rw [show i = (D.length : Int) + j from by omega]; exact jm) hni
     .have := d2 (fun h => hk (by simp [h])); omega
    .rw [if_neg e] at d1 d2 d3
     refine ⟨?_, fun hk => d2 (fun h => hk (by simp [h])), d3⟩
     rcases d1 with d1 | ⟨⟨j, j0, j1, jm, je⟩, d1⟩
     .exact Or.inl d1
     .exact Or.inr ⟨⟨j, j0, j1, by simp [jm], je⟩, d1⟩
  .have hlt : i < (D.length : Int) := by omega
   have hbk := hb _ hi0.1 hlt
   rw [if_neg hr, if_pos ⟨hi0.1, by omega⟩, wrap_id (x := rd F i + much) (by omega) (by omega)]
   have hset : ∀ k, 0 <= k -> rd (F.set i.toNat (rd F i + much)) k = if k = i then rd F i + much else rd F k := fun k hk => rd_set _ _ _ _ hi0.1 (by omega) hk
   obtain ⟨F', a, b, c, d⟩ := apply_ok hF hD hm0 hm1 is (F.set i.toNat (rd F i + much)) (X + 1048576) (by simpa using hl) (fun x hx => hi x (by simp [hx])) hns (fun k h0 h1 => by
    rw [hset k h0]; have := hb k h0 h1; split <;> omega) (by omega) hX3
   refine ⟨F', a, b, fun v => ?_, fun k h0 h1 => ?_⟩
   .rw [c v]
    have e1 := netF_set D F i.toNat (rd F i + much) v (by omega) hl
    have e2 : ((i.toNat : Nat) : Int) = i := by omega
    rw [e2] at e1
    rw [e1]
    simp only [dlt]
    rw [lines_lo hi0.1 hlt, Int.mul_add, show rd F i + much - rd F i = much from by omega]
    omega
   .obtain ⟨d1, d2, d3⟩ := d k h0 h1
    rw [hset k h0] at d1 d2 d3
    by_cases e : k = i
    .rw [if_pos e] at d1 d2 d3
     subst e
     refine ⟨?_, fun hk => absurd (by simp) hk, by have := d2 hni; omega⟩
     rcases d1 with d1 | ⟨⟨j, j0, j1, jm, je⟩, d1⟩
     .exact Or.inl (by omega)
     .exact Or.inl (by omega)
    .rw [if_neg e] at d1 d2 d3
     refine ⟨?_, fun hk => d2 (fun h => hk (by simp [h])), d3⟩
     rcases d1 with d1 | ⟨⟨j, j0, j1, jm, je⟩, d1⟩
     .exact Or.inl d1
     .exact Or.inr ⟨⟨j, j0, j1, by simp [jm], je⟩, d1⟩
end
def ab (x : Int) : Int := if x < 0 then -x else x
def sabs : List Int -> Int
 | [] => 0
 | x :: xs => ab x + sabs xs
theorem ab_nonneg (x : Int) : 0 <= ab x := by unfold ab; split <;> omega
theorem sabs_nonneg : ∀ l, 0 <= sabs l
 | [] => Int.le_refl _
 | x :: xs => by have := sabs_nonneg xs; have := ab_nonneg x; simp only [sabs]; omega
theorem sabs_set : ∀ (l : List Int) (k : Nat) (x : Int), k < l.length -> sabs (l.set k x) = sabs l - ab (rd l k) + ab x /\ ab (rd l k) <= sabs l
 | [], k, x, h => absurd h (Nat.not_lt_zero _)
 | y :: ys, 0, x, h => by
  have := sabs_nonneg ys
  show ab x + sabs ys = ab y + sabs ys - ab y + ab x /\ ab y <= ab y + sabs ys
  omega
 | y :: ys, k + 1, x, h => by
  have ih := sabs_set ys k x (by simpa using h)
  have := ab_nonneg y
  show ab y + sabs (ys.set k x) = ab y + sabs ys - ab (rd ys k) + ab x /\ ab (rd ys k) <= ab y + sabs ys
  omega
def phi (W : List Int) : Int := sabs (W.drop 1)
theorem phi_nonneg (W : List Int) : 0 <= phi W := sabs_nonneg _
theorem phi_set {W : List Int} {v x : Int} (h0 : 1 <= v) (h1 : v < W.length) : phi (W.set v.toNat x) = phi W - ab (rd W v) + ab x /\ ab (rd W v) <= phi W := by
 obtain ⟨k, hk⟩ : ∃ k : Nat, v.toNat = k + 1 := ⟨v.toNat - 1, by omega⟩
 cases W with
 | nil => simp at h1; omega
 | cons y ys =>
  simp only [List.length_cons] at h1
  have := sabs_set ys k x (by omega)
  have e : rd (y :: ys) v = rd ys k := by
   rw [show v = (k : Int) + 1 from by omega]; exact rd_cons _ _ _ (by omega)
  rw [e, hk]
  exact this
theorem want2_rd {n : Nat} {W : List Int} (hl : W.length = n) {tg at_ M : Int} (t0 : 0 <= tg) (t1 : tg < n) (a0 : 0 <= at_) (a1 : at_ < n) (hne : at_ ≠ tg) (hM : 0 <= M /\ M <= 1048576) (hb : ∀ v, 0 < v -> v < (n : Int) -> -1048576 <= rd W v /\ rd W v <= 1048576) :
  (want2 W tg at_ M).length = n /\ ∀ v, 1 <= v -> v < (n : Int) -> rd (want2 W tg at_ M) v = rd W v - M * ind at_ tg v := by
 have l1 : (want1 W tg M).length = n := by unfold want1; split; exact hl; rw [List.length_set]; exact hl
 have r1 : ∀ v, 1 <= v -> v < (n : Int) -> rd (want1 W tg M) v = if v = tg then rd W v - M else rd W v := fun v h0 h1 => by
  unfold want1
  by_cases e : tg = 0
  .rw [if_pos e, if_neg (by omega)]
  .have := hb tg (by omega) t1
   rw [if_neg e, rd_set _ _ _ _ t0 (by omega) (by omega), wrap_id (by omega) (by omega)]
   by_cases ev : v = tg
   .rw [if_pos ev, if_pos ev, ev]
   .rw [if_neg ev, if_neg ev]
 refine ⟨by unfold want2; split; exact l1; rw [List.length_set]; exact l1, fun v h0 h1 => ?_⟩
 have hi : M * ind at_ tg v = if v = tg then M else if v = at_ then -M else 0 := by
  unfold ind
  by_cases e : v = tg
  .rw [if_pos e, if_pos e.symm, if_neg (by omega)]; omega
  .rw [if_neg e, if_neg (Ne.symm e)]
   by_cases e2 : v = at_
   .rw [if_pos e2, if_pos e2.symm]; omega
   .rw [if_neg e2, if_neg (Ne.symm e2)]; omega
 rw [hi]
 unfold want2
 by_cases ea : at_ = 0
 .rw [if_pos ea, r1 v h0 h1]
  by_cases e : v = tg
  .rw [if_pos e, if_pos e]
  .rw [if_neg e, if_neg e, if_neg (by omega)]; omega
 .have hba := hb at_ (by omega) a1
  rw [if_neg ea, rd_set _ _ _ _ a0 (by omega) (by omega), r1 at_ (by omega) a1, if_neg hne, wrap_id (by omega) (by omega)]
  by_cases e2 : v = at_
  .rw [if_pos e2, if_neg (by omega), if_pos e2, e2]; omega
  .rw [if_neg e2, r1 v h0 h1]
   by_cases e : v = tg
   .rw [if_pos e, if_pos e]
   .rw [if_neg e, if_neg e, if_neg e2]; omega
theorem want2_phi {n : Nat} {W : List Int} (hl : W.length = n) {tg at_ M : Int} (t0 : 0 <= tg) (t1 : tg < n) (a0 : 0 <= at_) (a1 : at_ < n) (hne : at_ ≠ tg) (hM : 0 <= M /\ M <= 1048576) (hp : phi W <= 1048576) (h1 : tg ≠ 0 -> M <= rd W tg) (h2 : at_ ≠ 0 -> M <= -(rd W at_)) (h3 : tg ≠ 0 ∨ at_ ≠ 0) :
  phi (want2 W tg at_ M) <= phi W - M := by
 have ft : tg ≠ 0 -> ab (rd W tg) <= phi W := fun h => (phi_set (x := 0) (by omega) (by omega)).2
 have fa : at_ ≠ 0 -> ab (rd W at_) <= phi W := fun h => (phi_set (x := 0) (by omega) (by omega)).2
 have p1 : (want1 W tg M).length = n /\ phi (want1 W tg M) = (if tg = 0 then phi W else phi W - M) /\ (at_ ≠ 0 -> rd (want1 W tg M) at_ = rd W at_) := by
  unfold want1
  by_cases e : tg = 0
  .rw [if_pos e, if_pos e]; exact ⟨hl, rfl, fun _ => rfl⟩
  .have ht := h1 e
   have hf := ft e
   unfold ab at hf
   rw [if_neg e, if_neg e, wrap_id (by split at hf <;> omega) (by split at hf <;> omega)]
   have := (phi_set (W := W) (v := tg) (x := rd W tg - M) (by omega) (by omega)).1
   refine ⟨by rw [List.length_set]; exact hl, ?_, fun _ => by rw [rd_set _ _ _ _ t0 (by omega) a0, if_neg hne]⟩
   rw [this]
   unfold ab
   rw [if_neg (by omega), if_neg (by omega)]; omega
 obtain ⟨l1, p1, r1⟩ := p1
 unfold want2
 by_cases ea : at_ = 0
 .rw [if_pos ea, p1, if_neg (h3.resolve_right (fun h => h ea))]
  omega
 .have ha := h2 ea
  have hf := fa ea
  unfold ab at hf
  rw [if_neg ea, r1 ea, wrap_id (by split at hf <;> omega) (by split at hf <;> omega)]
  have := (phi_set (W := want1 W tg M) (v := at_) (x := rd W at_ + M) (by omega) (by omega)).1
  rw [this, p1, r1 ea]
  unfold ab
  split <;> split <;> split <;> omega
theorem bound_all (g : Int -> Int) : ∀ N : Nat, ∃ M, ∀ i : Int, 0 <= i -> i < N -> g i <= M
 | 0 => ⟨0, fun i h0 h1 => by omega⟩
 | N + 1 => by
  obtain ⟨M, hM⟩ := bound_all g N
  refine ⟨max M (g N), fun i h0 h1 => ?_⟩
  by_cases e : i = N
  .rw [e]; omega
  .have := hM i h0 (by omega); omega
instance hasNDec (s : Sg) (v : Int) : Decidable (hasN s v) := inferInstanceAs (Decidable (rdOf false s.ha v = true))
structure FI (n : Nat) (D : List S39) (w F W : List Int) : Prop where
 lf : F.length = D.length
 lw : W.length = n
 pos : ∀ k, 0 <= k -> k < (D.length : Int) -> 0 <= rd F k
 bal : ∀ v, 1 <= v -> v < (n : Int) -> netF D F v + rd W v = rd w v
 pot : Solv (linesL D F)
 up : ∀ k, 0 <= k -> k < (D.length : Int) -> rd F k + phi W <= 1048576
 ph : phi W <= 1048576
section
variable {n : Nat} {D : List S39} {w F W : List Int}
theorem FI.wb (h : FI n D w F W) {v : Int} (h0 : 0 < v) (h1 : v < n) : -1048576 <= rd W v /\ rd W v <= 1048576 := by
 have := (phi_set (W := W) (v := v) (x := 0) (by omega) (by have := h.lw; omega)).2
 have := h.ph
 unfold ab at *
 split at * <;> omega
theorem augment (h : FI n D w F W) (hE : EdgesOk n D) (hD : D.length <= 65536) {src : Int -> Prop} {s : Sg} (hs : GrowPost n (linesL D F) src s (-1)) (hf : Fix (linesL D F) s) {tg : Int} {c : Nat} (t0 : 0 <= tg) (t1 : tg < n) (hn : n <= 65536)
  (ht : Tree n (linesL D F) src s tg c) (hne : it (linesL D F) s.la c tg ≠ tg) {M : Int} (hM0 : 1 <= M) (hM1 : M <= 1048576) (h1 : tg ≠ 0 -> M <= rd W tg) (h2 : it (linesL D F) s.la c tg ≠ 0 -> M <= -(rd W (it (linesL D F) s.la c tg))) (h3 : tg ≠ 0 ∨ it (linesL D F) s.la c tg ≠ 0)
  (hr : ∀ j : Int, 0 <= j -> (D.length : Int) + j ∈ chain (linesL D F) s.la c tg -> M <= rd F (rd (usedL F 0) j)) :
  ∃ F', applyL D.length (usedL F 0) M (chain (linesL D F) s.la c tg) F = some F' /\ FI n D w F' (want2 W tg (it (linesL D F) s.la c tg) M) /\ phi (want2 W tg (it (linesL D F) s.la c tg) M) <= phi W - M := by
 obtain ⟨b, T, hb, hb2, hB⟩ := hs.bf
 have hEL := lines_ok hE h.lf
 have hat := ht.node c (Nat.le_refl _)
 have hph := h.ph
 obtain ⟨F', a1, a2, a3, a4⟩ := apply_ok h.lf hD (by omega) hM1 (chain (linesL D F) s.la c tg) F 1048576 h.lf (chain_ok hB hEL t0 t1 ht.goes) (chain_nodup hB hEL c t0 t1 ht.goes ht.apart) (fun k k0 k1 => by
  have := h.pos k k0 k1; have := h.up k k0 k1; have := phi_nonneg W; omega) (by omega) (by rw [chain_len]; have := ht.few; omega)
 have hw := want2_rd h.lw t0 t1 hat.1 hat.2 hne ⟨by omega, hM1⟩ (fun v v0 v1 => h.wb v0 v1)
 have hp := want2_phi h.lw t0 t1 hat.1 hat.2 hne ⟨by omega, hM1⟩ hph h1 h2 h3
 refine ⟨F', a1, ⟨a2, hw.1, fun k k0 k1 => ?_, fun v v0 v1 => ?_, ?_, fun k k0 k1 => ?_, by omega⟩, hp⟩
 .have := h.pos k k0 k1
  rcases (a4 k k0 k1).1 with q | ⟨⟨j, j0, j1, jm, je⟩, q⟩
  .omega
  .have := hr j j0 jm; rw [je] at this; omega
 .rw [a3 v, hw.2 v v0 v1, dlt_chain hB hEL c t0 t1 ht.goes v]
  have := h.bal v v0 v1
  omega
 .obtain ⟨π, hπ⟩ := h.pot
  obtain ⟨C, hC⟩ := bound_all (fun i => rd s.lo (rT39 (linesL D F) i).f1 - π (rT39 (linesL D F) i).f0 - (rT39 (linesL D F) i).f2) (linesL D F).length
  have hline : ∀ i : Int, 0 <= i -> i < (linesL D F).length -> (if hasN s (rT39 (linesL D F) i).f1 then rd s.lo (rT39 (linesL D F) i).f1 else π (rT39 (linesL D F) i).f1 + C) - (if hasN s (rT39 (linesL D F) i).f0 then rd s.lo (rT39 (linesL D F) i).f0 else π (rT39 (linesL D F) i).f0 + C) <= (rT39 (linesL D F) i).f2 := fun i i0 i1 => by
   have hp := hπ i i0 i1
   have hc := hC i i0 i1
   by_cases hu : hasN s (rT39 (linesL D F) i).f0
   .have := hf.edge i0 i1 hu
    rw [if_pos hu, if_pos this.1]; omega
   .rw [if_neg hu]
    by_cases hv : hasN s (rT39 (linesL D F) i).f1
    .rw [if_pos hv]; omega
    .rw [if_neg hv]; omega
  refine ⟨fun v => if hasN s v then rd s.lo v else π v + C, fun i i0 i1 => ?_⟩
  by_cases hi : i < (D.length : Int)
  .rw [lines_lo i0 hi]
   have := hline i i0 (by rw [lines_len]; omega)
   rw [lines_lo i0 hi] at this
   exact this
  .rw [lines_len] at i1
   obtain ⟨j, rfl⟩ : ∃ j : Int, i = D.length + j := ⟨i - D.length, by omega⟩
   rw [lines_hi (by omega) (by push_cast at i1; omega)]
   obtain ⟨u1, u2, u3⟩ := used_at a2 (j := j) (by omega) (by push_cast at i1; omega)
   obtain ⟨k, hk⟩ : ∃ k, k = rd (usedL F' 0) j := ⟨_, rfl⟩
   rw [<- hk] at u1 u2 u3 ⊢
   by_cases hold : 0 < rd F k
   .obtain ⟨j', p0, p1, pe⟩ := used_of h.lf u1 u2 hold
    have := hline ((D.length : Int) + j') (by omega) (by rw [lines_len]; push_cast; omega)
    rw [lines_hi p0 p1, pe] at this
    exact this
   .have hkl : k ∈ chain (linesL D F) s.la c tg := Classical.byContradiction fun hk => by
     have := (a4 k u1 u2).2.1 hk; omega
    obtain ⟨q, hq, he⟩ := mem_chain c hkl
    have hgj : Goes (linesL D F) s.la (q + 1) tg := goes_le ht.goes (by omega)
    have hnq := ht.node q (by omega)
    have hl := ((goes_add (linesL D F) s.la q 1 _).1 hgj).2.1
    have hp := hB.p _ hnq.1 hnq.2 (hB.la_pos hnq.1 hnq.2 hl)
    rw [<- he] at hp
    have hfx := (hf.edge u1 (by rw [lines_len]; omega) hp.2.2.2.2.1)
    rw [lines_lo u1 u2] at hp hfx
    show (if hasN s (rT39 D k).f0 then rd s.lo (rT39 D k).f0 else π (rT39 D k).f0 + C) - (if hasN s (rT39 D k).f1 then rd s.lo (rT39 D k).f1 else π (rT39 D k).f1 + C) <= -(rT39 D k).f2
    rw [if_pos hp.2.2.2.2.1, if_pos hfx.1]
    have e1 := hp.2.2.2.1
    have e2 := hp.2.2.2.2.2.1
    rw [<- e1] at e2
    have e3 := hfx.2
    omega
 .have := (a4 k k0 k1).2.2
  have := h.up k k0 k1
  omega
end
def sumN (g : Int -> Int) : Nat -> Int
 | 0 => 0
 | n + 1 => sumN g n + g n
theorem sumN_add (g h : Int -> Int) : ∀ n, sumN (fun v => g v + h v) n = sumN g n + sumN h n
 | 0 => rfl
 | n + 1 => by simp only [sumN]; rw [sumN_add g h n]; omega
theorem sumN_congr {g h : Int -> Int} : ∀ n : Nat, (∀ v : Int, 0 <= v -> v < n -> g v = h v) -> sumN g n = sumN h n
 | 0, _ => rfl
 | n + 1, e => by simp only [sumN]; rw [sumN_congr n (fun v h0 h1 => e v h0 (by omega)), e n (by omega) (by omega)]
theorem sumN_zero (n : Nat) : sumN (fun _ => 0) n = 0 := by
 induction n with
 | zero => rfl
 | succ n ih => simp only [sumN]; omega
theorem sumN_le {g h : Int -> Int} : ∀ n : Nat, (∀ v : Int, 0 <= v -> v < n -> g v <= h v) -> sumN g n <= sumN h n
 | 0, _ => Int.le_refl _
 | n + 1, e => by
  simp only [sumN]
  have := sumN_le n (fun v h0 h1 => e v h0 (by omega))
  have := e n (by omega) (by omega)
  omega
theorem sumN_lt {g h : Int -> Int} {u : Int} : ∀ n : Nat, (∀ v : Int, 0 <= v -> v < n -> g v <= h v) -> 0 <= u -> u < n -> g u < h u -> sumN g n < sumN h n
 | 0, _, h0, h1, _ => by omega
 | n + 1, e, h0, h1, hu => by
  simp only [sumN]
  have hn := e n (by omega) (by omega)
  by_cases hun : u = n
  .have := sumN_le n (fun v h0 h1 => e v h0 (by omega))
   rw [hun] at hu
   omega
  .have := sumN_lt n (fun v h0 h1 => e v h0 (by omega)) h0 (by omega) hu
   omega
theorem sumN_one (a f : Int) (y : Int -> Int) : ∀ n : Nat, 0 <= a -> sumN (fun v => (if a = v then f else 0) * y v) n = if a < n then f * y a else 0
 | 0, h0 => by simp only [sumN]; rw [if_neg (by omega)]
 | n + 1, h0 => by
  simp only [sumN]
  rw [sumN_one a f y n h0]
  by_cases e : a = n
  .rw [if_neg (by omega), if_pos e, if_pos (by omega), e]; omega
  .rw [if_neg e]
   by_cases h : a < n
   .rw [if_pos h, if_pos (by omega)]; omega
   .rw [if_neg h, if_neg (by omega)]; omega
def dotF : List S39 -> List Int -> (Int -> Int) -> Int
 | d :: ds, f :: fs, y => f * (y d.f1 - y d.f0) + dotF ds fs y
 | _, _, _ => 0
def costF : List S39 -> List Int -> Int
 | d :: ds, f :: fs => f * d.f2 + costF ds fs
 | _, _ => 0
theorem exch {n : Nat} (y : Int -> Int) : ∀ (D : List S39) (F : List Int), (∀ d ∈ D, EdgeOk n d) -> F.length = D.length -> sumN (fun v => netF D F v * y v) n = dotF D F y
 | [], F, _, hl => by
  cases F with
  | nil => simp only [netF, dotF, Int.zero_mul]; exact sumN_zero n
  | cons f fs => simp at hl
 | d :: ds, [], _, hl => by simp at hl
 | d :: ds, f :: fs, hE, hl => by
  have ih := exch y ds fs (fun e he => hE e (by simp [he])) (by simpa using hl)
  have hd := hE d (by simp)
  have e1 := sumN_one d.f1 f y n hd.c
  have e0 := sumN_one d.f0 (-f) y n hd.a
  rw [if_pos hd.g] at e1
  rw [if_pos hd.b] at e0
  have e2 : sumN (fun v => netF (d :: ds) (f :: fs) v * y v) n = sumN (fun v => ((if d.f1 = v then f else 0) * y v + (if d.f0 = v then -f else 0) * y v) + netF ds fs v * y v) n :=
   sumN_congr n (fun v _ _ => by
    simp only [netF]
    rw [Int.add_mul]
    congr 1
    have e : (if d.f0 = v then -f else 0) = -(if d.f0 = v then f else 0) := by split <;> omega
    rw [e, Int.sub_mul, Int.neg_mul]
    omega)
  rw [e2, sumN_add, sumN_add, e1, e0, ih]
  simp only [dotF]
  rw [Int.mul_sub, Int.neg_mul]
  omega
theorem dot_le {y z : Int -> Int} : ∀ (D : List S39) (F : List Int), F.length = D.length -> (∀ k : Int, 0 <= k -> k < D.length -> rd F k * (y (rT39 D k).f1 - y (rT39 D k).f0) <= rd F k * (z (rT39 D k).f1 - z (rT39 D k).f0)) -> dotF D F y <= dotF D F z
 | [], F, _, _ => by simp [dotF]
 | d :: ds, [], hl, _ => by simp at hl
 | d :: ds, f :: fs, hl, h => by
  have h0 : f * (y d.f1 - y d.f0) <= f * (z d.f1 - z d.f0) := h 0 (by omega) (by simp only [List.length_cons]; omega)
  have := dot_le ds fs (by simpa using hl) (fun k k0 k1 => by
   have := h (k + 1) (by omega) (by simp only [List.length_cons]; omega)
   rw [rd_cons _ _ _ k0] at this
   have e : rT39 (d :: ds) (k + 1) = rT39 ds k := by
    unfold rT39; rw [show (k + 1).toNat = k.toNat + 1 from by omega]; rfl
   rw [e] at this
   exact this)
  simp only [dotF]
  omega
theorem dot_cost {y : Int -> Int} : ∀ (D : List S39) (F : List Int), F.length = D.length -> (∀ k : Int, 0 <= k -> k < D.length -> rd F k * (y (rT39 D k).f1 - y (rT39 D k).f0) <= rd F k * (rT39 D k).f2) -> dotF D F y <= costF D F
 | [], F, _, _ => by simp [dotF, costF]
 | d :: ds, [], hl, _ => by simp at hl
 | d :: ds, f :: fs, hl, h => by
  have h0 : f * (y d.f1 - y d.f0) <= f * d.f2 := h 0 (by omega) (by simp only [List.length_cons]; omega)
  have := dot_cost ds fs (by simpa using hl) (fun k k0 k1 => by
   have := h (k + 1) (by omega) (by simp only [List.length_cons]; omega)
   rw [rd_cons _ _ _ k0] at this
   have e : rT39 (d :: ds) (k + 1) = rT39 ds k := by
    unfold rT39; rw [show (k + 1).toNat = k.toNat + 1 from by omega]; rfl
   rw [e] at this
   exact this)
  simp only [dotF, costF]
  omega
theorem cost_dot {y : Int -> Int} : ∀ (D : List S39) (F : List Int), F.length = D.length -> (∀ k : Int, 0 <= k -> k < D.length -> rd F k * (y (rT39 D k).f1 - y (rT39 D k).f0) = rd F k * (rT39 D k).f2) -> dotF D F y = costF D F
 | [], F, _, _ => by simp [dotF, costF]
 | d :: ds, [], hl, _ => by simp at hl
 | d :: ds, f :: fs, hl, h => by
  have h0 : f * (y d.f1 - y d.f0) = f * d.f2 := h 0 (by omega) (by simp only [List.length_cons]; omega)
  have := cost_dot ds fs (by simpa using hl) (fun k k0 k1 => by
   have := h (k + 1) (by omega) (by simp only [List.length_cons]; omega)
   rw [rd_cons _ _ _ k0] at this
   have e : rT39 (d :: ds) (k + 1) = rT39 ds k := by
    unfold rT39; rw [show (k + 1).toNat = k.toNat + 1 from by omega]; rfl
   rw [e] at this
   exact this)
  simp only [dotF, costF]
  omega
theorem dot_const (D : List S39) (F : List Int) (c : Int) : dotF D F (fun _ => c) = 0 := by
 induction D generalizing F with
 | nil => simp [dotF]
 | cons d ds ih =>
  cases F with
  | nil => simp [dotF]
  | cons f fs => simp only [dotF]; rw [ih, Int.sub_self, Int.mul_zero]; rfl
structure Feas (n : Nat) (D : List S39) (w F : List Int) : Prop where
 lf : F.length = D.length
 pos : ∀ k, 0 <= k -> k < (D.length : Int) -> 0 <= rd F k
 bal : ∀ v, 1 <= v -> v < (n : Int) -> netF D F v = rd w v
def sumW (n : Nat) (w : List Int) (x : Int -> Int) : Int := sumN (fun v => if v = 0 then 0 else rd w v * x v) n
section
variable {n : Nat} {D : List S39} {w F W : List Int}
theorem sum_dot (hE : EdgesOk n D) (hl : F.length = D.length) {x : Int -> Int} (hz : x 0 = 0) : sumN (fun v => if v = 0 then 0 else netF D F v * x v) n = dotF D F x := by
 rw [<- exch x D F (edges_mem hE) hl]
 refine sumN_congr n (fun v _ _ => ?_)
 by_cases e : v = 0
 .rw [if_pos e, e, hz]; omega
 .rw [if_neg e]
theorem Feas.sum (h : Feas n D w F) (hE : EdgesOk n D) {x : Int -> Int} (hz : x 0 = 0) : sumW n w x = dotF D F x := by
 rw [<- sum_dot hE h.lf hz]
 refine sumN_congr n (fun v h0 h1 => ?_)
 by_cases e : v = 0
 .rw [if_pos e, if_pos e]
 .rw [if_neg e, if_neg e, h.bal v (by omega) h1]
theorem weak (h : Feas n D w F) (hE : EdgesOk n D) {x : Int -> Int} (hx : Asg D x) : sumW n w x <= costF D F := by
 rw [h.sum hE hx.z]
 exact dot_cost D F h.lf (fun k k0 k1 => Int.mul_le_mul_of_nonneg_left (hx.p k k0 k1) (h.pos k k0 k1))
theorem lines_pot {x : Int -> Int} (hF : F.length = D.length) (h : Pot (linesL D F) x) : Pot D x /\ ∀ k : Int, 0 <= k -> k < D.length -> 0 < rd F k -> x (rT39 D k).f1 - x (rT39 D k).f0 = (rT39 D k).f2 := by
 have hp : Pot D x := fun i i0 i1 => by
  have := h i i0 (by rw [lines_len]; omega)
  rw [lines_lo i0 i1] at this
  exact this
 refine ⟨hp, fun k k0 k1 hk => ?_⟩
 obtain ⟨j, j0, j1, je⟩ := used_of hF k0 k1 hk
 have := h ((D.length : Int) + j) (by omega) (by rw [lines_len]; push_cast; omega)
 rw [lines_hi j0 j1, je] at this
 have := hp k k0 k1
 simp only [turnD] at *
 omega
theorem strong (h : Feas n D w F) (hE : EdgesOk n D) {x : Int -> Int} (hz : x 0 = 0) (hx : Pot (linesL D F) x) : Asg D x /\ sumW n w x = costF D F := by
 obtain ⟨hp, he⟩ := lines_pot h.lf hx
 refine ⟨⟨hz, hp⟩, ?_⟩
 rw [h.sum hE hz]
 refine cost_dot D F h.lf (fun k k0 k1 => ?_)
 by_cases hk : 0 < rd F k
 .rw [he k k0 k1 hk]
 .have := h.pos k k0 k1
  rw [show rd F k = 0 from by omega]; omega
theorem Pot.shift {L : List S39} {x : Int -> Int} (h : Pot L x) (c : Int) : Pot L (fun v => x v - c) := fun i i0 i1 => by
 have := h i i0 i1
 simp only
 omega
theorem no_feas_in (h : FI n D w F W) (hE : EdgesOk n D) {s : Sg} (hf : Fix (linesL D F) s) {tg : Int} (t0 : 0 < tg) (t1 : tg < n) (hw : 0 < rd W tg) (htg : ¬ hasN s tg) (h0 : hasN s 0) (hg : ∀ v, 1 <= v -> v < (n : Int) -> rd W v < 0 -> hasN s v) (F2 : List Int) (h2 : Feas n D w F2) : False := by
 have hy0 : (fun v => if hasN s v then (0 : Int) else 1) 0 = 0 := if_pos h0
 have hin : ∀ k : Int, 0 <= k -> k < D.length -> hasN s (rT39 D k).f0 -> hasN s (rT39 D k).f1 := fun k k0 k1 hu => by
  have := hf.edge (i := k) k0 (by rw [lines_len]; omega) (by rw [lines_lo k0 k1]; exact hu)
  rw [lines_lo k0 k1] at this
  exact this.1
 have hback : ∀ k : Int, 0 <= k -> k < D.length -> 0 < rd F k -> hasN s (rT39 D k).f1 -> hasN s (rT39 D k).f0 := fun k k0 k1 hk hu => by
  obtain ⟨j, j0, j1, je⟩ := used_of h.lf k0 k1 hk
  have := hf.edge (i := (D.length : Int) + j) (by omega) (by rw [lines_len]; push_cast; omega) (by rw [lines_hi j0 j1, je]; exact hu)
  rw [lines_hi j0 j1, je] at this
  exact this.1
 have e1 : sumW n w (fun v => if hasN s v then (0 : Int) else 1) <= 0 := by
  rw [h2.sum hE (x := fun v => if hasN s v then (0 : Int) else 1) hy0]
  refine Int.le_trans (dot_le (z := fun _ => 0) D F2 h2.lf (fun k k0 k1 => Int.mul_le_mul_of_nonneg_left ?_ (h2.pos k k0 k1))) (Int.le_of_eq (dot_const D F2 0))
  by_cases hu : hasN s (rT39 D k).f0
  .rw [if_pos hu, if_pos (hin k k0 k1 hu)]; omega
  .rw [if_neg hu]; split <;> omega
 have e2 : sumN (fun v => if v = 0 then 0 else netF D F v * (if hasN s v then (0 : Int) else 1)) n = 0 := by
  rw [sum_dot hE h.lf (x := fun v => if hasN s v then (0 : Int) else 1) hy0]
  refine Eq.trans ?_ (dot_const D F 0)
  refine Int.le_antisymm (dot_le D F h.lf (fun k k0 k1 => Int.le_of_eq ?_)) (dot_le D F h.lf (fun k k0 k1 => Int.le_of_eq (Eq.symm ?_)))
  all_goals
   by_cases hk : 0 < rd F k
   .congr 1
    by_cases hu : hasN s (rT39 D k).f0
    .rw [if_pos hu, if_pos (hin k k0 k1 hu)]
    .rw [if_neg hu, if_neg (fun hv => hu (hback k k0 k1 hk hv))]; omega
   .have := h.pos k k0 k1
    rw [show rd F k = 0 from by omega]; omega
 have e3 : sumN (fun v => if v = 0 then 0 else netF D F v * (if hasN s v then (0 : Int) else 1)) n < sumW n w (fun v => if hasN s v then (0 : Int) else 1) := by
  refine sumN_lt (u := tg) n (fun v v0 v1 => ?_) (by omega) t1 ?_
  .show (if v = 0 then 0 else netF D F v * (if hasN s v then (0 : Int) else 1)) <= (if v = 0 then 0 else rd w v * (if hasN s v then (0 : Int) else 1))
   by_cases e : v = 0
   .rw [if_pos e, if_pos e]; omega
   .have := h.bal v (by omega) v1
    rw [if_neg e, if_neg e]
    by_cases hv : hasN s v
    .rw [if_pos hv]; omega
    .have : ¬ rd W v < 0 := fun hn => hv (hg v (by omega) v1 hn)
     rw [if_neg hv]; omega
  .have := h.bal tg (by omega) t1
   show (if tg = 0 then 0 else netF D F tg * (if hasN s tg then (0 : Int) else 1)) < (if tg = 0 then 0 else rd w tg * (if hasN s tg then (0 : Int) else 1))
   rw [if_neg (show ¬ tg = 0 by omega), if_neg (show ¬ tg = 0 by omega), if_neg htg]; omega
 omega
theorem no_feas_out (h : FI n D w F W) (hE : EdgesOk n D) {s : Sg} (hf : Fix (linesL D F) s) {i : Int} (t0 : 0 < i) (t1 : i < n) (hw : rd W i < 0) (hi : hasN s i) (h0 : ¬ hasN s 0) (hg : ∀ v, 1 <= v -> v < (n : Int) -> rd W v <= 0) (F2 : List Int) (h2 : Feas n D w F2) : False := by
 have hy0 : (fun v => if hasN s v then (1 : Int) else 0) 0 = 0 := if_neg h0
 have hin : ∀ k : Int, 0 <= k -> k < D.length -> hasN s (rT39 D k).f0 -> hasN s (rT39 D k).f1 := fun k k0 k1 hu => by
  have := hf.edge (i := k) k0 (by rw [lines_len]; omega) (by rw [lines_lo k0 k1]; exact hu)
  rw [lines_lo k0 k1] at this
  exact this.1
 have hback : ∀ k : Int, 0 <= k -> k < D.length -> 0 < rd F k -> hasN s (rT39 D k).f1 -> hasN s (rT39 D k).f0 := fun k k0 k1 hk hu => by
  obtain ⟨j, j0, j1, je⟩ := used_of h.lf k0 k1 hk
  have := hf.edge (i := (D.length : Int) + j) (by omega) (by rw [lines_len]; push_cast; omega) (by rw [lines_hi j0 j1, je]; exact hu)
  rw [lines_hi j0 j1, je] at this
  exact this.1
 have e1 : 0 <= sumW n w (fun v => if hasN s v then (1 : Int) else 0) := by
  rw [h2.sum hE (x := fun v => if hasN s v then (1 : Int) else 0) hy0]
  refine Int.le_trans (Int.le_of_eq (dot_const D F2 0).symm) (dot_le (y := fun _ => 0) D F2 h2.lf (fun k k0 k1 => Int.mul_le_mul_of_nonneg_left ?_ (h2.pos k k0 k1)))
  by_cases hu : hasN s (rT39 D k).f0
  .rw [if_pos hu, if_pos (hin k k0 k1 hu)]; omega
  .rw [if_neg hu]; split <;> omega
 have e2 : sumN (fun v => if v = 0 then 0 else netF D F v * (if hasN s v then (1 : Int) else 0)) n = 0 := by
  rw [sum_dot hE h.lf (x := fun v => if hasN s v then (1 : Int) else 0) hy0]
  refine Eq.trans ?_ (dot_const D F 0)
  refine Int.le_antisymm (dot_le D F h.lf (fun k k0 k1 => Int.le_of_eq ?_)) (dot_le D F h.lf (fun k k0 k1 => Int.le_of_eq (Eq.symm ?_)))
  all_goals
   by_cases hk : 0 < rd F k
   .congr 1
    by_cases hu : hasN s (rT39 D k).f0
    .rw [if_pos hu, if_pos (hin k k0 k1 hu)]; omega
    .rw [if_neg hu, if_neg (fun hv => hu (hback k k0 k1 hk hv))]
   .have := h.pos k k0 k1
    rw [show rd F k = 0 from by omega]; omega
 have e3 : sumW n w (fun v => if hasN s v then (1 : Int) else 0) < sumN (fun v => if v = 0 then 0 else netF D F v * (if hasN s v then (1 : Int) else 0)) n := by
  refine sumN_lt (u := i) n (fun v v0 v1 => ?_) (by omega) t1 ?_
  .show (if v = 0 then 0 else rd w v * (if hasN s v then (1 : Int) else 0)) <= (if v = 0 then 0 else netF D F v * (if hasN s v then (1 : Int) else 0))
   by_cases e : v = 0
   .rw [if_pos e, if_pos e]; omega
   .have := h.bal v (by omega) v1
    have := hg v (by omega) v1
    rw [if_neg e, if_neg e]
    by_cases hv : hasN s v
    .rw [if_pos hv]; omega
    .rw [if_neg hv]; omega
  .have := h.bal i (by omega) t1
   show (if i = 0 then 0 else rd w i * (if hasN s i then (1 : Int) else 0)) < (if i = 0 then 0 else netF D F i * (if hasN s i then (1 : Int) else 0))
   rw [if_neg (show ¬ i = 0 by omega), if_neg (show ¬ i = 0 by omega), if_pos hi]; omega
 omega
end
theorem giversL_iff : ∀ (l : List Int) (i k : Int), k ∈ giversL l i <-> i <= k /\ k < i + l.length /\ 0 < k /\ rd l (k - i) < 0
 | [], i, k => by simp [giversL]; omega
 | x :: xs, i, k => by
  unfold giversL
  have ih := giversL_iff xs (i + 1) k
  have e0 : rd (x :: xs) 0 = x := rfl
  by_cases hk : k = i
  .subst hk
   rw [show k - k = 0 from by omega, e0]
   by_cases hp : 0 < k /\ x < 0
   .rw [if_pos hp]; simp; omega
   .rw [if_neg hp, ih]; simp only [List.length_cons]; omega
  .have e1 : i + 1 <= k -> rd (x :: xs) (k - i) = rd xs (k - (i + 1)) := fun h => by
    rw [show k - i = (k - (i + 1)) + 1 from by omega]; exact rd_cons _ _ _ (by omega)
   have key : (k ∈ giversL xs (i + 1)) <-> i <= k /\ k < i + (x :: xs).length /\ 0 < k /\ rd (x :: xs) (k - i) < 0 := by
    rw [ih]
    simp only [List.length_cons]
    constructor
    .rintro ⟨a, b, c, d⟩; exact ⟨by omega, by omega, c, by rw [e1 a]; exact d⟩
    .rintro ⟨a, b, c, d⟩
     have a' : i + 1 <= k := by omega
     exact ⟨a', by omega, c, by rw [e1 a'] at d; exact d⟩
   by_cases hp : 0 < i /\ x < 0
   .rw [if_pos hp, List.mem_cons, <- key]; simp [hk]
   .rw [if_neg hp, <- key]
theorem giversL_len : ∀ (l : List Int) (i : Int), (giversL l i).length <= l.length
 | [], _ => by simp [giversL]
 | x :: xs, i => by
  unfold giversL
  have := giversL_len xs (i + 1)
  split <;> simp <;> omega
section
variable {n : Nat} {D : List S39} {w F W : List Int}
theorem step_ev (h : FI n D w F W) (hE : EdgesOk n D) (hD : D.length <= 4096) (hn0 : 0 < n) (hn : n <= 256) {tg : Int} (t0 : 0 <= tg) (t1 : tg < n) {gv : List Int} (hl : gv.length <= 65536) (hgv : ∀ i ∈ gv, 0 <= i /\ i < (n : Int)) (hg : ∀ v ∈ gv, v ≠ tg /\ (v ≠ 0 -> rd W v < 0)) (htg : tg ≠ 0 -> 0 < rd W tg) (h3 : tg ≠ 0 ∨ ∀ v ∈ gv, v ≠ 0) :
  ∃ s, GrowPost n (linesL D F) (fun v => v ∈ gv) s (-1) /\ Fix (linesL D F) s /\ ((¬ hasN s tg /\ Ev (fun k => stepL k n D F W tg gv) (false, F, W)) ∨
   (hasN s tg /\ ∃ F' at_ M, 1 <= M /\ at_ ∈ gv /\ (at_ ≠ 0 -> M <= -(rd W at_)) /\ FI n D w F' (want2 W tg at_ M) /\ phi (want2 W tg at_ M) <= phi W - M /\ (∀ v, 1 <= v -> v < (n : Int) -> rd (want2 W tg at_ M) v = rd W v - M * ind at_ tg v) /\ Ev (fun k => stepL k n D F W tg gv) (true, F', want2 W tg at_ M))) := by
 have hEL := lines_ok hE h.lf
 have hul := usedL_len F 0
 have hlf := h.lf
 have hm : (n : Int) * (linesL D F).length <= 4294967296 := by
  rw [lines_len]
  have := Int.mul_le_mul (a := (n : Int)) (b := ((D.length + (usedL F 0).length : Nat) : Int)) (c := 256) (d := 8192) (by omega) (by omega) (by omega) (by omega)
  omega
 obtain ⟨s, bad, g1, g2, g3⟩ := grow_ev hn0 (by omega) hEL hm (from_ := gv) (by omega) hgv
 obtain ⟨π, hπ⟩ := h.pot
 obtain ⟨e, hf⟩ := g2.good hEL hπ
 subst e
 obtain ⟨b, T, hb, hb2, hB⟩ := g2.bf
 have l2 := hB.l2
 have hlw := h.lw
 refine ⟨s, g2, hf, ?_⟩
 by_cases hh : hasN s tg
 case neg =>
  refine Or.inl ⟨hh, ?_⟩
  unfold stepL
  refine g3.bind (Ev.pos ⟨t0, by simp only; omega, by omega⟩ (Ev.pos ?_ (Ev.now _)))
  unfold hasN at hh
  simpa using hh
 refine Or.inr ⟨hh, ?_⟩
 obtain ⟨c, hc⟩ := g2.tree hEL hf t0 t1 hh
 have hat := hc.node c (Nat.le_refl _)
 have hsrc : it (linesL D F) s.la c tg ∈ gv := hc.src
 have hga := hg _ hsrc
 have hoks := chain_ok hB hEL t0 t1 hc.goes
 obtain ⟨at_, ha⟩ : ∃ a, a = it (linesL D F) s.la c tg := ⟨_, rfl⟩
 have hwt : tg ≠ 0 -> rd W tg <= 1048576 := fun e => (h.wb (by omega) t1).2
 have hwa : at_ ≠ 0 -> -1048576 <= rd W at_ := fun e => (h.wb (v := at_) (by omega) (by omega)).1
 rw [<- ha] at hga hsrc hat
 have hna : at_ ≠ 0 -> wrap64 (-(rd W at_)) = -(rd W at_) := fun e => by
  have := hwa e; have := hga.2 e; exact wrap_id (by omega) (by omega)
 have a6w : 1 <= much2 W tg at_ := by
  unfold much2 much1
  by_cases e : at_ = 0
  .rw [if_pos e]
   by_cases et : tg = 0
   .rw [if_pos et]; omega
   .rw [if_neg et]; exact htg et
  .have := hga.2 e
   rw [if_neg e, hna e]
   by_cases et : tg = 0
   .rw [if_pos et]; omega
   .have := htg et
    rw [if_neg et]; omega
 obtain ⟨M, m1, m2, m3, m4⟩ := much_ok h.lf (by omega) (chain (linesL D F) s.la c tg) (much2 W tg at_) hoks
 have hM1 := m3 a6w
 have hMt : tg ≠ 0 -> M <= rd W tg := fun et => by
  unfold much2 much1 at m2
  by_cases e : at_ = 0
  .rw [if_pos e, if_neg et] at m2; exact m2
  .rw [if_neg e, if_neg et] at m2; omega
 have hMa : at_ ≠ 0 -> M <= -(rd W at_) := fun e => by
  unfold much2 at m2
  rw [if_neg e, hna e] at m2; omega
 have hor : tg ≠ 0 ∨ at_ ≠ 0 := h3.imp_right (fun q => q _ hsrc)
 have hM2 : M <= 1048576 := by
  rcases hor with e | e
  .have := hMt e; have := hwt e; omega
  .have := hMa e; have := hwa e; omega
 subst ha
 obtain ⟨F', a1, a2, a3⟩ := augment h hE (by omega) g2 hf t0 t1 (by omega) hc hga.1 hM1 hM2 hMt hMa hor m4
 have hw := want2_rd h.lw t0 t1 hat.1 hat.2 hga.1 ⟨by omega, hM2⟩ (fun v v0 v1 => h.wb v0 v1)
 refine ⟨F', _, M, hM1, hsrc, hMa, a2, a3, hw.2, ?_⟩
 unfold stepL
 refine g3.bind (Ev.pos ⟨t0, by simp only; omega, by omega⟩ (Ev.neg ?_ ?_))
 .unfold hasN at hh
  simp only [hh]; decide
 .have hp : Ev (fun k => pathL (linesL D F) s.la k tg []) (chain (linesL D F) s.la c tg, it (linesL D F) s.la c tg) :=
   Ev.shift (c + 1) (h := fun _ => some _) (fun f => by
    have := path_chain hB hEL c (v := tg) [] f t0 t1 hc.goes hc.root (by simp; have := hc.few; omega)
    rw [List.nil_append] at this
    exact this) (Ev.now _)
  refine hp.bind (Ev.pos (by simp only; omega) ?_)
  simp only
  rw [m1]
  simp only [Option.bind_some]
  rw [a1]
  exact Ev.now _
theorem fillA_ev (hE : EdgesOk n D) (hD : D.length <= 4096) (hn : n <= 256) : ∀ (m : Nat) (i : Int) (F W : List Int), FI n D w F W -> 1 <= i -> i <= n -> (∀ v, 1 <= v -> v < i -> rd W v <= 0) -> ((n : Int) - i) + phi W <= m ->
  ∃ r : Bool × List Int × List Int, (∃ K, ∀ k q, K <= k -> K <= q -> fillA k n D q i F W = some r) /\ ((r.1 = false /\ ∀ F2, ¬ Feas n D w F2) ∨ (r.1 = true /\ FI n D w r.2.1 r.2.2 /\ ∀ v, 1 <= v -> v < (n : Int) -> rd r.2.2 v <= 0)) := by
 intro m
 induction m with
 | zero =>
  intro i F W h i1 i2 hv hm
  have := phi_nonneg W
  refine ⟨(true, F, W), ⟨1, fun k q _ hq => ?_⟩, Or.inr ⟨rfl, h, fun v v0 v1 => hv v v0 (by omega)⟩⟩
  obtain ⟨q, rfl⟩ : ∃ q', q = q' + 1 := ⟨q - 1, by omega⟩
  rw [fillA, if_neg (by omega)]
 | succ m ih =>
  intro i F W h i1 i2 hv hm
  by_cases hi : i < (n : Int)
  case neg =>
   refine ⟨(true, F, W), ⟨1, fun k q _ hq => ?_⟩, Or.inr ⟨rfl, h, fun v v0 v1 => hv v v0 (by omega)⟩⟩
   obtain ⟨q, rfl⟩ : ∃ q', q = q' + 1 := ⟨q - 1, by omega⟩
   rw [fillA, if_neg hi]
  have hlw := h.lw
  by_cases hw : rd W i > 0
  case neg =>
   obtain ⟨r, ⟨K, hK⟩, hr⟩ := ih (i + 1) F W h (by omega) (by omega) (fun v v0 v1 => by
    by_cases e : v = i
    .rw [e]; omega
    .exact hv v v0 (by omega)) (by omega)
   refine ⟨r, ⟨K + 1, fun k q hk hq => ?_⟩, hr⟩
   obtain ⟨q, rfl⟩ : ∃ q', q = q' + 1 := ⟨q - 1, by omega⟩
   rw [fillA, if_pos hi, if_pos ⟨by omega, by omega⟩, if_neg hw]
   exact hK k q (by omega) (by omega)
  have hmem : ∀ v ∈ (0 : Int) :: giversL W 0, v = 0 ∨ (0 < v /\ v < (n : Int) /\ rd W v < 0) := fun v hv => by
   rcases List.mem_cons.1 hv with e | e
   .exact Or.inl e
   .have := (giversL_iff W 0 v).1 e
    rw [show v - 0 = v from by omega] at this
    exact Or.inr ⟨this.2.2.1, by omega, this.2.2.2⟩
  obtain ⟨s, g2, hf, hs⟩ := step_ev h hE hD (by omega) hn (tg := i) (by omega) hi (gv := 0 :: giversL W 0) (by have := giversL_len W 0; simp; omega) (fun v hv => by rcases hmem v hv with e | e <;> omega) (fun v hv => by
   rcases hmem v hv with e | e
   .exact ⟨by omega, fun q => absurd e q⟩
   .refine ⟨fun q => ?_, fun _ => e.2.2⟩
    rw [q] at e; omega) (fun _ => hw) (Or.inl (by omega))
  rcases hs with ⟨hno, K, hK⟩ | ⟨hyes, F', at_, M, hM, hat, hMa, hFI, hph, hrd, K, hK⟩
  .refine ⟨(false, F, W), ⟨K + 1, fun k q hk hq => ?_⟩, Or.inl ⟨rfl, fun F2 h2 => ?_⟩⟩
   .obtain ⟨q, rfl⟩ : ∃ q', q = q' + 1 := ⟨q - 1, by omega⟩
    rw [fillA, if_pos hi, if_pos ⟨by omega, by omega⟩, if_pos hw, (show stepL k n D F W i (0 :: giversL W 0) = _ from hK k (by omega))]
    rfl
   .have hsrc : ∀ v, v ∈ (0 : Int) :: giversL W 0 -> 0 <= v -> v < (n : Int) -> hasN s v := fun v hv v0 v1 => by
     obtain ⟨b, T, hb, hb2, hB⟩ := g2.bf
     have := (hB.t0 v v0 v1).1
     by_cases e : T v = 0
     .exact (hB.z v v0 v1 e).2.2.2 hv
     .exact (hB.p v v0 v1 (by omega)).2.2.1
    exact no_feas_in h hE hf (by omega) hi hw hno (hsrc 0 (by simp) (by omega) (by omega)) (fun v v0 v1 hn => hsrc v (List.mem_cons_of_mem _ ((giversL_iff W 0 v).2 ⟨by omega, by omega, by omega, by rw [show v - 0 = v from by omega]; exact hn⟩)) (by omega) v1) F2 h2
  .have hind : ∀ v, 1 <= v -> v < (n : Int) -> rd W v <= 0 -> rd (want2 W i at_ M) v <= 0 := fun v v0 v1 hv0 => by
    rw [hrd v v0 v1]
    unfold ind
    have hi' : i ≠ v := fun e => by rw [e] at hw; omega
    rw [if_neg hi']
    by_cases e : at_ = v
    .have := hMa (by omega); rw [e] at this; rw [if_pos e]; omega
    .rw [if_neg e]; omega
   obtain ⟨r, ⟨K', hK'⟩, hr⟩ := ih i F' (want2 W i at_ M) hFI i1 i2 (fun v v0 v1 => hind v v0 (by omega) (hv v v0 v1)) (by omega)
   refine ⟨r, ⟨max K K' + 1, fun k q hk hq => ?_⟩, hr⟩
   obtain ⟨q, rfl⟩ : ∃ q', q = q' + 1 := ⟨q - 1, by omega⟩
   rw [fillA, if_pos hi, if_pos ⟨by omega, by omega⟩, if_pos hw, (show stepL k n D F W i (0 :: giversL W 0) = _ from hK k (by omega)), Option.bind_some, if_neg (by simp)]
   exact hK' k q (by omega) (by omega)
theorem fillB_ev (hE : EdgesOk n D) (hD : D.length <= 4096) (hn : n <= 256) : ∀ (m : Nat) (i : Int) (F W : List Int), FI n D w F W -> 1 <= i -> i <= n -> (∀ v, 1 <= v -> v < i -> rd W v = 0) -> (∀ v, 1 <= v -> v < (n : Int) -> rd W v <= 0) -> ((n : Int) - i) + phi W <= m ->
  ∃ r : Bool × List Int × List Int, (∃ K, ∀ k q, K <= k -> K <= q -> fillB k n D q i F W = some r) /\ ((r.1 = false /\ ∀ F2, ¬ Feas n D w F2) ∨ (r.1 = true /\ FI n D w r.2.1 r.2.2 /\ ∀ v, 1 <= v -> v < (n : Int) -> rd r.2.2 v = 0)) := by
 intro m
 induction m with
 | zero =>
  intro i F W h i1 i2 hv hle hm
  have := phi_nonneg W
  refine ⟨(true, F, W), ⟨1, fun k q _ hq => ?_⟩, Or.inr ⟨rfl, h, fun v v0 v1 => hv v v0 (by omega)⟩⟩
  obtain ⟨q, rfl⟩ : ∃ q', q = q' + 1 := ⟨q - 1, by omega⟩
  rw [fillB, if_neg (by omega)]
 | succ m ih =>
  intro i F W h i1 i2 hv hle hm
  by_cases hi : i < (n : Int)
  case neg =>
   refine ⟨(true, F, W), ⟨1, fun k q _ hq => ?_⟩, Or.inr ⟨rfl, h, fun v v0 v1 => hv v v0 (by omega)⟩⟩
   obtain ⟨q, rfl⟩ : ∃ q', q = q' + 1 := ⟨q - 1, by omega⟩
   rw [fillB, if_neg hi]
  have hlw := h.lw
  have hwi := hle i i1 hi
  by_cases hw : rd W i < 0
  case neg =>
   obtain ⟨r, ⟨K, hK⟩, hr⟩ := ih (i + 1) F W h (by omega) (by omega) (fun v v0 v1 => by
    by_cases e : v = i
    .rw [e]; omega
    .exact hv v v0 (by omega)) hle (by omega)
   refine ⟨r, ⟨K + 1, fun k q hk hq => ?_⟩, hr⟩
   obtain ⟨q, rfl⟩ : ∃ q', q = q' + 1 := ⟨q - 1, by omega⟩
   rw [fillB, if_pos hi, if_pos ⟨by omega, by omega⟩, if_neg hw]
   exact hK k q (by omega) (by omega)
  have hmem : ∀ v ∈ [i], v = i := fun v hv => by simpa using hv
  obtain ⟨s, g2, hf, hs⟩ := step_ev h hE hD (by omega) hn (tg := 0) (by omega) (by omega) (gv := [i]) (by simp) (fun v hv => by rw [hmem v hv]; omega) (fun v hv => by rw [hmem v hv]; exact ⟨by omega, fun _ => hw⟩) (fun q => absurd rfl q) (Or.inr (fun v hv => by rw [hmem v hv]; omega))
  rcases hs with ⟨hno, K, hK⟩ | ⟨hyes, F', at_, M, hM, hat, hMa, hFI, hph, hrd, K, hK⟩
  .refine ⟨(false, F, W), ⟨K + 1, fun k q hk hq => ?_⟩, Or.inl ⟨rfl, fun F2 h2 => ?_⟩⟩
   .obtain ⟨q, rfl⟩ : ∃ q', q = q' + 1 := ⟨q - 1, by omega⟩
    rw [fillB, if_pos hi, if_pos ⟨by omega, by omega⟩, if_pos hw, (show stepL k n D F W 0 [i] = _ from hK k (by omega))]
    rfl
   .have hsrc : hasN s i := by
     obtain ⟨b, T, hb, hb2, hB⟩ := g2.bf
     have := (hB.t0 i (by omega) hi).1
     by_cases e : T i = 0
     .exact (hB.z i (by omega) hi e).2.2.2 (by simp)
     .exact (hB.p i (by omega) hi (by omega)).2.2.1
    exact no_feas_out h hE hf (by omega) hi hw hsrc hno hle F2 h2
  .have ea := hmem _ hat
   subst ea
   have hMi := hMa (by omega)
   have hval : ∀ v, 1 <= v -> v < (n : Int) -> rd (want2 W 0 at_ M) v = if v = at_ then rd W v + M else rd W v := fun v v0 v1 => by
    rw [hrd v v0 v1]
    unfold ind
    rw [if_neg (by omega)]
    by_cases e : at_ = v
    .rw [if_pos e, if_pos e.symm]; omega
    .rw [if_neg e, if_neg (Ne.symm e)]; omega
   obtain ⟨r, ⟨K', hK'⟩, hr⟩ := ih at_ F' (want2 W 0 at_ M) hFI i1 i2 (fun v v0 v1 => by
    rw [hval v v0 (by omega), if_neg (by omega)]; exact hv v v0 v1) (fun v v0 v1 => by
    rw [hval v v0 v1]
    by_cases e : v = at_
    .rw [if_pos e, e]; omega
    .rw [if_neg e]; exact hle v v0 v1) (by omega)
   refine ⟨r, ⟨max K K' + 1, fun k q hk hq => ?_⟩, hr⟩
   obtain ⟨q, rfl⟩ : ∃ q', q = q' + 1 := ⟨q - 1, by omega⟩
   rw [fillB, if_pos hi, if_pos ⟨by omega, by omega⟩, if_pos hw, (show stepL k n D F W 0 [at_] = _ from hK k (by omega)), Option.bind_some, if_neg (by simp)]
   exact hK' k q (by omega) (by omega)
theorem fill_ev (hE : EdgesOk n D) (hD : D.length <= 4096) (hn0 : 0 < n) (hn : n <= 256) {F W : List Int} (h : FI n D w F W) :
  ∃ r : Bool × List Int × List Int, Ev (fun k => fillL k n D F W) r /\ ((r.1 = false /\ ∀ F2, ¬ Feas n D w F2) ∨ (r.1 = true /\ FI n D w r.2.1 r.2.2 /\ Feas n D w r.2.1)) := by
 have hp := phi_nonneg W
 obtain ⟨r, ⟨K, hK⟩, hr⟩ := fillA_ev (w := w) hE hD hn (n + (phi W).toNat) 1 F W h (by omega) (by omega) (fun v v0 v1 => by omega) (by omega)
 rcases hr with ⟨r1, r2⟩ | ⟨r1, r2, r3⟩
 .refine ⟨r, ⟨K, fun k hk => ?_⟩, Or.inl ⟨r1, r2⟩⟩
  simp only [fillL]
  rw [hK k k hk hk, Option.bind_some, if_pos r1]
 .have hp2 := phi_nonneg r.2.2
  obtain ⟨t, ⟨K', hK'⟩, ht⟩ := fillB_ev (w := w) hE hD hn (n + (phi r.2.2).toNat) 1 r.2.1 r.2.2 r2 (by omega) (by omega) (fun v v0 v1 => by omega) r3 (by omega)
  refine ⟨t, ⟨max K K', fun k hk => ?_⟩, ?_⟩
  .simp only [fillL]
   rw [hK k k (by omega) (by omega), Option.bind_some, if_neg (by rw [r1]; simp)]
   exact hK' k k (by omega) (by omega)
  .rcases ht with ⟨t1, t2⟩ | ⟨t1, t2, t3⟩
   .exact Or.inl ⟨t1, t2⟩
   .exact Or.inr ⟨t1, t2, ⟨t2.lf, t2.pos, fun v v0 v1 => by have := t2.bal v v0 v1; have := t3 v v0 v1; omega⟩⟩
end
end Go.Proofs.Ytpolojoeabmhdaa.A
/- best and Most: what they answer. -/
namespace Go.Proofs.Ytpolojoeabmhdaa.A
open Go.RowKit Go.Proofs.YtpolojoeabmhdaaW.PrintWords Go.Proofs.YtpolojoeabmhdaaW.PrintLast Go.Proofs.YtpolojoeabmhdaaW.PrintMore
def weightyB (n : Int) (w : List Int) : Bool := decide ((w.length : Int) = n) && w.all (fun x => in_ x (-4096) 4096)
theorem weighty_some (n : Int) (D : List S39) (w : List Int) : d_weighty.f n D w = some (weightyB n w) := by
 unfold d_weighty.f weightyB cf118.f
 by_cases h : (w.length : Int) = n
 .rw [if_pos h, decide_eq_true h, Option.bind_some, Bool.true_and]
  congr 1
  induction w with
  | nil => rfl
  | cons x xs ih =>
   have : ∀ l : List Int, (!(l.any fun x => !in_ x (-4096) 4096)) = l.all fun x => in_ x (-4096) 4096 := fun l => by
    induction l with
    | nil => rfl
    | cons y ys ih => simp only [List.any_cons, List.all_cons, Bool.not_or, Bool.not_not, ih]
   exact this _
 .rw [if_neg h, decide_eq_false h, Bool.false_and]
structure Weighty (n : Int) (w : List Int) : Prop where
 l : (w.length : Int) = n
 b : ∀ v, 0 <= v -> v < n -> -4096 <= rd w v /\ rd w v <= 4096
theorem weightyB_iff {n : Int} {w : List Int} : weightyB n w = true <-> Weighty n w := by
 unfold weightyB
 simp only [Bool.and_eq_true, decide_eq_true_eq, List.all_eq_true, in_]
 constructor
 .rintro ⟨h, h2⟩
  exact ⟨h, fun v v0 v1 => h2 _ (rd_mem v0 (by omega))⟩
 .rintro ⟨h, h2⟩
  refine ⟨h, fun x hx => ?_⟩
  obtain ⟨i, i0, i1, rfl⟩ := mem_rd hx
  exact h2 i i0 (by omega)
theorem rd_zeros (m : Nat) (i : Int) : rd (List.replicate m 0) i = 0 := by
 unfold rd
 rw [List.getD_eq_getElem?_getD, List.getElem?_replicate]
 split <;> rfl
theorem netF_zeros : ∀ (D : List S39) (m : Nat) (v : Int), netF D (List.replicate m 0) v = 0
 | [], _, _ => rfl
 | _ :: _, 0, _ => rfl
 | d :: ds, m + 1, v => by
  rw [List.replicate_succ, netF, netF_zeros ds m v]
  split <;> split <;> rfl
theorem usedL_zeros : ∀ (m : Nat) (i : Int), usedL (List.replicate m 0) i = []
 | 0, _ => rfl
 | m + 1, i => by
  rw [List.replicate_succ, usedL, if_neg (by omega)]
  exact usedL_zeros m _
theorem lines_zeros (D : List S39) (m : Nat) : linesL D (List.replicate m 0) = D := by
 unfold linesL
 rw [usedL_zeros]
 simp
theorem sabs_le {M : Int} : ∀ l : List Int, (∀ x ∈ l, -M <= x /\ x <= M) -> sabs l <= l.length * M
 | [], _ => by simp [sabs]
 | x :: xs, h => by
  have ih := sabs_le xs (fun y hy => h y (List.mem_cons_of_mem _ hy))
  have := h x (List.mem_cons_self ..)
  rw [sabs, List.length_cons]
  push_cast
  rw [Int.add_mul]
  unfold ab
  split <;> omega
section
variable {n : Nat} {D : List S39} {w F : List Int}
theorem phi_small (hw : Weighty n w) (hn : n <= 256) : phi w <= 1048576 := by
 have := sabs_le (M := 4096) (w.drop 1) (fun x hx => by
  obtain ⟨i, i0, i1, rfl⟩ := mem_rd (List.mem_of_mem_drop hx)
  exact hw.b i i0 (by have := hw.l; omega))
 have hl : (w.drop 1).length <= 256 := by have := hw.l; rw [List.length_drop]; omega
 unfold phi
 omega
theorem fi_start (hw : Weighty n w) (hn : n <= 256) (hs : Solv D) : FI n D w (List.replicate D.length 0) w where
 lf := List.length_replicate ..
 lw := by have := hw.l; omega
 pos := fun k _ _ => by rw [rd_zeros]; omega
 bal := fun v _ _ => by rw [netF_zeros]; omega
 pot := by rw [lines_zeros]; exact hs
 up := fun k _ _ => by rw [rd_zeros]; have := phi_small hw hn; omega
 ph := phi_small hw hn
theorem cost_l0 {N : Int} (D : List S39) (F : List Int) (hE : EdgesOk N D) (hl : F.length = D.length) (hD : D.length <= 4096) (hF : ∀ k, 0 <= k -> k < (D.length : Int) -> 0 <= rd F k /\ rd F k <= 1048576) : ∀ (q : Nat) (i acc : Int) (f : Nat), (q : Int) + i = D.length -> 0 <= i -> -(i * 1125899906842624) <= acc -> acc <= i * 1125899906842624 ->
  d_cost.l0 (f + q + 1) F acc D D.length i = some (acc + costF (D.drop i.toNat) (F.drop i.toNat)) /\ -(D.length * 1125899906842624) <= acc + costF (D.drop i.toNat) (F.drop i.toNat) /\ acc + costF (D.drop i.toNat) (F.drop i.toNat) <= D.length * 1125899906842624
 | 0, i, acc, f, hq, hi, h1, h2 => by
  rw [d_cost.l0, if_neg (by omega), List.drop_eq_nil_of_le (by omega)]
  simp only [costF]
  exact ⟨by rw [Int.add_zero], by omega, by omega⟩
 | q + 1, i, acc, f, hq, hi, h1, h2 => by
  have hlt : i < (D.length : Int) := by omega
  have he := hE i hi hlt
  have e1 := he.e
  have e2 := he.f
  obtain ⟨f0, f1⟩ := hF i hi hlt
  have b1 : rd F i * (rT39 D i).f2 <= 1048576 * 1073741824 := by
   have := Int.mul_le_mul (a := rd F i) (b := (rT39 D i).f2 + 1073741824) (c := 1048576) (d := 2147483648) f1 (by omega) (by omega) (by omega)
   have h3 : rd F i * ((rT39 D i).f2 + 1073741824) = rd F i * (rT39 D i).f2 + rd F i * 1073741824 := Int.mul_add ..
   by_cases hp : 0 <= (rT39 D i).f2
   .exact Int.mul_le_mul f1 e2 hp (by omega)
   .have : rd F i * (rT39 D i).f2 <= 0 := Int.mul_nonpos_of_nonneg_of_nonpos f0 (by omega)
    omega
  have b2 : -(1048576 * 1073741824) <= rd F i * (rT39 D i).f2 := by
   by_cases hp : 0 <= (rT39 D i).f2
   .have := Int.mul_nonneg f0 hp
    omega
   .have := Int.mul_le_mul (a := rd F i) (b := -(rT39 D i).f2) (c := 1048576) (d := 1073741824) f1 (by omega) (by omega) (by omega)
    rw [Int.mul_neg] at this
    omega
  rw [show f + (q + 1) + 1 = (f + q + 1) + 1 from by omega, d_cost.l0, if_pos hlt, if_pos hi, if_pos hlt, if_pos (by omega), wrap_id (x := rd F i * _) (by omega) (by omega), wrap_id (by omega) (by omega), wrap_id (by omega) (by omega)]
  have ih := cost_l0 D F hE hl hD hF q (i + 1) (acc + rd F i * (rT39 D i).f2) f (by omega) (by omega) (by omega) (by omega)
  have d1 : D.drop i.toNat = rT39 D i :: D.drop (i + 1).toNat := by
   rw [show (i + 1).toNat = i.toNat + 1 from by omega, rT39, List.getD_eq_getElem?_getD, List.getElem?_eq_getElem (by omega)]
   exact List.drop_eq_getElem_cons (by omega)
  have d2 : F.drop i.toNat = rd F i :: F.drop (i + 1).toNat := drop_rd F i hi (by omega)
  rw [d1, d2, costF, <- Int.add_assoc]
  exact ih
theorem cost_ev {N : Int} (hE : EdgesOk N D) (hl : F.length = D.length) (hD : D.length <= 4096) (hF : ∀ k, 0 <= k -> k < (D.length : Int) -> 0 <= rd F k /\ rd F k <= 1048576) (m : Int) : Ev (fun k => d_cost.f k m D F) (costF D F) /\ -(D.length * 1125899906842624) <= costF D F /\ costF D F <= D.length * 1125899906842624 := by
 have := fun f => cost_l0 D F hE hl hD hF D.length 0 0 f (by omega) (by omega) (by omega) (by omega)
 simp only [show (0 : Int).toNat = 0 from rfl, List.drop_zero, Int.zero_add] at this
 exact ⟨Ev.shift (D.length + 1) (h := fun _ => some (costF D F)) (fun f => (this f).1) (Ev.now _), (this 0).2⟩
structure BestIs (n : Nat) (D : List S39) (w : List Int) (is : Bool) (F : List Int) (e : Int) : Prop where
 arg : ¬ Weighty n w -> is = false /\ F = [] /\ e = 1
 clash : Weighty n w -> ¬ Solv D -> is = false /\ F = [] /\ e = 41
 ok : Weighty n w -> Solv D -> e = 0
 yes : Weighty n w -> Solv D -> is = true -> Feas n D w F /\ Solv (linesL D F) /\ ∀ k, 0 <= k -> k < (D.length : Int) -> rd F k <= 1048576
 no : Weighty n w -> Solv D -> is = false -> ∀ F2, ¬ Feas n D w F2
theorem best_ev (hV : Valid n D) (w : List Int) : ∃ is F W e, Ev (fun k => d_best.f k n D w) (is, F, W, e) /\ BestIs n D w is F e := by
 have hn0 : 0 < n := by have := hV.n1; omega
 have hn : n <= 256 := by have := hV.n2; omega
 have hD := hV.l
 have hask := fun b : Bool => asked_ev n D [b] (by simp)
 simp only [if_pos (validB_iff.2 hV)] at hask
 obtain ⟨x, s, bad, g1, g2, g3, g4, g5⟩ := solve_ev hn0 (by omega) hV.e (hmul hV)
 unfold d_best.f
 simp only [weighty_some, Option.bind_some]
 by_cases hw : Weighty n w
 case neg =>
  have hwb : weightyB n w = false := Bool.eq_false_iff.2 (fun h => hw (weightyB_iff.1 h))
  rw [hwb]
  exact ⟨false, [], [], 1, (hask false).bind (Ev.neg (by decide) (Ev.now _)), fun _ => ⟨rfl, rfl, rfl⟩, fun h => absurd h hw, fun h => absurd h hw, fun h => absurd h hw, fun h => absurd h hw⟩
 rw [weightyB_iff.2 hw]
 have hA := hask true
 have hbi := g2.bad_iff hV.e (fun v a b => mem_allL.2 ⟨a, b⟩)
 by_cases hs : Solv D
 case neg =>
  have hb : ¬ bad = -1 := fun e => hs (hbi.1 e)
  refine ⟨false, [], [], 41, hA.bind (Ev.pos (by decide) (g3.bind (Ev.pos (by rcases g2.res with ⟨a, _⟩ | ⟨a, _⟩; exact absurd a hb; exact a) (Ev.now _)))), fun h => absurd hw h, fun _ _ => ⟨rfl, rfl, rfl⟩, fun _ h => absurd h hs, fun _ h => absurd h hs, fun _ h => absurd h hs⟩
 have hb := hbi.2 hs
 subst hb
 have hok : bestOk n D w = true := by
  unfold bestOk
  simp only [Bool.and_eq_true, decide_eq_true_eq, List.all_eq_true]
  refine ⟨⟨⟨by omega, by have := hw.l; omega⟩, by omega⟩, fun d hd => ?_⟩
  have := edges_mem hV.e d hd
  exact ⟨by have := this.e; omega, by have := this.f; omega⟩
 obtain ⟨r, hr, hres⟩ := fill_ev hV.e hD hn0 hn (fi_start hw hn hs)
 refine ⟨r.1, r.2.1, r.2.2, 0, hA.bind (Ev.pos (by decide) (g3.bind (Ev.neg (by simp only; omega) (Ev.pos hok (hr.bind (Ev.now _)))))), fun h => absurd hw h, fun _ h => absurd hs h, fun _ _ => rfl, fun _ _ h => ?_, fun _ _ h => ?_⟩
 .rcases hres with ⟨a, _⟩ | ⟨a, b, c⟩
  .rw [a] at h; exact absurd h (by simp)
  .exact ⟨c, b.pot, fun k k0 k1 => by have := b.up k k0 k1; have := phi_nonneg r.2.2; omega⟩
 .rcases hres with ⟨_, b⟩ | ⟨a, _, _⟩
  .exact b
  .rw [a] at h; exact absurd h (by simp)
theorem Solv.zero {L : List S39} (h : Solv L) : ∃ x, x 0 = 0 /\ Pot L x := by
 obtain ⟨x, hx⟩ := h
 exact ⟨fun v => x v - x 0, by simp only; omega, hx.shift _⟩
structure MostVal (n : Nat) (D : List S39) (w : List Int) (a : Int) (b : Bool) : Prop where
 yes : b = true -> ∃ F x, Feas n D w F /\ Asg D x /\ costF D F = a /\ sumW n w x = a
 no : b = false -> a = 0 /\ ∀ F, ¬ Feas n D w F
structure MostIs (n : Nat) (D : List S39) (w : List Int) (a : Int) (b : Bool) (e : Int) : Prop where
 arg : ¬ Weighty n w -> a = 0 /\ b = false /\ e = 1
 clash : Weighty n w -> ¬ Solv D -> a = 0 /\ b = false /\ e = 41
 ok : Weighty n w -> Solv D -> e = 0 /\ MostVal n D w a b
 small : -(D.length * 1125899906842624) <= a /\ a <= D.length * 1125899906842624
theorem MostVal.unique (hE : EdgesOk n D) {a a' : Int} {b b' : Bool} (h : MostVal n D w a b) (h' : MostVal n D w a' b') : a = a' /\ b = b' := by
 cases b with
 | true =>
  obtain ⟨F, x, h1, h2, h3, h4⟩ := h.yes rfl
  cases b' with
  | true =>
   obtain ⟨F', x', h1', h2', h3', h4'⟩ := h'.yes rfl
   have := weak h1 hE h2'
   have := weak h1' hE h2
   exact ⟨by omega, rfl⟩
  | false => exact absurd h1 ((h'.no rfl).2 _)
 | false =>
  cases b' with
  | true =>
   obtain ⟨F', x', h1', h2', h3', h4'⟩ := h'.yes rfl
   exact absurd h1' ((h.no rfl).2 _)
  | false => exact ⟨by rw [(h.no rfl).1, (h'.no rfl).1], rfl⟩
theorem MostIs.unique (hE : EdgesOk n D) {a a' e e' : Int} {b b' : Bool} (h : MostIs n D w a b e) (h' : MostIs n D w a' b' e') : a = a' /\ b = b' /\ e = e' := by
 by_cases hw : Weighty n w
 .by_cases hs : Solv D
  .have h1 := h.ok hw hs
   have h2 := h'.ok hw hs
   have := h1.2.unique hE h2.2
   exact ⟨this.1, this.2, by omega⟩
  .obtain ⟨rfl, rfl, rfl⟩ := h.clash hw hs
   obtain ⟨rfl, rfl, rfl⟩ := h'.clash hw hs
   exact ⟨rfl, rfl, rfl⟩
 .obtain ⟨rfl, rfl, rfl⟩ := h.arg hw
  obtain ⟨rfl, rfl, rfl⟩ := h'.arg hw
  exact ⟨rfl, rfl, rfl⟩
end
end Go.Proofs.Ytpolojoeabmhdaa.A
