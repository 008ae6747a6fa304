import Derived.Test.YtpolojoeabmhdaaMUnitsd
import Derived.Test.YtpolojoeabmhdaaMUnitsf
import Derived.Test.YtpolojoeabmhdaaMUnitsg
import Derived.Test.YtpolojoeabmhdaaMUnitsh
set_option linter.unusedVariables false
set_option linter.unusedSimpArgs false
/- The flow of the differences: steps keep it cheapest; when no step is left it is feasible, or nothing is. -/
namespace Go.Proofs.Ytpolojoeabmhdaa.A
open Go.RowKit Go.Proofs.YtpolojoeabmhdaaW.PrintWords Go.Proofs.YtpolojoeabmhdaaW.PrintLast Go.Proofs.YtpolojoeabmhdaaW.PrintMore
theorem rd_cons (x : Int) (xs : List Int) (i : Int) (h : 0 ≤ i) : rd (x :: xs) (i + 1) = rd xs i := by
  unfold rd
  rw [show (i + 1).toNat = i.toNat + 1 from by omega]
  rfl
theorem rd_mem {l : List Int} {i : Int} (h0 : 0 ≤ i) (h1 : i < l.length) : rd l i ∈ l := by
  unfold rd
  rw [List.getD_eq_getElem?_getD, List.getElem?_eq_getElem (by omega)]; exact List.getElem_mem _
theorem mem_rd {l : List Int} {x : Int} (h : x ∈ l) : ∃ i : Int, 0 ≤ i ∧ i < l.length ∧ rd l i = x := by
  obtain ⟨i, hi, rfl⟩ := List.getElem_of_mem h
  refine ⟨i, by omega, by omega, ?_⟩
  unfold rd
  rw [List.getD_eq_getElem?_getD, Int.toNat_natCast, List.getElem?_eq_getElem hi]; rfl
/-- The indices of what is used. -/
theorem usedL_iff : ∀ (l : List Int) (i k : Int), k ∈ usedL l i ↔ i ≤ k ∧ k < i + l.length ∧ 0 < rd l (k - i)
  | [], i, k => by simp [usedL]; omega
  | x :: xs, i, k => by
    unfold usedL
    have ih := usedL_iff xs (i + 1) k
    have e0 : rd (x :: xs) 0 = x := rfl
    by_cases hk : k = i
    · subst hk
      rw [show k - k = 0 from by omega, e0]
      by_cases hp : x > 0
      · rw [if_pos hp]; simp; omega
      · rw [if_neg hp, ih]; simp only [List.length_cons]; omega
    · have e1 : i + 1 ≤ k → rd (x :: xs) (k - i) = rd xs (k - (i + 1)) := fun h => by
        rw [show k - i = (k - (i + 1)) + 1 from by omega]; exact rd_cons _ _ _ (by omega)
      have key : (k ∈ usedL xs (i + 1)) ↔ i ≤ k ∧ k < i + (x :: xs).length ∧ 0 < rd (x :: xs) (k - i) := by
        rw [ih]
        simp only [List.length_cons]
        constructor
        · rintro ⟨a, b, c⟩; exact ⟨by omega, by omega, by rw [e1 a]; exact c⟩
        · rintro ⟨a, b, c⟩
          have a' : i + 1 ≤ k := by omega
          exact ⟨a', by omega, by rw [e1 a'] at c; exact c⟩
      by_cases hp : x > 0
      · rw [if_pos hp, List.mem_cons, ← key]; simp [hk]
      · rw [if_neg hp, ← key]
theorem usedL_sorted : ∀ (l : List Int) (i : Int), (usedL l i).Pairwise (· < ·)
  | [], _ => by simp [usedL]
  | x :: xs, i => by
    unfold usedL
    have ih := usedL_sorted xs (i + 1)
    by_cases hp : x > 0
    · rw [if_pos hp]
      exact List.pairwise_cons.2 ⟨fun k hk => by have := (usedL_iff xs (i + 1) k).1 hk; omega, ih⟩
    · rw [if_neg hp]; exact ih
theorem usedL_inj {l : List Int} {a b : Int} (ha : 0 ≤ a) (ha1 : a < (usedL l 0).length) (hb : 0 ≤ b) (hb1 : b < (usedL l 0).length) (e : rd (usedL l 0) a = rd (usedL l 0) b) : a = b := by
  have hs := usedL_sorted l 0
  rw [List.pairwise_iff_getElem] at hs
  unfold rd at e
  rw [List.getD_eq_getElem?_getD, List.getD_eq_getElem?_getD, List.getElem?_eq_getElem (show a.toNat < _ by omega), List.getElem?_eq_getElem (show b.toNat < _ by omega)] at e
  simp only [Option.getD_some] at e
  have h1 := fun h => hs a.toNat b.toNat (by omega) (by omega) h
  have h2 := fun h => hs b.toNat a.toNat (by omega) (by omega) h
  rcases Nat.lt_trichotomy a.toNat b.toNat with h | h | h
  · have := h1 h; omega
  · omega
  · have := h2 h; omega
section
variable {D : List S39} {F : List Int}
theorem lines_len : (linesL D F).length = D.length + (usedL F 0).length := by unfold linesL; simp
theorem lines_lo {i : Int} (h0 : 0 ≤ i) (h1 : i < D.length) : rd_T39 (linesL D F) i = rd_T39 D i := by
  unfold linesL rd_T39
  rw [List.getD_eq_getElem?_getD, List.getD_eq_getElem?_getD, List.getElem?_append_left (by omega)]
theorem lines_hi {j : Int} (h0 : 0 ≤ j) (h1 : j < (usedL F 0).length) : rd_T39 (linesL D F) (D.length + j) = turnD (rd_T39 D (rd (usedL F 0) j)) := by
  unfold linesL rd_T39 rd
  rw [List.getD_eq_getElem?_getD, List.getElem?_append_right (by omega), List.getElem?_map]
  rw [show ((D.length : Int) + j).toNat - D.length = j.toNat from by omega, List.getElem?_eq_getElem (show j.toNat < (usedL F 0).length by omega)]
  simp only [Option.map_some, Option.getD_some]
  rw [List.getD_eq_getElem?_getD (l := usedL F 0), List.getElem?_eq_getElem (show j.toNat < (usedL F 0).length by omega)]
  rfl
/-- A line of the used ones: its difference. -/
theorem used_at (hF : F.length = D.length) {j : Int} (h0 : 0 ≤ j) (h1 : j < (usedL F 0).length) : 0 ≤ rd (usedL F 0) j ∧ rd (usedL F 0) j < D.length ∧ 0 < rd F (rd (usedL F 0) j) := by
  have := (usedL_iff F 0 _).1 (rd_mem h0 h1)
  rw [show rd (usedL F 0) j - 0 = rd (usedL F 0) j from by omega] at this
  exact ⟨by omega, by omega, this.2.2⟩
theorem used_of (hF : F.length = D.length) {k : Int} (h0 : 0 ≤ k) (h1 : k < D.length) (h2 : 0 < rd F k) : ∃ j : Int, 0 ≤ j ∧ j < (usedL F 0).length ∧ rd (usedL F 0) j = k :=
  mem_rd ((usedL_iff F 0 k).2 ⟨h0, by omega, by rw [show k - 0 = k from by omega]; exact h2⟩)
theorem lines_ok {n : Int} (hE : EdgesOk n D) (hF : F.length = D.length) : EdgesOk n (linesL D F) := by
  intro i h0 h1
  rw [lines_len] at h1
  by_cases h : i < D.length
  · rw [lines_lo h0 h]; exact hE i h0 h
  · obtain ⟨j, rfl⟩ : ∃ j : Int, i = D.length + j := ⟨i - D.length, by omega⟩
    rw [lines_hi (by omega) (by push_cast at h1; omega)]
    have hu := used_at hF (j := j) (by omega) (by push_cast at h1; omega)
    have hd := hE _ hu.1 hu.2.1
    exact ⟨hd.c, hd.g, hd.a, hd.b, by have := hd.f; simp only [turnD]; omega, by have := hd.e; simp only [turnD]; omega⟩
end
/-- What comes into a node, less what goes out of it. -/
def netF : List S39 → List Int → Int → Int
  | d :: ds, f :: fs, v => ((if d.f1 = v then f else 0) - (if d.f0 = v then f else 0)) + netF ds fs v
  | _, _, _ => 0
def ind (a b x : Int) : Int := (if b = x then 1 else 0) - (if a = x then 1 else 0)
theorem netF_set : ∀ (D : List S39) (F : List Int) (k : Nat) (x v : Int), k < D.length → F.length = D.length →
    netF D (F.set k x) v = netF D F v + (x - rd F k) * ind (rd_T39 D k).f0 (rd_T39 D k).f1 v
  | [], _, k, _, _, h, _ => absurd h (Nat.not_lt_zero _)
  | d :: ds, [], k, x, v, h, hl => by simp at hl
  | d :: ds, f :: fs, 0, x, v, h, hl => by
    show ((if d.f1 = v then x else 0) - (if d.f0 = v then x else 0)) + netF ds fs v = ((if d.f1 = v then f else 0) - (if d.f0 = v then f else 0)) + netF ds fs v + (x - f) * ((if d.f1 = v then 1 else 0) - (if d.f0 = v then 1 else 0))
    by_cases h1 : d.f1 = v <;> by_cases h0 : d.f0 = v <;> simp [h1, h0] <;> omega
  | d :: ds, f :: fs, k + 1, x, v, h, hl => by
    have ih := netF_set ds fs k x v (by simpa using h) (by simpa using hl)
    show ((if d.f1 = v then f else 0) - (if d.f0 = v then f else 0)) + netF ds (fs.set k x) v = ((if d.f1 = v then f else 0) - (if d.f0 = v then f else 0)) + netF ds fs v + (x - rd fs k) * ind (rd_T39 ds k).f0 (rd_T39 ds k).f1 v
    rw [ih]; omega
/-- What a list of lines brings to a node. -/
def dlt (L : List S39) : List Int → Int → Int
  | [], _ => 0
  | i :: is, x => ind (rd_T39 L i).f0 (rd_T39 L i).f1 x + dlt L is x
theorem dlt_chain {n : Int} {L : List S39} {src : Int → Prop} {b k : Int} {s : Sg} {T : Int → Int} (h : Bf n L src b k s T) (hE : EdgesOk n L) : ∀ (c : Nat) {v : Int}, 0 ≤ v → v < n → Goes L s.la c v → ∀ x, dlt L (chain L s.la c v) x = ind (it L s.la c v) v x
  | 0, v, h0, h1, hg, x => by simp [chain, dlt, it, ind]; omega
  | c + 1, v, h0, h1, hg, x => by
    have hn := h.bk_node hE h0 h1 hg.1
    have hp := h.p v h0 h1 (h.la_pos h0 h1 hg.1)
    have ih := dlt_chain h hE c hn.1 hn.2 hg.2 x
    simp only [chain, dlt, it]
    rw [ih, hp.2.2.2.1]
    unfold ind bk
    omega
theorem mem_chain {L : List S39} {la : List Int} : ∀ (c : Nat) {v i : Int}, i ∈ chain L la c v → ∃ j, j < c ∧ i = rd la (it L la j v)
  | 0, v, i, h => by simp [chain] at h
  | c + 1, v, i, h => by
    rcases List.mem_cons.1 h with h | h
    · exact ⟨0, by omega, h⟩
    · obtain ⟨j, a, b⟩ := mem_chain c h
      exact ⟨j + 1, by omega, b⟩
theorem chain_nodup {n : Int} {L : List S39} {src : Int → Prop} {b k : Int} {s : Sg} {T : Int → Int} (h : Bf n L src b k s T) (hE : EdgesOk n L) : ∀ (c : Nat) {v : Int}, 0 ≤ v → v < n → Goes L s.la c v → (∀ i j, i < j → j ≤ c → it L s.la i v ≠ it L s.la j v) → (chain L s.la c v).Nodup
  | 0, v, _, _, _, _ => by simp [chain]
  | c + 1, v, h0, h1, hg, ha => by
    have hn := h.bk_node hE h0 h1 hg.1
    have hp := h.p v h0 h1 (h.la_pos h0 h1 hg.1)
    refine List.nodup_cons.2 ⟨fun hm => ?_, chain_nodup h hE c hn.1 hn.2 hg.2 (fun i j hi hj => ha (i + 1) (j + 1) (by omega) (by omega))⟩
    obtain ⟨j, hj, e⟩ := mem_chain c hm
    have hgj : Goes L s.la (j + 1) (bk L s.la v) := goes_le hg.2 (by omega)
    have hnj := h.it_node hE j hn.1 hn.2 (goes_le hgj (by omega))
    have hl : 0 ≤ rd s.la (it L s.la j (bk L s.la v)) := ((goes_add L s.la j 1 _).1 hgj).2.1
    have hpj := h.p _ hnj.1 hnj.2 (h.la_pos hnj.1 hnj.2 hl)
    refine ha 0 (j + 1) (by omega) (by omega) ?_
    show v = it L s.la j (bk L s.la v)
    have e3 := hpj.2.2.2.1
    rw [← e] at e3
    exact hp.2.2.2.1.symm.trans e3
theorem chain_ok {n : Int} {L : List S39} {src : Int → Prop} {b k : Int} {s : Sg} {T : Int → Int} (h : Bf n L src b k s T) (hE : EdgesOk n L) {c : Nat} {v : Int} (h0 : 0 ≤ v) (h1 : v < n) (hg : Goes L s.la c v) : ∀ i ∈ chain L s.la c v, 0 ≤ i ∧ i < L.length := by
  intro i hi
  obtain ⟨j, hj, rfl⟩ := mem_chain c hi
  have hgj : Goes L s.la (j + 1) v := goes_le hg (by omega)
  have hn := h.it_node hE j h0 h1 (goes_le hgj (by omega))
  have hl := ((goes_add L s.la j 1 _).1 hgj).2.1
  have hp := h.p _ hn.1 hn.2 (h.la_pos hn.1 hn.2 hl)
  exact ⟨hp.1, hp.2.1⟩
theorem chain_len (L : List S39) (la : List Int) : ∀ c v, (chain L la c v).length = c
  | 0, _ => rfl
  | c + 1, v => by simp [chain, chain_len L la c]
theorem path_chain {n : Int} {L : List S39} {src : Int → Prop} {b k : Int} {s : Sg} {T : Int → Int} (h : Bf n L src b k s T) (hE : EdgesOk n L) : ∀ (c : Nat) {v : Int} (acc : List Int) (f : Nat), 0 ≤ v → v < n → Goes L s.la c v → rd s.la (it L s.la c v) = -1 → acc.length + c < 65536 →
    pathL L s.la (f + c + 1) v acc = some (acc ++ chain L s.la c v, it L s.la c v)
  | 0, v, acc, f, h0, h1, hg, hr, hl => by
    have l3 := h.l3
    have hr' : rd s.la v = -1 := hr
    rw [pathL, if_pos ⟨h0, by omega⟩, if_neg (by omega)]
    simp [chain, it]
  | c + 1, v, acc, f, h0, h1, hg, hr, hl => by
    have l3 := h.l3
    have hn := h.bk_node hE h0 h1 hg.1
    have hp := h.p v h0 h1 (h.la_pos h0 h1 hg.1)
    rw [show f + (c + 1) + 1 = (f + c + 1) + 1 from by omega, pathL, if_pos ⟨h0, by omega⟩, if_pos hg.1, if_pos ⟨hp.2.1, by omega⟩]
    have := path_chain h hE c (acc ++ [rd s.la v]) f hn.1 hn.2 hg.2 hr (by simp; omega)
    rw [List.append_assoc] at this
    exact this
section
variable {n : Int} {D : List S39} {F0 : List Int}
theorem much_ok (hF : F0.length = D.length) (hD : D.length ≤ 65536) : ∀ (l : List Int) (mm : Int), (∀ i ∈ l, 0 ≤ i ∧ i < (linesL D F0).length) →
    ∃ M, muchL D.length F0 (usedL F0 0) l mm = some M ∧ M ≤ mm ∧ (1 ≤ mm → 1 ≤ M) ∧ ∀ j : Int, 0 ≤ j → (D.length : Int) + j ∈ l → M ≤ rd F0 (rd (usedL F0 0) j)
  | [], mm, _ => ⟨mm, rfl, by omega, fun h => h, fun j _ h => by simp at h⟩
  | i :: is, mm, hl => by
    have hi := hl i (by simp)
    have hul := usedL_len F0 0
    rw [lines_len] at hi
    unfold muchL
    by_cases hr : i ≥ (D.length : Int)
    · have hw : wrap64 (i - D.length) = i - D.length := wrap_id (by omega) (by omega)
      have hu := used_at hF (j := i - D.length) (by omega) (by omega)
      obtain ⟨M, a, b, c, d⟩ := much_ok hF hD is (min mm (rd F0 (rd (usedL F0 0) (i - D.length)))) (fun x hx => hl x (by simp [hx]))
      rw [if_pos hr, hw, if_pos ⟨⟨by omega, by omega⟩, hu.1, by omega⟩]
      refine ⟨M, a, by omega, fun h => c (by omega), fun j hj hm => ?_⟩
      rcases List.mem_cons.1 hm with e | hm
      · rw [show j = i - D.length from by omega]; omega
      · exact d j hj hm
    · obtain ⟨M, a, b, c, d⟩ := much_ok hF hD is mm (fun x hx => hl x (by simp [hx]))
      rw [if_neg hr]
      refine ⟨M, a, b, c, fun j hj hm => ?_⟩
      rcases List.mem_cons.1 hm with e | hm
      · omega
      · exact d j hj hm
theorem apply_ok (hF : F0.length = D.length) (hD : D.length ≤ 65536) {much : Int} (hm0 : 0 ≤ much) (hm1 : much ≤ 1048576) : ∀ (l : List Int) (F : List Int) (X : Int), F.length = D.length → (∀ i ∈ l, 0 ≤ i ∧ i < (linesL D F0).length) → l.Nodup → (∀ k, 0 ≤ k → k < (D.length : Int) → -X ≤ rd F k ∧ rd F k ≤ X) → 0 ≤ X → X + (l.length : Int) * 1048576 ≤ 4611686018427387904 →
    ∃ F', applyL D.length (usedL F0 0) much l F = some F' ∧ F'.length = D.length ∧ (∀ v, netF D F' v = netF D F v + much * dlt (linesL D F0) l v) ∧
      ∀ k : Int, 0 ≤ k → k < D.length → (rd F' k ≥ rd F k ∨ ((∃ j : Int, 0 ≤ j ∧ j < (usedL F0 0).length ∧ (D.length : Int) + j ∈ l ∧ rd (usedL F0 0) j = k) ∧ rd F' k ≥ rd F k - much)) ∧ (k ∉ l → rd F' k ≤ rd F k) ∧ rd F' k ≤ rd F k + much
  | [], F, X, hl, hi, hn, hb, hX, hX2 => ⟨F, rfl, hl, fun v => by simp [dlt], fun k h0 h1 => ⟨Or.inl (by omega), fun _ => by omega, by omega⟩⟩
  | i :: is, F, X, hl, hi, hn, hb, hX, hX2 => by
    have hi0 := hi i (by simp)
    have hul := usedL_len F0 0
    obtain ⟨hni, hns⟩ := List.nodup_cons.1 hn
    have hX3 : X + 1048576 + (is.length : Int) * 1048576 ≤ 4611686018427387904 := by
      simp only [List.length_cons] at hX2
      rw [Int.natCast_add, Int.add_mul] at hX2
      omega
    rw [lines_len] at hi0
    unfold applyL
    by_cases hr : i ≥ (D.length : Int)
    · have hw : wrap64 (i - D.length) = i - D.length := wrap_id (by omega) (by omega)
      obtain ⟨u1, u2, u3⟩ := used_at hF (j := i - D.length) (by omega) (by omega)
      have hbk := hb _ u1 u2
      rw [if_pos hr, hw, if_pos ⟨⟨by omega, by omega⟩, u1, by omega⟩, wrap_id (x := rd F (rd (usedL F0 0) (i - D.length)) - much) (by omega) (by omega)]
      obtain ⟨k0, hk0⟩ : ∃ k0, k0 = rd (usedL F0 0) (i - D.length) := ⟨_, rfl⟩
      rw [← hk0] at u1 u2 u3 hbk ⊢
      have hset : ∀ k, 0 ≤ k → rd (F.set k0.toNat (rd F k0 - much)) k = if k = k0 then rd F k0 - much else rd F k := fun k hk => rd_set _ _ _ _ u1 (by omega) hk
      obtain ⟨F', a, b, c, d⟩ := apply_ok hF hD hm0 hm1 is (F.set k0.toNat (rd F k0 - much)) (X + 1048576) (by simpa using hl) (fun x hx => hi x (by simp [hx])) hns (fun k h0 h1 => by
        rw [hset k h0]; have := hb k h0 h1; split <;> omega) (by omega) hX3
      refine ⟨F', a, b, fun v => ?_, fun k h0 h1 => ?_⟩
      · rw [c v]
        have e1 := netF_set D F k0.toNat (rd F k0 - much) v (by omega) hl
        have e2 : ((k0.toNat : Nat) : Int) = k0 := by omega
        rw [e2] at e1
        rw [e1]
        have e3 : rd_T39 (linesL D F0) i = turnD (rd_T39 D k0) := by
          have := lines_hi (D := D) (F := F0) (j := i - D.length) (by omega) (by omega)
          rw [show (D.length : Int) + (i - D.length) = i from by omega, ← hk0] at this
          exact this
        simp only [dlt]
        rw [e3, Int.mul_add]
        have e4 : (rd F k0 - much - rd F k0) * ind (rd_T39 D k0).f0 (rd_T39 D k0).f1 v = much * ind (turnD (rd_T39 D k0)).f0 (turnD (rd_T39 D k0)).f1 v := by
          rw [show rd F k0 - much - rd F k0 = -much from by omega, Int.neg_mul, ← Int.mul_neg]
          congr 1
          simp only [ind, turnD]
          omega
        omega
      · obtain ⟨d1, d2, d3⟩ := d k h0 h1
        rw [hset k h0] at d1 d2 d3
        by_cases e : k = k0
        · rw [if_pos e] at d1 d2 d3
          subst e
          refine ⟨?_, fun hk => ?_, by omega⟩
          · rcases d1 with d1 | ⟨⟨j, j0, j1, jm, je⟩, d1⟩
            · exact Or.inr ⟨⟨i - D.length, by omega, by omega, by rw [show (D.length : Int) + (i - D.length) = i from by omega]; simp, hk0.symm⟩, by omega⟩
            · have := usedL_inj j0 j1 (by omega) (by omega) (je.trans hk0)
              exact absurd (by rw [show i = (D.length : Int) + j from by omega]; exact jm) hni
          · have := d2 (fun h => hk (by simp [h])); omega
        · rw [if_neg e] at d1 d2 d3
          refine ⟨?_, fun hk => d2 (fun h => hk (by simp [h])), d3⟩
          rcases d1 with d1 | ⟨⟨j, j0, j1, jm, je⟩, d1⟩
          · exact Or.inl d1
          · exact Or.inr ⟨⟨j, j0, j1, by simp [jm], je⟩, d1⟩
    · have hlt : i < (D.length : Int) := by omega
      have hbk := hb _ hi0.1 hlt
      rw [if_neg hr, if_pos ⟨hi0.1, by omega⟩, wrap_id (x := rd F i + much) (by omega) (by omega)]
      have hset : ∀ k, 0 ≤ k → rd (F.set i.toNat (rd F i + much)) k = if k = i then rd F i + much else rd F k := fun k hk => rd_set _ _ _ _ hi0.1 (by omega) hk
      obtain ⟨F', a, b, c, d⟩ := apply_ok hF hD hm0 hm1 is (F.set i.toNat (rd F i + much)) (X + 1048576) (by simpa using hl) (fun x hx => hi x (by simp [hx])) hns (fun k h0 h1 => by
        rw [hset k h0]; have := hb k h0 h1; split <;> omega) (by omega) hX3
      refine ⟨F', a, b, fun v => ?_, fun k h0 h1 => ?_⟩
      · rw [c v]
        have e1 := netF_set D F i.toNat (rd F i + much) v (by omega) hl
        have e2 : ((i.toNat : Nat) : Int) = i := by omega
        rw [e2] at e1
        rw [e1]
        simp only [dlt]
        rw [lines_lo hi0.1 hlt, Int.mul_add, show rd F i + much - rd F i = much from by omega]
        omega
      · obtain ⟨d1, d2, d3⟩ := d k h0 h1
        rw [hset k h0] at d1 d2 d3
        by_cases e : k = i
        · rw [if_pos e] at d1 d2 d3
          subst e
          refine ⟨?_, fun hk => absurd (by simp) hk, by have := d2 hni; omega⟩
          rcases d1 with d1 | ⟨⟨j, j0, j1, jm, je⟩, d1⟩
          · exact Or.inl (by omega)
          · exact Or.inl (by omega)
        · rw [if_neg e] at d1 d2 d3
          refine ⟨?_, fun hk => d2 (fun h => hk (by simp [h])), d3⟩
          rcases d1 with d1 | ⟨⟨j, j0, j1, jm, je⟩, d1⟩
          · exact Or.inl d1
          · exact Or.inr ⟨⟨j, j0, j1, by simp [jm], je⟩, d1⟩
end
def ab (x : Int) : Int := if x < 0 then -x else x
def sabs : List Int → Int
  | [] => 0
  | x :: xs => ab x + sabs xs
theorem ab_nonneg (x : Int) : 0 ≤ ab x := by unfold ab; split <;> omega
theorem sabs_nonneg : ∀ l, 0 ≤ sabs l
  | [] => Int.le_refl _
  | x :: xs => by have := sabs_nonneg xs; have := ab_nonneg x; simp only [sabs]; omega
theorem sabs_set : ∀ (l : List Int) (k : Nat) (x : Int), k < l.length → sabs (l.set k x) = sabs l - ab (rd l k) + ab x ∧ ab (rd l k) ≤ sabs l
  | [], k, x, h => absurd h (Nat.not_lt_zero _)
  | y :: ys, 0, x, h => by
    have := sabs_nonneg ys
    show ab x + sabs ys = ab y + sabs ys - ab y + ab x ∧ ab y ≤ ab y + sabs ys
    omega
  | y :: ys, k + 1, x, h => by
    have ih := sabs_set ys k x (by simpa using h)
    have := ab_nonneg y
    show ab y + sabs (ys.set k x) = ab y + sabs ys - ab (rd ys k) + ab x ∧ ab (rd ys k) ≤ ab y + sabs ys
    omega
/-- How much is still wanted, or there too much, at all nodes but 0. -/
def phi (W : List Int) : Int := sabs (W.drop 1)
theorem phi_nonneg (W : List Int) : 0 ≤ phi W := sabs_nonneg _
theorem phi_set {W : List Int} {v x : Int} (h0 : 1 ≤ v) (h1 : v < W.length) : phi (W.set v.toNat x) = phi W - ab (rd W v) + ab x ∧ ab (rd W v) ≤ phi W := by
  obtain ⟨k, hk⟩ : ∃ k : Nat, v.toNat = k + 1 := ⟨v.toNat - 1, by omega⟩
  cases W with
  | nil => simp at h1; omega
  | cons y ys =>
    simp only [List.length_cons] at h1
    have := sabs_set ys k x (by omega)
    have e : rd (y :: ys) v = rd ys k := by
      rw [show v = (k : Int) + 1 from by omega]; exact rd_cons _ _ _ (by omega)
    rw [e, hk]
    exact this
theorem want2_rd {n : Nat} {W : List Int} (hl : W.length = n) {tg at_ M : Int} (t0 : 0 ≤ tg) (t1 : tg < n) (a0 : 0 ≤ at_) (a1 : at_ < n) (hne : at_ ≠ tg) (hM : 0 ≤ M ∧ M ≤ 1048576) (hb : ∀ v, 0 < v → v < (n : Int) → -1048576 ≤ rd W v ∧ rd W v ≤ 1048576) :
    (want2 W tg at_ M).length = n ∧ ∀ v, 1 ≤ v → v < (n : Int) → rd (want2 W tg at_ M) v = rd W v - M * ind at_ tg v := by
  have l1 : (want1 W tg M).length = n := by unfold want1; split; exact hl; rw [List.length_set]; exact hl
  have r1 : ∀ v, 1 ≤ v → v < (n : Int) → rd (want1 W tg M) v = if v = tg then rd W v - M else rd W v := fun v h0 h1 => by
    unfold want1
    by_cases e : tg = 0
    · rw [if_pos e, if_neg (by omega)]
    · have := hb tg (by omega) t1
      rw [if_neg e, rd_set _ _ _ _ t0 (by omega) (by omega), wrap_id (by omega) (by omega)]
      by_cases ev : v = tg
      · rw [if_pos ev, if_pos ev, ev]
      · rw [if_neg ev, if_neg ev]
  refine ⟨by unfold want2; split; exact l1; rw [List.length_set]; exact l1, fun v h0 h1 => ?_⟩
  have hi : M * ind at_ tg v = if v = tg then M else if v = at_ then -M else 0 := by
    unfold ind
    by_cases e : v = tg
    · rw [if_pos e, if_pos e.symm, if_neg (by omega)]; omega
    · rw [if_neg e, if_neg (Ne.symm e)]
      by_cases e2 : v = at_
      · rw [if_pos e2, if_pos e2.symm]; omega
      · rw [if_neg e2, if_neg (Ne.symm e2)]; omega
  rw [hi]
  unfold want2
  by_cases ea : at_ = 0
  · rw [if_pos ea, r1 v h0 h1]
    by_cases e : v = tg
    · rw [if_pos e, if_pos e]
    · rw [if_neg e, if_neg e, if_neg (by omega)]; omega
  · have hba := hb at_ (by omega) a1
    rw [if_neg ea, rd_set _ _ _ _ a0 (by omega) (by omega), r1 at_ (by omega) a1, if_neg hne, wrap_id (by omega) (by omega)]
    by_cases e2 : v = at_
    · rw [if_pos e2, if_neg (by omega), if_pos e2, e2]; omega
    · rw [if_neg e2, r1 v h0 h1]
      by_cases e : v = tg
      · rw [if_pos e, if_pos e]
      · rw [if_neg e, if_neg e, if_neg e2]; omega
theorem want2_phi {n : Nat} {W : List Int} (hl : W.length = n) {tg at_ M : Int} (t0 : 0 ≤ tg) (t1 : tg < n) (a0 : 0 ≤ at_) (a1 : at_ < n) (hne : at_ ≠ tg) (hM : 0 ≤ M ∧ M ≤ 1048576) (hp : phi W ≤ 1048576) (h1 : tg ≠ 0 → M ≤ rd W tg) (h2 : at_ ≠ 0 → M ≤ -(rd W at_)) (h3 : tg ≠ 0 ∨ at_ ≠ 0) :
    phi (want2 W tg at_ M) ≤ phi W - M := by
  have ft : tg ≠ 0 → ab (rd W tg) ≤ phi W := fun h => (phi_set (x := 0) (by omega) (by omega)).2
  have fa : at_ ≠ 0 → ab (rd W at_) ≤ phi W := fun h => (phi_set (x := 0) (by omega) (by omega)).2
  have p1 : (want1 W tg M).length = n ∧ phi (want1 W tg M) = (if tg = 0 then phi W else phi W - M) ∧ (at_ ≠ 0 → rd (want1 W tg M) at_ = rd W at_) := by
    unfold want1
    by_cases e : tg = 0
    · rw [if_pos e, if_pos e]; exact ⟨hl, rfl, fun _ => rfl⟩
    · have ht := h1 e
      have hf := ft e
      unfold ab at hf
      rw [if_neg e, if_neg e, wrap_id (by split at hf <;> omega) (by split at hf <;> omega)]
      have := (phi_set (W := W) (v := tg) (x := rd W tg - M) (by omega) (by omega)).1
      refine ⟨by rw [List.length_set]; exact hl, ?_, fun _ => by rw [rd_set _ _ _ _ t0 (by omega) a0, if_neg hne]⟩
      rw [this]
      unfold ab
      rw [if_neg (by omega), if_neg (by omega)]; omega
  obtain ⟨l1, p1, r1⟩ := p1
  unfold want2
  by_cases ea : at_ = 0
  · rw [if_pos ea, p1, if_neg (h3.resolve_right (fun h => h ea))]
    omega
  · have ha := h2 ea
    have hf := fa ea
    unfold ab at hf
    rw [if_neg ea, r1 ea, wrap_id (by split at hf <;> omega) (by split at hf <;> omega)]
    have := (phi_set (W := want1 W tg M) (v := at_) (x := rd W at_ + M) (by omega) (by omega)).1
    rw [this, p1, r1 ea]
    unfold ab
    split <;> split <;> split <;> omega
theorem bound_all (g : Int → Int) : ∀ N : Nat, ∃ M, ∀ i : Int, 0 ≤ i → i < N → g i ≤ M
  | 0 => ⟨0, fun i h0 h1 => by omega⟩
  | N + 1 => by
    obtain ⟨M, hM⟩ := bound_all g N
    refine ⟨max M (g N), fun i h0 h1 => ?_⟩
    by_cases e : i = N
    · rw [e]; omega
    · have := hM i h0 (by omega); omega
instance hasNDec (s : Sg) (v : Int) : Decidable (hasN s v) := inferInstanceAs (Decidable (rdOf false s.ha v = true))
/-- What holds between two steps. -/
structure FI (n : Nat) (D : List S39) (w F W : List Int) : Prop where
  lf : F.length = D.length
  lw : W.length = n
  pos : ∀ k, 0 ≤ k → k < (D.length : Int) → 0 ≤ rd F k
  bal : ∀ v, 1 ≤ v → v < (n : Int) → netF D F v + rd W v = rd w v
  pot : Solv (linesL D F)
  up : ∀ k, 0 ≤ k → k < (D.length : Int) → rd F k + phi W ≤ 1048576
  ph : phi W ≤ 1048576
section
variable {n : Nat} {D : List S39} {w F W : List Int}
theorem FI.wb (h : FI n D w F W) {v : Int} (h0 : 0 < v) (h1 : v < n) : -1048576 ≤ rd W v ∧ rd W v ≤ 1048576 := by
  have := (phi_set (W := W) (v := v) (x := 0) (by omega) (by have := h.lw; omega)).2
  have := h.ph
  unfold ab at *
  split at * <;> omega
theorem augment (h : FI n D w F W) (hE : EdgesOk n D) (hD : D.length ≤ 65536) {src : Int → Prop} {s : Sg} (hs : GrowPost n (linesL D F) src s (-1)) (hf : Fix (linesL D F) s) {tg : Int} {c : Nat} (t0 : 0 ≤ tg) (t1 : tg < n) (hn : n ≤ 65536)
    (ht : Tree n (linesL D F) src s tg c) (hne : it (linesL D F) s.la c tg ≠ tg) {M : Int} (hM0 : 1 ≤ M) (hM1 : M ≤ 1048576) (h1 : tg ≠ 0 → M ≤ rd W tg) (h2 : it (linesL D F) s.la c tg ≠ 0 → M ≤ -(rd W (it (linesL D F) s.la c tg))) (h3 : tg ≠ 0 ∨ it (linesL D F) s.la c tg ≠ 0)
    (hr : ∀ j : Int, 0 ≤ j → (D.length : Int) + j ∈ chain (linesL D F) s.la c tg → M ≤ rd F (rd (usedL F 0) j)) :
    ∃ F', applyL D.length (usedL F 0) M (chain (linesL D F) s.la c tg) F = some F' ∧ FI n D w F' (want2 W tg (it (linesL D F) s.la c tg) M) ∧ phi (want2 W tg (it (linesL D F) s.la c tg) M) ≤ phi W - M := by
  obtain ⟨b, T, hb, hb2, hB⟩ := hs.bf
  have hEL := lines_ok hE h.lf
  have hat := ht.node c (Nat.le_refl _)
  have hph := h.ph
  obtain ⟨F', a1, a2, a3, a4⟩ := apply_ok h.lf hD (by omega) hM1 (chain (linesL D F) s.la c tg) F 1048576 h.lf (chain_ok hB hEL t0 t1 ht.goes) (chain_nodup hB hEL c t0 t1 ht.goes ht.apart) (fun k k0 k1 => by
    have := h.pos k k0 k1; have := h.up k k0 k1; have := phi_nonneg W; omega) (by omega) (by rw [chain_len]; have := ht.few; omega)
  have hw := want2_rd h.lw t0 t1 hat.1 hat.2 hne ⟨by omega, hM1⟩ (fun v v0 v1 => h.wb v0 v1)
  have hp := want2_phi h.lw t0 t1 hat.1 hat.2 hne ⟨by omega, hM1⟩ hph h1 h2 h3
  refine ⟨F', a1, ⟨a2, hw.1, fun k k0 k1 => ?_, fun v v0 v1 => ?_, ?_, fun k k0 k1 => ?_, by omega⟩, hp⟩
  · have := h.pos k k0 k1
    rcases (a4 k k0 k1).1 with q | ⟨⟨j, j0, j1, jm, je⟩, q⟩
    · omega
    · have := hr j j0 jm; rw [je] at this; omega
  · rw [a3 v, hw.2 v v0 v1, dlt_chain hB hEL c t0 t1 ht.goes v]
    have := h.bal v v0 v1
    omega
  · obtain ⟨π, hπ⟩ := h.pot
    obtain ⟨C, hC⟩ := bound_all (fun i => rd s.lo (rd_T39 (linesL D F) i).f1 - π (rd_T39 (linesL D F) i).f0 - (rd_T39 (linesL D F) i).f2) (linesL D F).length
    have hline : ∀ i : Int, 0 ≤ i → i < (linesL D F).length → (if hasN s (rd_T39 (linesL D F) i).f1 then rd s.lo (rd_T39 (linesL D F) i).f1 else π (rd_T39 (linesL D F) i).f1 + C) - (if hasN s (rd_T39 (linesL D F) i).f0 then rd s.lo (rd_T39 (linesL D F) i).f0 else π (rd_T39 (linesL D F) i).f0 + C) ≤ (rd_T39 (linesL D F) i).f2 := fun i i0 i1 => by
      have hp := hπ i i0 i1
      have hc := hC i i0 i1
      by_cases hu : hasN s (rd_T39 (linesL D F) i).f0
      · have := hf.edge i0 i1 hu
        rw [if_pos hu, if_pos this.1]; omega
      · rw [if_neg hu]
        by_cases hv : hasN s (rd_T39 (linesL D F) i).f1
        · rw [if_pos hv]; omega
        · rw [if_neg hv]; omega
    refine ⟨fun v => if hasN s v then rd s.lo v else π v + C, fun i i0 i1 => ?_⟩
    by_cases hi : i < (D.length : Int)
    · rw [lines_lo i0 hi]
      have := hline i i0 (by rw [lines_len]; omega)
      rw [lines_lo i0 hi] at this
      exact this
    · rw [lines_len] at i1
      obtain ⟨j, rfl⟩ : ∃ j : Int, i = D.length + j := ⟨i - D.length, by omega⟩
      rw [lines_hi (by omega) (by push_cast at i1; omega)]
      obtain ⟨u1, u2, u3⟩ := used_at a2 (j := j) (by omega) (by push_cast at i1; omega)
      obtain ⟨k, hk⟩ : ∃ k, k = rd (usedL F' 0) j := ⟨_, rfl⟩
      rw [← hk] at u1 u2 u3 ⊢
      by_cases hold : 0 < rd F k
      · obtain ⟨j', p0, p1, pe⟩ := used_of h.lf u1 u2 hold
        have := hline ((D.length : Int) + j') (by omega) (by rw [lines_len]; push_cast; omega)
        rw [lines_hi p0 p1, pe] at this
        exact this
      · have hkl : k ∈ chain (linesL D F) s.la c tg := Classical.byContradiction fun hk => by
          have := (a4 k u1 u2).2.1 hk; omega
        obtain ⟨q, hq, he⟩ := mem_chain c hkl
        have hgj : Goes (linesL D F) s.la (q + 1) tg := goes_le ht.goes (by omega)
        have hnq := ht.node q (by omega)
        have hl := ((goes_add (linesL D F) s.la q 1 _).1 hgj).2.1
        have hp := hB.p _ hnq.1 hnq.2 (hB.la_pos hnq.1 hnq.2 hl)
        rw [← he] at hp
        have hfx := (hf.edge u1 (by rw [lines_len]; omega) hp.2.2.2.2.1)
        rw [lines_lo u1 u2] at hp hfx
        show (if hasN s (rd_T39 D k).f0 then rd s.lo (rd_T39 D k).f0 else π (rd_T39 D k).f0 + C) - (if hasN s (rd_T39 D k).f1 then rd s.lo (rd_T39 D k).f1 else π (rd_T39 D k).f1 + C) ≤ -(rd_T39 D k).f2
        rw [if_pos hp.2.2.2.2.1, if_pos hfx.1]
        have e1 := hp.2.2.2.1
        have e2 := hp.2.2.2.2.2.1
        rw [← e1] at e2
        have e3 := hfx.2
        omega
  · have := (a4 k k0 k1).2.2
    have := h.up k k0 k1
    omega
end
def sumN (g : Int → Int) : Nat → Int
  | 0 => 0
  | n + 1 => sumN g n + g n
theorem sumN_add (g h : Int → Int) : ∀ n, sumN (fun v => g v + h v) n = sumN g n + sumN h n
  | 0 => rfl
  | n + 1 => by simp only [sumN]; rw [sumN_add g h n]; omega
theorem sumN_congr {g h : Int → Int} : ∀ n : Nat, (∀ v : Int, 0 ≤ v → v < n → g v = h v) → sumN g n = sumN h n
  | 0, _ => rfl
  | n + 1, e => by simp only [sumN]; rw [sumN_congr n (fun v h0 h1 => e v h0 (by omega)), e n (by omega) (by omega)]
theorem sumN_zero (n : Nat) : sumN (fun _ => 0) n = 0 := by
  induction n with
  | zero => rfl
  | succ n ih => simp only [sumN]; omega
theorem sumN_le {g h : Int → Int} : ∀ n : Nat, (∀ v : Int, 0 ≤ v → v < n → g v ≤ h v) → sumN g n ≤ sumN h n
  | 0, _ => Int.le_refl _
  | n + 1, e => by
    simp only [sumN]
    have := sumN_le n (fun v h0 h1 => e v h0 (by omega))
    have := e n (by omega) (by omega)
    omega
theorem sumN_lt {g h : Int → Int} {u : Int} : ∀ n : Nat, (∀ v : Int, 0 ≤ v → v < n → g v ≤ h v) → 0 ≤ u → u < n → g u < h u → sumN g n < sumN h n
  | 0, _, h0, h1, _ => by omega
  | n + 1, e, h0, h1, hu => by
    simp only [sumN]
    have hn := e n (by omega) (by omega)
    by_cases hun : u = n
    · have := sumN_le n (fun v h0 h1 => e v h0 (by omega))
      rw [hun] at hu
      omega
    · have := sumN_lt n (fun v h0 h1 => e v h0 (by omega)) h0 (by omega) hu
      omega
theorem sumN_one (a f : Int) (y : Int → Int) : ∀ n : Nat, 0 ≤ a → sumN (fun v => (if a = v then f else 0) * y v) n = if a < n then f * y a else 0
  | 0, h0 => by simp only [sumN]; rw [if_neg (by omega)]
  | n + 1, h0 => by
    simp only [sumN]
    rw [sumN_one a f y n h0]
    by_cases e : a = n
    · rw [if_neg (by omega), if_pos e, if_pos (by omega), e]; omega
    · rw [if_neg e]
      by_cases h : a < n
      · rw [if_pos h, if_pos (by omega)]; omega
      · rw [if_neg h, if_neg (by omega)]; omega
def dotF : List S39 → List Int → (Int → Int) → Int
  | d :: ds, f :: fs, y => f * (y d.f1 - y d.f0) + dotF ds fs y
  | _, _, _ => 0
def costF : List S39 → List Int → Int
  | d :: ds, f :: fs => f * d.f2 + costF ds fs
  | _, _ => 0
theorem exch {n : Nat} (y : Int → Int) : ∀ (D : List S39) (F : List Int), (∀ d ∈ D, EdgeOk n d) → F.length = D.length → sumN (fun v => netF D F v * y v) n = dotF D F y
  | [], F, _, hl => by
    cases F with
    | nil => simp only [netF, dotF, Int.zero_mul]; exact sumN_zero n
    | cons f fs => simp at hl
  | d :: ds, [], _, hl => by simp at hl
  | d :: ds, f :: fs, hE, hl => by
    have ih := exch y ds fs (fun e he => hE e (by simp [he])) (by simpa using hl)
    have hd := hE d (by simp)
    have e1 := sumN_one d.f1 f y n hd.c
    have e0 := sumN_one d.f0 (-f) y n hd.a
    rw [if_pos hd.g] at e1
    rw [if_pos hd.b] at e0
    have e2 : sumN (fun v => netF (d :: ds) (f :: fs) v * y v) n = sumN (fun v => ((if d.f1 = v then f else 0) * y v + (if d.f0 = v then -f else 0) * y v) + netF ds fs v * y v) n :=
      sumN_congr n (fun v _ _ => by
        simp only [netF]
        rw [Int.add_mul]
        congr 1
        have e : (if d.f0 = v then -f else 0) = -(if d.f0 = v then f else 0) := by split <;> omega
        rw [e, Int.sub_mul, Int.neg_mul]
        omega)
    rw [e2, sumN_add, sumN_add, e1, e0, ih]
    simp only [dotF]
    rw [Int.mul_sub, Int.neg_mul]
    omega
theorem dot_le {y z : Int → Int} : ∀ (D : List S39) (F : List Int), F.length = D.length → (∀ k : Int, 0 ≤ k → k < D.length → rd F k * (y (rd_T39 D k).f1 - y (rd_T39 D k).f0) ≤ rd F k * (z (rd_T39 D k).f1 - z (rd_T39 D k).f0)) → dotF D F y ≤ dotF D F z
  | [], F, _, _ => by simp [dotF]
  | d :: ds, [], hl, _ => by simp at hl
  | d :: ds, f :: fs, hl, h => by
    have h0 : f * (y d.f1 - y d.f0) ≤ f * (z d.f1 - z d.f0) := h 0 (by omega) (by simp only [List.length_cons]; omega)
    have := dot_le ds fs (by simpa using hl) (fun k k0 k1 => by
      have := h (k + 1) (by omega) (by simp only [List.length_cons]; omega)
      rw [rd_cons _ _ _ k0] at this
      have e : rd_T39 (d :: ds) (k + 1) = rd_T39 ds k := by
        unfold rd_T39; rw [show (k + 1).toNat = k.toNat + 1 from by omega]; rfl
      rw [e] at this
      exact this)
    simp only [dotF]
    omega
theorem dot_cost {y : Int → Int} : ∀ (D : List S39) (F : List Int), F.length = D.length → (∀ k : Int, 0 ≤ k → k < D.length → rd F k * (y (rd_T39 D k).f1 - y (rd_T39 D k).f0) ≤ rd F k * (rd_T39 D k).f2) → dotF D F y ≤ costF D F
  | [], F, _, _ => by simp [dotF, costF]
  | d :: ds, [], hl, _ => by simp at hl
  | d :: ds, f :: fs, hl, h => by
    have h0 : f * (y d.f1 - y d.f0) ≤ f * d.f2 := h 0 (by omega) (by simp only [List.length_cons]; omega)
    have := dot_cost ds fs (by simpa using hl) (fun k k0 k1 => by
      have := h (k + 1) (by omega) (by simp only [List.length_cons]; omega)
      rw [rd_cons _ _ _ k0] at this
      have e : rd_T39 (d :: ds) (k + 1) = rd_T39 ds k := by
        unfold rd_T39; rw [show (k + 1).toNat = k.toNat + 1 from by omega]; rfl
      rw [e] at this
      exact this)
    simp only [dotF, costF]
    omega
theorem cost_dot {y : Int → Int} : ∀ (D : List S39) (F : List Int), F.length = D.length → (∀ k : Int, 0 ≤ k → k < D.length → rd F k * (y (rd_T39 D k).f1 - y (rd_T39 D k).f0) = rd F k * (rd_T39 D k).f2) → dotF D F y = costF D F
  | [], F, _, _ => by simp [dotF, costF]
  | d :: ds, [], hl, _ => by simp at hl
  | d :: ds, f :: fs, hl, h => by
    have h0 : f * (y d.f1 - y d.f0) = f * d.f2 := h 0 (by omega) (by simp only [List.length_cons]; omega)
    have := cost_dot ds fs (by simpa using hl) (fun k k0 k1 => by
      have := h (k + 1) (by omega) (by simp only [List.length_cons]; omega)
      rw [rd_cons _ _ _ k0] at this
      have e : rd_T39 (d :: ds) (k + 1) = rd_T39 ds k := by
        unfold rd_T39; rw [show (k + 1).toNat = k.toNat + 1 from by omega]; rfl
      rw [e] at this
      exact this)
    simp only [dotF, costF]
    omega
theorem dot_const (D : List S39) (F : List Int) (c : Int) : dotF D F (fun _ => c) = 0 := by
  induction D generalizing F with
  | nil => simp [dotF]
  | cons d ds ih =>
    cases F with
    | nil => simp [dotF]
    | cons f fs => simp only [dotF]; rw [ih, Int.sub_self, Int.mul_zero]; rfl
theorem edges_mem {n : Int} {D : List S39} (hE : EdgesOk n D) : ∀ d ∈ D, EdgeOk n d := fun d hd => by
  obtain ⟨i, hi, rfl⟩ := List.getElem_of_mem hd
  have := hE i (by omega) (by omega)
  unfold rd_T39 at this
  rw [List.getD_eq_getElem?_getD, Int.toNat_natCast, List.getElem?_eq_getElem hi] at this
  exact this
/-- A use of the differences that brings each node what it weighs. -/
structure Feas (n : Nat) (D : List S39) (w F : List Int) : Prop where
  lf : F.length = D.length
  pos : ∀ k, 0 ≤ k → k < (D.length : Int) → 0 ≤ rd F k
  bal : ∀ v, 1 ≤ v → v < (n : Int) → netF D F v = rd w v
/-- Numbers that fulfil all differences, the first being 0. -/
structure Asg (L : List S39) (x : Int → Int) : Prop where
  z : x 0 = 0
  p : Pot L x
def sumW (n : Nat) (w : List Int) (x : Int → Int) : Int := sumN (fun v => if v = 0 then 0 else rd w v * x v) n
section
variable {n : Nat} {D : List S39} {w F W : List Int}
theorem sum_dot (hE : EdgesOk n D) (hl : F.length = D.length) {x : Int → Int} (hz : x 0 = 0) : sumN (fun v => if v = 0 then 0 else netF D F v * x v) n = dotF D F x := by
  rw [← exch x D F (edges_mem hE) hl]
  refine sumN_congr n (fun v _ _ => ?_)
  by_cases e : v = 0
  · rw [if_pos e, e, hz]; omega
  · rw [if_neg e]
theorem Feas.sum (h : Feas n D w F) (hE : EdgesOk n D) {x : Int → Int} (hz : x 0 = 0) : sumW n w x = dotF D F x := by
  rw [← sum_dot hE h.lf hz]
  refine sumN_congr n (fun v h0 h1 => ?_)
  by_cases e : v = 0
  · rw [if_pos e, if_pos e]
  · rw [if_neg e, if_neg e, h.bal v (by omega) h1]
/-- No assignment has a greater sum than a feasible use costs. -/
theorem weak (h : Feas n D w F) (hE : EdgesOk n D) {x : Int → Int} (hx : Asg D x) : sumW n w x ≤ costF D F := by
  rw [h.sum hE hx.z]
  exact dot_cost D F h.lf (fun k k0 k1 => Int.mul_le_mul_of_nonneg_left (hx.p k k0 k1) (h.pos k k0 k1))
theorem lines_pot {x : Int → Int} (hF : F.length = D.length) (h : Pot (linesL D F) x) : Pot D x ∧ ∀ k : Int, 0 ≤ k → k < D.length → 0 < rd F k → x (rd_T39 D k).f1 - x (rd_T39 D k).f0 = (rd_T39 D k).f2 := by
  have hp : Pot D x := fun i i0 i1 => by
    have := h i i0 (by rw [lines_len]; omega)
    rw [lines_lo i0 i1] at this
    exact this
  refine ⟨hp, fun k k0 k1 hk => ?_⟩
  obtain ⟨j, j0, j1, je⟩ := used_of hF k0 k1 hk
  have := h ((D.length : Int) + j) (by omega) (by rw [lines_len]; push_cast; omega)
  rw [lines_hi j0 j1, je] at this
  have := hp k k0 k1
  simp only [turnD] at *
  omega
/-- A feasible use over whose lines there are numbers costs what these sum to. -/
theorem strong (h : Feas n D w F) (hE : EdgesOk n D) {x : Int → Int} (hz : x 0 = 0) (hx : Pot (linesL D F) x) : Asg D x ∧ sumW n w x = costF D F := by
  obtain ⟨hp, he⟩ := lines_pot h.lf hx
  refine ⟨⟨hz, hp⟩, ?_⟩
  rw [h.sum hE hz]
  refine cost_dot D F h.lf (fun k k0 k1 => ?_)
  by_cases hk : 0 < rd F k
  · rw [he k k0 k1 hk]
  · have := h.pos k k0 k1
    rw [show rd F k = 0 from by omega]; omega
theorem Pot.shift {L : List S39} {x : Int → Int} (h : Pot L x) (c : Int) : Pot L (fun v => x v - c) := fun i i0 i1 => by
  have := h i i0 i1
  simp only
  omega
/-- Nothing can be brought to a node any more that still wants something: nothing is feasible. -/
theorem no_feas_in (h : FI n D w F W) (hE : EdgesOk n D) {s : Sg} (hf : Fix (linesL D F) s) {tg : Int} (t0 : 0 < tg) (t1 : tg < n) (hw : 0 < rd W tg) (htg : ¬ hasN s tg) (h0 : hasN s 0) (hg : ∀ v, 1 ≤ v → v < (n : Int) → rd W v < 0 → hasN s v) (F2 : List Int) (h2 : Feas n D w F2) : False := by
  have hy0 : (fun v => if hasN s v then (0 : Int) else 1) 0 = 0 := if_pos h0
  have hin : ∀ k : Int, 0 ≤ k → k < D.length → hasN s (rd_T39 D k).f0 → hasN s (rd_T39 D k).f1 := fun k k0 k1 hu => by
    have := hf.edge (i := k) k0 (by rw [lines_len]; omega) (by rw [lines_lo k0 k1]; exact hu)
    rw [lines_lo k0 k1] at this
    exact this.1
  have hback : ∀ k : Int, 0 ≤ k → k < D.length → 0 < rd F k → hasN s (rd_T39 D k).f1 → hasN s (rd_T39 D k).f0 := fun k k0 k1 hk hu => by
    obtain ⟨j, j0, j1, je⟩ := used_of h.lf k0 k1 hk
    have := hf.edge (i := (D.length : Int) + j) (by omega) (by rw [lines_len]; push_cast; omega) (by rw [lines_hi j0 j1, je]; exact hu)
    rw [lines_hi j0 j1, je] at this
    exact this.1
  have e1 : sumW n w (fun v => if hasN s v then (0 : Int) else 1) ≤ 0 := by
    rw [h2.sum hE (x := fun v => if hasN s v then (0 : Int) else 1) hy0]
    refine Int.le_trans (dot_le (z := fun _ => 0) D F2 h2.lf (fun k k0 k1 => Int.mul_le_mul_of_nonneg_left ?_ (h2.pos k k0 k1))) (Int.le_of_eq (dot_const D F2 0))
    by_cases hu : hasN s (rd_T39 D k).f0
    · rw [if_pos hu, if_pos (hin k k0 k1 hu)]; omega
    · rw [if_neg hu]; split <;> omega
  have e2 : sumN (fun v => if v = 0 then 0 else netF D F v * (if hasN s v then (0 : Int) else 1)) n = 0 := by
    rw [sum_dot hE h.lf (x := fun v => if hasN s v then (0 : Int) else 1) hy0]
    refine Eq.trans ?_ (dot_const D F 0)
    refine Int.le_antisymm (dot_le D F h.lf (fun k k0 k1 => Int.le_of_eq ?_)) (dot_le D F h.lf (fun k k0 k1 => Int.le_of_eq (Eq.symm ?_)))
    all_goals
      by_cases hk : 0 < rd F k
      · congr 1
        by_cases hu : hasN s (rd_T39 D k).f0
        · rw [if_pos hu, if_pos (hin k k0 k1 hu)]
        · rw [if_neg hu, if_neg (fun hv => hu (hback k k0 k1 hk hv))]; omega
      · have := h.pos k k0 k1
        rw [show rd F k = 0 from by omega]; omega
  have e3 : sumN (fun v => if v = 0 then 0 else netF D F v * (if hasN s v then (0 : Int) else 1)) n < sumW n w (fun v => if hasN s v then (0 : Int) else 1) := by
    refine sumN_lt (u := tg) n (fun v v0 v1 => ?_) (by omega) t1 ?_
    · show (if v = 0 then 0 else netF D F v * (if hasN s v then (0 : Int) else 1)) ≤ (if v = 0 then 0 else rd w v * (if hasN s v then (0 : Int) else 1))
      by_cases e : v = 0
      · rw [if_pos e, if_pos e]; omega
      · have := h.bal v (by omega) v1
        rw [if_neg e, if_neg e]
        by_cases hv : hasN s v
        · rw [if_pos hv]; omega
        · have : ¬ rd W v < 0 := fun hn => hv (hg v (by omega) v1 hn)
          rw [if_neg hv]; omega
    · have := h.bal tg (by omega) t1
      show (if tg = 0 then 0 else netF D F tg * (if hasN s tg then (0 : Int) else 1)) < (if tg = 0 then 0 else rd w tg * (if hasN s tg then (0 : Int) else 1))
      rw [if_neg (show ¬ tg = 0 by omega), if_neg (show ¬ tg = 0 by omega), if_neg htg]; omega
  omega
/-- Nothing that is too much at a node can be brought to the node 0: nothing is feasible. -/
theorem no_feas_out (h : FI n D w F W) (hE : EdgesOk n D) {s : Sg} (hf : Fix (linesL D F) s) {i : Int} (t0 : 0 < i) (t1 : i < n) (hw : rd W i < 0) (hi : hasN s i) (h0 : ¬ hasN s 0) (hg : ∀ v, 1 ≤ v → v < (n : Int) → rd W v ≤ 0) (F2 : List Int) (h2 : Feas n D w F2) : False := by
  have hy0 : (fun v => if hasN s v then (1 : Int) else 0) 0 = 0 := if_neg h0
  have hin : ∀ k : Int, 0 ≤ k → k < D.length → hasN s (rd_T39 D k).f0 → hasN s (rd_T39 D k).f1 := fun k k0 k1 hu => by
    have := hf.edge (i := k) k0 (by rw [lines_len]; omega) (by rw [lines_lo k0 k1]; exact hu)
    rw [lines_lo k0 k1] at this
    exact this.1
  have hback : ∀ k : Int, 0 ≤ k → k < D.length → 0 < rd F k → hasN s (rd_T39 D k).f1 → hasN s (rd_T39 D k).f0 := fun k k0 k1 hk hu => by
    obtain ⟨j, j0, j1, je⟩ := used_of h.lf k0 k1 hk
    have := hf.edge (i := (D.length : Int) + j) (by omega) (by rw [lines_len]; push_cast; omega) (by rw [lines_hi j0 j1, je]; exact hu)
    rw [lines_hi j0 j1, je] at this
    exact this.1
  have e1 : 0 ≤ sumW n w (fun v => if hasN s v then (1 : Int) else 0) := by
    rw [h2.sum hE (x := fun v => if hasN s v then (1 : Int) else 0) hy0]
    refine Int.le_trans (Int.le_of_eq (dot_const D F2 0).symm) (dot_le (y := fun _ => 0) D F2 h2.lf (fun k k0 k1 => Int.mul_le_mul_of_nonneg_left ?_ (h2.pos k k0 k1)))
    by_cases hu : hasN s (rd_T39 D k).f0
    · rw [if_pos hu, if_pos (hin k k0 k1 hu)]; omega
    · rw [if_neg hu]; split <;> omega
  have e2 : sumN (fun v => if v = 0 then 0 else netF D F v * (if hasN s v then (1 : Int) else 0)) n = 0 := by
    rw [sum_dot hE h.lf (x := fun v => if hasN s v then (1 : Int) else 0) hy0]
    refine Eq.trans ?_ (dot_const D F 0)
    refine Int.le_antisymm (dot_le D F h.lf (fun k k0 k1 => Int.le_of_eq ?_)) (dot_le D F h.lf (fun k k0 k1 => Int.le_of_eq (Eq.symm ?_)))
    all_goals
      by_cases hk : 0 < rd F k
      · congr 1
        by_cases hu : hasN s (rd_T39 D k).f0
        · rw [if_pos hu, if_pos (hin k k0 k1 hu)]; omega
        · rw [if_neg hu, if_neg (fun hv => hu (hback k k0 k1 hk hv))]
      · have := h.pos k k0 k1
        rw [show rd F k = 0 from by omega]; omega
  have e3 : sumW n w (fun v => if hasN s v then (1 : Int) else 0) < sumN (fun v => if v = 0 then 0 else netF D F v * (if hasN s v then (1 : Int) else 0)) n := by
    refine sumN_lt (u := i) n (fun v v0 v1 => ?_) (by omega) t1 ?_
    · show (if v = 0 then 0 else rd w v * (if hasN s v then (1 : Int) else 0)) ≤ (if v = 0 then 0 else netF D F v * (if hasN s v then (1 : Int) else 0))
      by_cases e : v = 0
      · rw [if_pos e, if_pos e]; omega
      · have := h.bal v (by omega) v1
        have := hg v (by omega) v1
        rw [if_neg e, if_neg e]
        by_cases hv : hasN s v
        · rw [if_pos hv]; omega
        · rw [if_neg hv]; omega
    · have := h.bal i (by omega) t1
      show (if i = 0 then 0 else rd w i * (if hasN s i then (1 : Int) else 0)) < (if i = 0 then 0 else netF D F i * (if hasN s i then (1 : Int) else 0))
      rw [if_neg (show ¬ i = 0 by omega), if_neg (show ¬ i = 0 by omega), if_pos hi]; omega
  omega
end
theorem giversL_iff : ∀ (l : List Int) (i k : Int), k ∈ giversL l i ↔ i ≤ k ∧ k < i + l.length ∧ 0 < k ∧ rd l (k - i) < 0
  | [], i, k => by simp [giversL]; omega
  | x :: xs, i, k => by
    unfold giversL
    have ih := giversL_iff xs (i + 1) k
    have e0 : rd (x :: xs) 0 = x := rfl
    by_cases hk : k = i
    · subst hk
      rw [show k - k = 0 from by omega, e0]
      by_cases hp : 0 < k ∧ x < 0
      · rw [if_pos hp]; simp; omega
      · rw [if_neg hp, ih]; simp only [List.length_cons]; omega
    · have e1 : i + 1 ≤ k → rd (x :: xs) (k - i) = rd xs (k - (i + 1)) := fun h => by
        rw [show k - i = (k - (i + 1)) + 1 from by omega]; exact rd_cons _ _ _ (by omega)
      have key : (k ∈ giversL xs (i + 1)) ↔ i ≤ k ∧ k < i + (x :: xs).length ∧ 0 < k ∧ rd (x :: xs) (k - i) < 0 := by
        rw [ih]
        simp only [List.length_cons]
        constructor
        · rintro ⟨a, b, c, d⟩; exact ⟨by omega, by omega, c, by rw [e1 a]; exact d⟩
        · rintro ⟨a, b, c, d⟩
          have a' : i + 1 ≤ k := by omega
          exact ⟨a', by omega, c, by rw [e1 a'] at d; exact d⟩
      by_cases hp : 0 < i ∧ x < 0
      · rw [if_pos hp, List.mem_cons, ← key]; simp [hk]
      · rw [if_neg hp, ← key]
theorem giversL_len : ∀ (l : List Int) (i : Int), (giversL l i).length ≤ l.length
  | [], _ => by simp [giversL]
  | x :: xs, i => by
    unfold giversL
    have := giversL_len xs (i + 1)
    split <;> simp <;> omega
section
variable {n : Nat} {D : List S39} {w F W : List Int}
theorem step_ev (h : FI n D w F W) (hE : EdgesOk n D) (hD : D.length ≤ 4096) (hn0 : 0 < n) (hn : n ≤ 256) {tg : Int} (t0 : 0 ≤ tg) (t1 : tg < n) {gv : List Int} (hl : gv.length ≤ 65536) (hgv : ∀ i ∈ gv, 0 ≤ i ∧ i < (n : Int)) (hg : ∀ v ∈ gv, v ≠ tg ∧ (v ≠ 0 → rd W v < 0)) (htg : tg ≠ 0 → 0 < rd W tg) (h3 : tg ≠ 0 ∨ ∀ v ∈ gv, v ≠ 0) :
    ∃ s, GrowPost n (linesL D F) (fun v => v ∈ gv) s (-1) ∧ Fix (linesL D F) s ∧ ((¬ hasN s tg ∧ Ev (fun k => stepL k n D F W tg gv) (false, F, W)) ∨
      (hasN s tg ∧ ∃ F' at_ M, 1 ≤ M ∧ at_ ∈ gv ∧ (at_ ≠ 0 → M ≤ -(rd W at_)) ∧ FI n D w F' (want2 W tg at_ M) ∧ phi (want2 W tg at_ M) ≤ phi W - M ∧ (∀ v, 1 ≤ v → v < (n : Int) → rd (want2 W tg at_ M) v = rd W v - M * ind at_ tg v) ∧ Ev (fun k => stepL k n D F W tg gv) (true, F', want2 W tg at_ M))) := by
  have hEL := lines_ok hE h.lf
  have hul := usedL_len F 0
  have hlf := h.lf
  have hm : (n : Int) * (linesL D F).length ≤ 4294967296 := by
    rw [lines_len]
    have := Int.mul_le_mul (a := (n : Int)) (b := ((D.length + (usedL F 0).length : Nat) : Int)) (c := 256) (d := 8192) (by omega) (by omega) (by omega) (by omega)
    omega
  obtain ⟨s, bad, g1, g2, g3⟩ := grow_ev hn0 (by omega) hEL hm (from_ := gv) (by omega) hgv
  obtain ⟨π, hπ⟩ := h.pot
  obtain ⟨e, hf⟩ := g2.good hEL hπ
  subst e
  obtain ⟨b, T, hb, hb2, hB⟩ := g2.bf
  have l2 := hB.l2
  have hlw := h.lw
  refine ⟨s, g2, hf, ?_⟩
  by_cases hh : hasN s tg
  case neg =>
    refine Or.inl ⟨hh, ?_⟩
    unfold stepL
    refine g3.bind (Ev.pos ⟨t0, by simp only; omega, by omega⟩ (Ev.pos ?_ (Ev.now _)))
    unfold hasN at hh
    simpa using hh
  refine Or.inr ⟨hh, ?_⟩
  obtain ⟨c, hc⟩ := g2.tree hEL hf t0 t1 hh
  have hat := hc.node c (Nat.le_refl _)
  have hsrc : it (linesL D F) s.la c tg ∈ gv := hc.src
  have hga := hg _ hsrc
  have hoks := chain_ok hB hEL t0 t1 hc.goes
  obtain ⟨at_, ha⟩ : ∃ a, a = it (linesL D F) s.la c tg := ⟨_, rfl⟩
  have hwt : tg ≠ 0 → rd W tg ≤ 1048576 := fun e => (h.wb (by omega) t1).2
  have hwa : at_ ≠ 0 → -1048576 ≤ rd W at_ := fun e => (h.wb (v := at_) (by omega) (by omega)).1
  rw [← ha] at hga hsrc hat
  have hna : at_ ≠ 0 → wrap64 (-(rd W at_)) = -(rd W at_) := fun e => by
    have := hwa e; have := hga.2 e; exact wrap_id (by omega) (by omega)
  have hmm1 : 1 ≤ much2 W tg at_ := by
    unfold much2 much1
    by_cases e : at_ = 0
    · rw [if_pos e]
      by_cases et : tg = 0
      · rw [if_pos et]; omega
      · rw [if_neg et]; exact htg et
    · have := hga.2 e
      rw [if_neg e, hna e]
      by_cases et : tg = 0
      · rw [if_pos et]; omega
      · have := htg et
        rw [if_neg et]; omega
  obtain ⟨M, m1, m2, m3, m4⟩ := much_ok h.lf (by omega) (chain (linesL D F) s.la c tg) (much2 W tg at_) hoks
  have hM1 := m3 hmm1
  have hMt : tg ≠ 0 → M ≤ rd W tg := fun et => by
    unfold much2 much1 at m2
    by_cases e : at_ = 0
    · rw [if_pos e, if_neg et] at m2; exact m2
    · rw [if_neg e, if_neg et] at m2; omega
  have hMa : at_ ≠ 0 → M ≤ -(rd W at_) := fun e => by
    unfold much2 at m2
    rw [if_neg e, hna e] at m2; omega
  have hor : tg ≠ 0 ∨ at_ ≠ 0 := h3.imp_right (fun q => q _ hsrc)
  have hM2 : M ≤ 1048576 := by
    rcases hor with e | e
    · have := hMt e; have := hwt e; omega
    · have := hMa e; have := hwa e; omega
  subst ha
  obtain ⟨F', a1, a2, a3⟩ := augment h hE (by omega) g2 hf t0 t1 (by omega) hc hga.1 hM1 hM2 hMt hMa hor m4
  have hw := want2_rd h.lw t0 t1 hat.1 hat.2 hga.1 ⟨by omega, hM2⟩ (fun v v0 v1 => h.wb v0 v1)
  refine ⟨F', _, M, hM1, hsrc, hMa, a2, a3, hw.2, ?_⟩
  unfold stepL
  refine g3.bind (Ev.pos ⟨t0, by simp only; omega, by omega⟩ (Ev.neg ?_ ?_))
  · unfold hasN at hh
    simp only [hh]; decide
  · have hp : Ev (fun k => pathL (linesL D F) s.la k tg []) (chain (linesL D F) s.la c tg, it (linesL D F) s.la c tg) :=
      Ev.shift (c + 1) (h := fun _ => some _) (fun f => by
        have := path_chain hB hEL c (v := tg) [] f t0 t1 hc.goes hc.root (by simp; have := hc.few; omega)
        rw [List.nil_append] at this
        exact this) (Ev.now _)
    refine hp.bind (Ev.pos (by simp only; omega) ?_)
    simp only
    rw [m1]
    simp only [Option.bind_some]
    rw [a1]
    exact Ev.now _
theorem fillA_ev (hE : EdgesOk n D) (hD : D.length ≤ 4096) (hn : n ≤ 256) : ∀ (m : Nat) (i : Int) (F W : List Int), FI n D w F W → 1 ≤ i → i ≤ n → (∀ v, 1 ≤ v → v < i → rd W v ≤ 0) → ((n : Int) - i) + phi W ≤ m →
    ∃ r : Bool × List Int × List Int, (∃ K, ∀ k q, K ≤ k → K ≤ q → fillA k n D q i F W = some r) ∧ ((r.1 = false ∧ ∀ F2, ¬ Feas n D w F2) ∨ (r.1 = true ∧ FI n D w r.2.1 r.2.2 ∧ ∀ v, 1 ≤ v → v < (n : Int) → rd r.2.2 v ≤ 0)) := by
  intro m
  induction m with
  | zero =>
    intro i F W h i1 i2 hv hm
    have := phi_nonneg W
    refine ⟨(true, F, W), ⟨1, fun k q _ hq => ?_⟩, Or.inr ⟨rfl, h, fun v v0 v1 => hv v v0 (by omega)⟩⟩
    obtain ⟨q, rfl⟩ : ∃ q', q = q' + 1 := ⟨q - 1, by omega⟩
    rw [fillA, if_neg (by omega)]
  | succ m ih =>
    intro i F W h i1 i2 hv hm
    by_cases hi : i < (n : Int)
    case neg =>
      refine ⟨(true, F, W), ⟨1, fun k q _ hq => ?_⟩, Or.inr ⟨rfl, h, fun v v0 v1 => hv v v0 (by omega)⟩⟩
      obtain ⟨q, rfl⟩ : ∃ q', q = q' + 1 := ⟨q - 1, by omega⟩
      rw [fillA, if_neg hi]
    have hlw := h.lw
    by_cases hw : rd W i > 0
    case neg =>
      obtain ⟨r, ⟨K, hK⟩, hr⟩ := ih (i + 1) F W h (by omega) (by omega) (fun v v0 v1 => by
        by_cases e : v = i
        · rw [e]; omega
        · exact hv v v0 (by omega)) (by omega)
      refine ⟨r, ⟨K + 1, fun k q hk hq => ?_⟩, hr⟩
      obtain ⟨q, rfl⟩ : ∃ q', q = q' + 1 := ⟨q - 1, by omega⟩
      rw [fillA, if_pos hi, if_pos ⟨by omega, by omega⟩, if_neg hw]
      exact hK k q (by omega) (by omega)
    have hmem : ∀ v ∈ (0 : Int) :: giversL W 0, v = 0 ∨ (0 < v ∧ v < (n : Int) ∧ rd W v < 0) := fun v hv => by
      rcases List.mem_cons.1 hv with e | e
      · exact Or.inl e
      · have := (giversL_iff W 0 v).1 e
        rw [show v - 0 = v from by omega] at this
        exact Or.inr ⟨this.2.2.1, by omega, this.2.2.2⟩
    obtain ⟨s, g2, hf, hs⟩ := step_ev h hE hD (by omega) hn (tg := i) (by omega) hi (gv := 0 :: giversL W 0) (by have := giversL_len W 0; simp; omega) (fun v hv => by rcases hmem v hv with e | e <;> omega) (fun v hv => by
      rcases hmem v hv with e | e
      · exact ⟨by omega, fun q => absurd e q⟩
      · refine ⟨fun q => ?_, fun _ => e.2.2⟩
        rw [q] at e; omega) (fun _ => hw) (Or.inl (by omega))
    rcases hs with ⟨hno, K, hK⟩ | ⟨hyes, F', at_, M, hM, hat, hMa, hFI, hph, hrd, K, hK⟩
    · refine ⟨(false, F, W), ⟨K + 1, fun k q hk hq => ?_⟩, Or.inl ⟨rfl, fun F2 h2 => ?_⟩⟩
      · obtain ⟨q, rfl⟩ : ∃ q', q = q' + 1 := ⟨q - 1, by omega⟩
        rw [fillA, if_pos hi, if_pos ⟨by omega, by omega⟩, if_pos hw, (show stepL k n D F W i (0 :: giversL W 0) = _ from hK k (by omega))]
        rfl
      · have hsrc : ∀ v, v ∈ (0 : Int) :: giversL W 0 → 0 ≤ v → v < (n : Int) → hasN s v := fun v hv v0 v1 => by
          obtain ⟨b, T, hb, hb2, hB⟩ := g2.bf
          have := (hB.t0 v v0 v1).1
          by_cases e : T v = 0
          · exact (hB.z v v0 v1 e).2.2.2 hv
          · exact (hB.p v v0 v1 (by omega)).2.2.1
        exact no_feas_in h hE hf (by omega) hi hw hno (hsrc 0 (by simp) (by omega) (by omega)) (fun v v0 v1 hn => hsrc v (List.mem_cons_of_mem _ ((giversL_iff W 0 v).2 ⟨by omega, by omega, by omega, by rw [show v - 0 = v from by omega]; exact hn⟩)) (by omega) v1) F2 h2
    · have hind : ∀ v, 1 ≤ v → v < (n : Int) → rd W v ≤ 0 → rd (want2 W i at_ M) v ≤ 0 := fun v v0 v1 hv0 => by
        rw [hrd v v0 v1]
        unfold ind
        have hi' : i ≠ v := fun e => by rw [e] at hw; omega
        rw [if_neg hi']
        by_cases e : at_ = v
        · have := hMa (by omega); rw [e] at this; rw [if_pos e]; omega
        · rw [if_neg e]; omega
      obtain ⟨r, ⟨K', hK'⟩, hr⟩ := ih i F' (want2 W i at_ M) hFI i1 i2 (fun v v0 v1 => hind v v0 (by omega) (hv v v0 v1)) (by omega)
      refine ⟨r, ⟨max K K' + 1, fun k q hk hq => ?_⟩, hr⟩
      obtain ⟨q, rfl⟩ : ∃ q', q = q' + 1 := ⟨q - 1, by omega⟩
      rw [fillA, if_pos hi, if_pos ⟨by omega, by omega⟩, if_pos hw, (show stepL k n D F W i (0 :: giversL W 0) = _ from hK k (by omega)), Option.bind_some, if_neg (by simp)]
      exact hK' k q (by omega) (by omega)
theorem fillB_ev (hE : EdgesOk n D) (hD : D.length ≤ 4096) (hn : n ≤ 256) : ∀ (m : Nat) (i : Int) (F W : List Int), FI n D w F W → 1 ≤ i → i ≤ n → (∀ v, 1 ≤ v → v < i → rd W v = 0) → (∀ v, 1 ≤ v → v < (n : Int) → rd W v ≤ 0) → ((n : Int) - i) + phi W ≤ m →
    ∃ r : Bool × List Int × List Int, (∃ K, ∀ k q, K ≤ k → K ≤ q → fillB k n D q i F W = some r) ∧ ((r.1 = false ∧ ∀ F2, ¬ Feas n D w F2) ∨ (r.1 = true ∧ FI n D w r.2.1 r.2.2 ∧ ∀ v, 1 ≤ v → v < (n : Int) → rd r.2.2 v = 0)) := by
  intro m
  induction m with
  | zero =>
    intro i F W h i1 i2 hv hle hm
    have := phi_nonneg W
    refine ⟨(true, F, W), ⟨1, fun k q _ hq => ?_⟩, Or.inr ⟨rfl, h, fun v v0 v1 => hv v v0 (by omega)⟩⟩
    obtain ⟨q, rfl⟩ : ∃ q', q = q' + 1 := ⟨q - 1, by omega⟩
    rw [fillB, if_neg (by omega)]
  | succ m ih =>
    intro i F W h i1 i2 hv hle hm
    by_cases hi : i < (n : Int)
    case neg =>
      refine ⟨(true, F, W), ⟨1, fun k q _ hq => ?_⟩, Or.inr ⟨rfl, h, fun v v0 v1 => hv v v0 (by omega)⟩⟩
      obtain ⟨q, rfl⟩ : ∃ q', q = q' + 1 := ⟨q - 1, by omega⟩
      rw [fillB, if_neg hi]
    have hlw := h.lw
    have hwi := hle i i1 hi
    by_cases hw : rd W i < 0
    case neg =>
      obtain ⟨r, ⟨K, hK⟩, hr⟩ := ih (i + 1) F W h (by omega) (by omega) (fun v v0 v1 => by
        by_cases e : v = i
        · rw [e]; omega
        · exact hv v v0 (by omega)) hle (by omega)
      refine ⟨r, ⟨K + 1, fun k q hk hq => ?_⟩, hr⟩
      obtain ⟨q, rfl⟩ : ∃ q', q = q' + 1 := ⟨q - 1, by omega⟩
      rw [fillB, if_pos hi, if_pos ⟨by omega, by omega⟩, if_neg hw]
      exact hK k q (by omega) (by omega)
    have hmem : ∀ v ∈ [i], v = i := fun v hv => by simpa using hv
    obtain ⟨s, g2, hf, hs⟩ := step_ev h hE hD (by omega) hn (tg := 0) (by omega) (by omega) (gv := [i]) (by simp) (fun v hv => by rw [hmem v hv]; omega) (fun v hv => by rw [hmem v hv]; exact ⟨by omega, fun _ => hw⟩) (fun q => absurd rfl q) (Or.inr (fun v hv => by rw [hmem v hv]; omega))
    rcases hs with ⟨hno, K, hK⟩ | ⟨hyes, F', at_, M, hM, hat, hMa, hFI, hph, hrd, K, hK⟩
    · refine ⟨(false, F, W), ⟨K + 1, fun k q hk hq => ?_⟩, Or.inl ⟨rfl, fun F2 h2 => ?_⟩⟩
      · obtain ⟨q, rfl⟩ : ∃ q', q = q' + 1 := ⟨q - 1, by omega⟩
        rw [fillB, if_pos hi, if_pos ⟨by omega, by omega⟩, if_pos hw, (show stepL k n D F W 0 [i] = _ from hK k (by omega))]
        rfl
      · have hsrc : hasN s i := by
          obtain ⟨b, T, hb, hb2, hB⟩ := g2.bf
          have := (hB.t0 i (by omega) hi).1
          by_cases e : T i = 0
          · exact (hB.z i (by omega) hi e).2.2.2 (by simp)
          · exact (hB.p i (by omega) hi (by omega)).2.2.1
        exact no_feas_out h hE hf (by omega) hi hw hsrc hno hle F2 h2
    · have ea := hmem _ hat
      subst ea
      have hMi := hMa (by omega)
      have hval : ∀ v, 1 ≤ v → v < (n : Int) → rd (want2 W 0 at_ M) v = if v = at_ then rd W v + M else rd W v := fun v v0 v1 => by
        rw [hrd v v0 v1]
        unfold ind
        rw [if_neg (by omega)]
        by_cases e : at_ = v
        · rw [if_pos e, if_pos e.symm]; omega
        · rw [if_neg e, if_neg (Ne.symm e)]; omega
      obtain ⟨r, ⟨K', hK'⟩, hr⟩ := ih at_ F' (want2 W 0 at_ M) hFI i1 i2 (fun v v0 v1 => by
        rw [hval v v0 (by omega), if_neg (by omega)]; exact hv v v0 v1) (fun v v0 v1 => by
        rw [hval v v0 v1]
        by_cases e : v = at_
        · rw [if_pos e, e]; omega
        · rw [if_neg e]; exact hle v v0 v1) (by omega)
      refine ⟨r, ⟨max K K' + 1, fun k q hk hq => ?_⟩, hr⟩
      obtain ⟨q, rfl⟩ : ∃ q', q = q' + 1 := ⟨q - 1, by omega⟩
      rw [fillB, if_pos hi, if_pos ⟨by omega, by omega⟩, if_pos hw, (show stepL k n D F W 0 [at_] = _ from hK k (by omega)), Option.bind_some, if_neg (by simp)]
      exact hK' k q (by omega) (by omega)
/-- What fill ends with. -/
theorem fill_ev (hE : EdgesOk n D) (hD : D.length ≤ 4096) (hn0 : 0 < n) (hn : n ≤ 256) {F W : List Int} (h : FI n D w F W) :
    ∃ r : Bool × List Int × List Int, Ev (fun k => fillL k n D F W) r ∧ ((r.1 = false ∧ ∀ F2, ¬ Feas n D w F2) ∨ (r.1 = true ∧ FI n D w r.2.1 r.2.2 ∧ Feas n D w r.2.1)) := by
  have hp := phi_nonneg W
  obtain ⟨r, ⟨K, hK⟩, hr⟩ := fillA_ev (w := w) hE hD hn (n + (phi W).toNat) 1 F W h (by omega) (by omega) (fun v v0 v1 => by omega) (by omega)
  rcases hr with ⟨r1, r2⟩ | ⟨r1, r2, r3⟩
  · refine ⟨r, ⟨K, fun k hk => ?_⟩, Or.inl ⟨r1, r2⟩⟩
    simp only [fillL]
    rw [hK k k hk hk, Option.bind_some, if_pos r1]
  · have hp2 := phi_nonneg r.2.2
    obtain ⟨t, ⟨K', hK'⟩, ht⟩ := fillB_ev (w := w) hE hD hn (n + (phi r.2.2).toNat) 1 r.2.1 r.2.2 r2 (by omega) (by omega) (fun v v0 v1 => by omega) r3 (by omega)
    refine ⟨t, ⟨max K K', fun k hk => ?_⟩, ?_⟩
    · simp only [fillL]
      rw [hK k k (by omega) (by omega), Option.bind_some, if_neg (by rw [r1]; simp)]
      exact hK' k k (by omega) (by omega)
    · rcases ht with ⟨t1, t2⟩ | ⟨t1, t2, t3⟩
      · exact Or.inl ⟨t1, t2⟩
      · exact Or.inr ⟨t1, t2, ⟨t2.lf, t2.pos, fun v v0 v1 => by have := t2.bal v v0 v1; have := t3 v v0 v1; omega⟩⟩
end
end Go.Proofs.Ytpolojoeabmhdaa.A
/- best and Most: what they answer. -/
namespace Go.Proofs.Ytpolojoeabmhdaa.A
open Go.RowKit Go.Proofs.YtpolojoeabmhdaaW.PrintWords Go.Proofs.YtpolojoeabmhdaaW.PrintLast Go.Proofs.YtpolojoeabmhdaaW.PrintMore
def weightyB (n : Int) (w : List Int) : Bool := decide ((w.length : Int) = n) && w.all (fun x => in_ x (-4096) 4096)
theorem weighty_some (n : Int) (D : List S39) (w : List Int) : diffs_weighty.f n D w = some (weightyB n w) := by
  unfold diffs_weighty.f weightyB cf118.f
  by_cases h : (w.length : Int) = n
  · rw [if_pos h, decide_eq_true h, Option.bind_some, Bool.true_and]
    congr 1
    induction w with
    | nil => rfl
    | cons x xs ih =>
      have : ∀ l : List Int, (!(l.any fun x => !in_ x (-4096) 4096)) = l.all fun x => in_ x (-4096) 4096 := fun l => by
        induction l with
        | nil => rfl
        | cons y ys ih => simp only [List.any_cons, List.all_cons, Bool.not_or, Bool.not_not, ih]
      exact this _
  · rw [if_neg h, decide_eq_false h, Bool.false_and]
structure Weighty (n : Int) (w : List Int) : Prop where
  l : (w.length : Int) = n
  b : ∀ v, 0 ≤ v → v < n → -4096 ≤ rd w v ∧ rd w v ≤ 4096
theorem weightyB_iff {n : Int} {w : List Int} : weightyB n w = true ↔ Weighty n w := by
  unfold weightyB
  simp only [Bool.and_eq_true, decide_eq_true_eq, List.all_eq_true, in_]
  constructor
  · rintro ⟨h, h2⟩
    exact ⟨h, fun v v0 v1 => h2 _ (rd_mem v0 (by omega))⟩
  · rintro ⟨h, h2⟩
    refine ⟨h, fun x hx => ?_⟩
    obtain ⟨i, i0, i1, rfl⟩ := mem_rd hx
    exact h2 i i0 (by omega)
theorem rd_zeros (m : Nat) (i : Int) : rd (List.replicate m 0) i = 0 := by
  unfold rd
  rw [List.getD_eq_getElem?_getD, List.getElem?_replicate]
  split <;> rfl
theorem netF_zeros : ∀ (D : List S39) (m : Nat) (v : Int), netF D (List.replicate m 0) v = 0
  | [], _, _ => rfl
  | _ :: _, 0, _ => rfl
  | d :: ds, m + 1, v => by
    rw [List.replicate_succ, netF, netF_zeros ds m v]
    split <;> split <;> rfl
theorem usedL_zeros : ∀ (m : Nat) (i : Int), usedL (List.replicate m 0) i = []
  | 0, _ => rfl
  | m + 1, i => by
    rw [List.replicate_succ, usedL, if_neg (by omega)]
    exact usedL_zeros m _
theorem lines_zeros (D : List S39) (m : Nat) : linesL D (List.replicate m 0) = D := by
  unfold linesL
  rw [usedL_zeros]
  simp
theorem sabs_le {M : Int} : ∀ l : List Int, (∀ x ∈ l, -M ≤ x ∧ x ≤ M) → sabs l ≤ l.length * M
  | [], _ => by simp [sabs]
  | x :: xs, h => by
    have ih := sabs_le xs (fun y hy => h y (List.mem_cons_of_mem _ hy))
    have := h x (List.mem_cons_self ..)
    rw [sabs, List.length_cons]
    push_cast
    rw [Int.add_mul]
    unfold ab
    split <;> omega
section
variable {n : Nat} {D : List S39} {w F : List Int}
theorem phi_small (hw : Weighty n w) (hn : n ≤ 256) : phi w ≤ 1048576 := by
  have := sabs_le (M := 4096) (w.drop 1) (fun x hx => by
    obtain ⟨i, i0, i1, rfl⟩ := mem_rd (List.mem_of_mem_drop hx)
    exact hw.b i i0 (by have := hw.l; omega))
  have hl : (w.drop 1).length ≤ 256 := by have := hw.l; rw [List.length_drop]; omega
  unfold phi
  omega
theorem fi_start (hw : Weighty n w) (hn : n ≤ 256) (hs : Solv D) : FI n D w (List.replicate D.length 0) w where
  lf := List.length_replicate ..
  lw := by have := hw.l; omega
  pos := fun k _ _ => by rw [rd_zeros]; omega
  bal := fun v _ _ => by rw [netF_zeros]; omega
  pot := by rw [lines_zeros]; exact hs
  up := fun k _ _ => by rw [rd_zeros]; have := phi_small hw hn; omega
  ph := phi_small hw hn
theorem cost_l0 {N : Int} (D : List S39) (F : List Int) (hE : EdgesOk N D) (hl : F.length = D.length) (hD : D.length ≤ 4096) (hF : ∀ k, 0 ≤ k → k < (D.length : Int) → 0 ≤ rd F k ∧ rd F k ≤ 1048576) : ∀ (q : Nat) (i acc : Int) (f : Nat), (q : Int) + i = D.length → 0 ≤ i → -(i * 1125899906842624) ≤ acc → acc ≤ i * 1125899906842624 →
    diffs_cost.l0 (f + q + 1) F acc D D.length i = some (acc + costF (D.drop i.toNat) (F.drop i.toNat)) ∧ -(D.length * 1125899906842624) ≤ acc + costF (D.drop i.toNat) (F.drop i.toNat) ∧ acc + costF (D.drop i.toNat) (F.drop i.toNat) ≤ D.length * 1125899906842624
  | 0, i, acc, f, hq, hi, h1, h2 => by
    rw [diffs_cost.l0, if_neg (by omega), List.drop_eq_nil_of_le (by omega)]
    simp only [costF]
    exact ⟨by rw [Int.add_zero], by omega, by omega⟩
  | q + 1, i, acc, f, hq, hi, h1, h2 => by
    have hlt : i < (D.length : Int) := by omega
    have he := hE i hi hlt
    have e1 := he.e
    have e2 := he.f
    obtain ⟨f0, f1⟩ := hF i hi hlt
    have b1 : rd F i * (rd_T39 D i).f2 ≤ 1048576 * 1073741824 := by
      have := Int.mul_le_mul (a := rd F i) (b := (rd_T39 D i).f2 + 1073741824) (c := 1048576) (d := 2147483648) f1 (by omega) (by omega) (by omega)
      have h3 : rd F i * ((rd_T39 D i).f2 + 1073741824) = rd F i * (rd_T39 D i).f2 + rd F i * 1073741824 := Int.mul_add ..
      by_cases hp : 0 ≤ (rd_T39 D i).f2
      · exact Int.mul_le_mul f1 e2 hp (by omega)
      · have : rd F i * (rd_T39 D i).f2 ≤ 0 := Int.mul_nonpos_of_nonneg_of_nonpos f0 (by omega)
        omega
    have b2 : -(1048576 * 1073741824) ≤ rd F i * (rd_T39 D i).f2 := by
      by_cases hp : 0 ≤ (rd_T39 D i).f2
      · have := Int.mul_nonneg f0 hp
        omega
      · have := Int.mul_le_mul (a := rd F i) (b := -(rd_T39 D i).f2) (c := 1048576) (d := 1073741824) f1 (by omega) (by omega) (by omega)
        rw [Int.mul_neg] at this
        omega
    rw [show f + (q + 1) + 1 = (f + q + 1) + 1 from by omega, diffs_cost.l0, if_pos hlt, if_pos hi, if_pos hlt, if_pos (by omega), wrap_id (x := rd F i * _) (by omega) (by omega), wrap_id (by omega) (by omega), wrap_id (by omega) (by omega)]
    have ih := cost_l0 D F hE hl hD hF q (i + 1) (acc + rd F i * (rd_T39 D i).f2) f (by omega) (by omega) (by omega) (by omega)
    have d1 : D.drop i.toNat = rd_T39 D i :: D.drop (i + 1).toNat := by
      rw [show (i + 1).toNat = i.toNat + 1 from by omega, rd_T39, List.getD_eq_getElem?_getD, List.getElem?_eq_getElem (by omega)]
      exact List.drop_eq_getElem_cons (by omega)
    have d2 : F.drop i.toNat = rd F i :: F.drop (i + 1).toNat := drop_rd F i hi (by omega)
    rw [d1, d2, costF, ← Int.add_assoc]
    exact ih
theorem cost_ev {N : Int} (hE : EdgesOk N D) (hl : F.length = D.length) (hD : D.length ≤ 4096) (hF : ∀ k, 0 ≤ k → k < (D.length : Int) → 0 ≤ rd F k ∧ rd F k ≤ 1048576) (m : Int) : Ev (fun k => diffs_cost.f k m D F) (costF D F) ∧ -(D.length * 1125899906842624) ≤ costF D F ∧ costF D F ≤ D.length * 1125899906842624 := by
  have := fun f => cost_l0 D F hE hl hD hF D.length 0 0 f (by omega) (by omega) (by omega) (by omega)
  simp only [show (0 : Int).toNat = 0 from rfl, List.drop_zero, Int.zero_add] at this
  exact ⟨Ev.shift (D.length + 1) (h := fun _ => some (costF D F)) (fun f => (this f).1) (Ev.now _), (this 0).2⟩
/-- What best answers over a net that is right. -/
structure BestIs (n : Nat) (D : List S39) (w : List Int) (is : Bool) (F : List Int) (e : Int) : Prop where
  arg : ¬ Weighty n w → is = false ∧ F = [] ∧ e = 1
  clash : Weighty n w → ¬ Solv D → is = false ∧ F = [] ∧ e = 41
  ok : Weighty n w → Solv D → e = 0
  yes : Weighty n w → Solv D → is = true → Feas n D w F ∧ Solv (linesL D F) ∧ ∀ k, 0 ≤ k → k < (D.length : Int) → rd F k ≤ 1048576
  no : Weighty n w → Solv D → is = false → ∀ F2, ¬ Feas n D w F2
theorem hmul (hV : Valid n D) : (n : Int) * D.length ≤ 1048576 := by
  have h1 := hV.n2
  have h2 := hV.l
  have := Int.mul_le_mul (a := (n : Int)) (b := D.length) (c := 256) (d := 4096) (by omega) (by omega) (by omega) (by omega)
  omega
theorem best_ev (hV : Valid n D) (w : List Int) : ∃ is F W e, Ev (fun k => diffs_best.f k n D w) (is, F, W, e) ∧ BestIs n D w is F e := by
  have hn0 : 0 < n := by have := hV.n1; omega
  have hn : n ≤ 256 := by have := hV.n2; omega
  have hD := hV.l
  have hask := fun b : Bool => asked_ev n D [b] (by simp)
  simp only [if_pos (validB_iff.2 hV)] at hask
  obtain ⟨x, s, bad, g1, g2, g3, g4, g5⟩ := solve_ev hn0 (by omega) hV.e (hmul hV)
  unfold diffs_best.f
  simp only [weighty_some, Option.bind_some]
  by_cases hw : Weighty n w
  case neg =>
    have hwb : weightyB n w = false := Bool.eq_false_iff.2 (fun h => hw (weightyB_iff.1 h))
    rw [hwb]
    exact ⟨false, [], [], 1, (hask false).bind (Ev.neg (by decide) (Ev.now _)), fun _ => ⟨rfl, rfl, rfl⟩, fun h => absurd h hw, fun h => absurd h hw, fun h => absurd h hw, fun h => absurd h hw⟩
  rw [weightyB_iff.2 hw]
  have hA := hask true
  have hbi := g2.bad_iff hV.e (fun v a b => mem_allL.2 ⟨a, b⟩)
  by_cases hs : Solv D
  case neg =>
    have hb : ¬ bad = -1 := fun e => hs (hbi.1 e)
    refine ⟨false, [], [], 41, hA.bind (Ev.pos (by decide) (g3.bind (Ev.pos (by rcases g2.res with ⟨a, _⟩ | ⟨a, _⟩; exact absurd a hb; exact a) (Ev.now _)))), fun h => absurd hw h, fun _ _ => ⟨rfl, rfl, rfl⟩, fun _ h => absurd h hs, fun _ h => absurd h hs, fun _ h => absurd h hs⟩
  have hb := hbi.2 hs
  subst hb
  have hok : bestOk n D w = true := by
    unfold bestOk
    simp only [Bool.and_eq_true, decide_eq_true_eq, List.all_eq_true]
    refine ⟨⟨⟨by omega, by have := hw.l; omega⟩, by omega⟩, fun d hd => ?_⟩
    have := edges_mem hV.e d hd
    exact ⟨by have := this.e; omega, by have := this.f; omega⟩
  obtain ⟨r, hr, hres⟩ := fill_ev hV.e hD hn0 hn (fi_start hw hn hs)
  refine ⟨r.1, r.2.1, r.2.2, 0, hA.bind (Ev.pos (by decide) (g3.bind (Ev.neg (by simp only; omega) (Ev.pos hok (hr.bind (Ev.now _)))))), fun h => absurd hw h, fun _ h => absurd hs h, fun _ _ => rfl, fun _ _ h => ?_, fun _ _ h => ?_⟩
  · rcases hres with ⟨a, _⟩ | ⟨a, b, c⟩
    · rw [a] at h; exact absurd h (by simp)
    · exact ⟨c, b.pot, fun k k0 k1 => by have := b.up k k0 k1; have := phi_nonneg r.2.2; omega⟩
  · rcases hres with ⟨_, b⟩ | ⟨a, _, _⟩
    · exact b
    · rw [a] at h; exact absurd h (by simp)
theorem Solv.zero {L : List S39} (h : Solv L) : ∃ x, x 0 = 0 ∧ Pot L x := by
  obtain ⟨x, hx⟩ := h
  exact ⟨fun v => x v - x 0, by simp only; omega, hx.shift _⟩
/-- The greatest sum, and that there is one. -/
structure MostVal (n : Nat) (D : List S39) (w : List Int) (a : Int) (b : Bool) : Prop where
  yes : b = true → ∃ F x, Feas n D w F ∧ Asg D x ∧ costF D F = a ∧ sumW n w x = a
  no : b = false → a = 0 ∧ ∀ F, ¬ Feas n D w F
structure MostIs (n : Nat) (D : List S39) (w : List Int) (a : Int) (b : Bool) (e : Int) : Prop where
  arg : ¬ Weighty n w → a = 0 ∧ b = false ∧ e = 1
  clash : Weighty n w → ¬ Solv D → a = 0 ∧ b = false ∧ e = 41
  ok : Weighty n w → Solv D → e = 0 ∧ MostVal n D w a b
  small : -(D.length * 1125899906842624) ≤ a ∧ a ≤ D.length * 1125899906842624
theorem MostVal.unique (hE : EdgesOk n D) {a a' : Int} {b b' : Bool} (h : MostVal n D w a b) (h' : MostVal n D w a' b') : a = a' ∧ b = b' := by
  cases b with
  | true =>
    obtain ⟨F, x, h1, h2, h3, h4⟩ := h.yes rfl
    cases b' with
    | true =>
      obtain ⟨F', x', h1', h2', h3', h4'⟩ := h'.yes rfl
      have := weak h1 hE h2'
      have := weak h1' hE h2
      exact ⟨by omega, rfl⟩
    | false => exact absurd h1 ((h'.no rfl).2 _)
  | false =>
    cases b' with
    | true =>
      obtain ⟨F', x', h1', h2', h3', h4'⟩ := h'.yes rfl
      exact absurd h1' ((h.no rfl).2 _)
    | false => exact ⟨by rw [(h.no rfl).1, (h'.no rfl).1], rfl⟩
theorem MostIs.unique (hE : EdgesOk n D) {a a' e e' : Int} {b b' : Bool} (h : MostIs n D w a b e) (h' : MostIs n D w a' b' e') : a = a' ∧ b = b' ∧ e = e' := by
  by_cases hw : Weighty n w
  · by_cases hs : Solv D
    · have h1 := h.ok hw hs
      have h2 := h'.ok hw hs
      have := h1.2.unique hE h2.2
      exact ⟨this.1, this.2, by omega⟩
    · obtain ⟨rfl, rfl, rfl⟩ := h.clash hw hs
      obtain ⟨rfl, rfl, rfl⟩ := h'.clash hw hs
      exact ⟨rfl, rfl, rfl⟩
  · obtain ⟨rfl, rfl, rfl⟩ := h.arg hw
    obtain ⟨rfl, rfl, rfl⟩ := h'.arg hw
    exact ⟨rfl, rfl, rfl⟩
theorem most_ev (hV : Valid n D) (w : List Int) : ∃ a b e, Ev (fun k => diffs_Most.f k n D w) (a, b, e) ∧ MostIs n D w a b e := by
  obtain ⟨is, F, W, e, h1, h2⟩ := best_ev hV w
  have hD := hV.l
  unfold diffs_Most.f
  by_cases hw : Weighty n w
  case neg =>
    obtain ⟨rfl, rfl, rfl⟩ := h2.arg hw
    exact ⟨0, false, 1, h1.bind (Ev.neg (by simp) (Ev.now _)), fun _ => ⟨rfl, rfl, rfl⟩, fun h => absurd h hw, fun h => absurd h hw, by omega⟩
  by_cases hs : Solv D
  case neg =>
    obtain ⟨rfl, rfl, rfl⟩ := h2.clash hw hs
    exact ⟨0, false, 41, h1.bind (Ev.neg (by simp) (Ev.now _)), fun h => absurd hw h, fun _ _ => ⟨rfl, rfl, rfl⟩, fun _ h => absurd h hs, by omega⟩
  obtain rfl := h2.ok hw hs
  cases is with
  | true =>
    obtain ⟨f1, f2, f3⟩ := h2.yes hw hs rfl
    obtain ⟨c1, c2⟩ := cost_ev hV.e f1.lf hD (fun k k0 k1 => ⟨f1.pos k k0 k1, f3 k k0 k1⟩) (n : Int)
    obtain ⟨x, x0, hx⟩ := f2.zero
    have hst := strong f1 hV.e x0 hx
    exact ⟨costF D F, true, 0, h1.bind (Ev.pos rfl (Ev.pos rfl (c1.bind (Ev.now _)))), fun h => absurd hw h, fun _ h => absurd hs h, fun _ _ => ⟨rfl, fun _ => ⟨F, x, f1, hst.1, rfl, hst.2⟩, fun h => by cases h⟩, c2⟩
  | false =>
    have hno := h2.no hw hs rfl
    exact ⟨0, false, 0, h1.bind (Ev.pos rfl (Ev.neg (by simp) (Ev.now _))), fun h => absurd hw h, fun _ h => absurd hs h, fun _ _ => ⟨rfl, ⟨fun h => (by cases h), fun _ => ⟨rfl, hno⟩⟩⟩, by omega⟩
end
end Go.Proofs.Ytpolojoeabmhdaa.A
namespace Go.Proofs.Ytpolojoeabmhdaa.A
open Go.RowKit Go.Proofs.YtpolojoeabmhdaaW.PrintWords Go.Proofs.YtpolojoeabmhdaaW.PrintLast Go.Proofs.YtpolojoeabmhdaaW.PrintMore
attribute [local go_sem] max2_int min2_int max_two min_two max_three min_three max_four min_four
def snowlinelaw04_small.f (a0_0 : Int) (l0_1 : List (S39)) : Option (Bool) := if a0_0 ≤ 16 then (some (decide ((l0_1.length : Int) ≤ 60))) else (some false)
set_option maxHeartbeats 8000000 in
set_option maxRecDepth 100000 in
theorem snowlinelaw04_small.calls (a0_0 : Int) (A0_1 : Option Addr) (c0_1 : Nat) (l0_1 : List (S39)) (r : Bool) (w : World) (hr0_1 : Kd.C k39 w A0_1 l0_1.length l0_1) (hc0_1 : l0_1.length ≤ c0_1) (h : snowlinelaw04_small.f a0_0 l0_1 = some r) :
    Calls Try.prog 23 #[.agg #[.int .i64 a0_0, .slice A0_1 l0_1.length c0_1]] w fun e w' => e = .returned (.bool r) ∧ Below w.heap.size w w' := by
  have hu24 := Try.underlying24; have HR0_1 := Z_ hr0_1; have HC0_1 := Z_ hc0_1; clear hr0_1 hc0_1; have HB := Z_ (Below.refl w.heap.size w); have H : (if a0_0 ≤ 16 then (some (decide ((l0_1.length : Int) ≤ 60))) else (some false)) = some r := h; clear h; by_cases c2 : a0_0 ≤ 16
  · rw [if_pos c2] at H
    have c2b0 : decide (a0_0 ≤ 16) = true := eT_ c2; clear c2; obtain rfl := oI_ H; go_enter Try.func23, Try.ntmps23; go_wp2_with (first | ((with_reducible refine gate_dst (N := 1) rfl ?_); (try (refine gate_guard (by rfl) ?_; dsimp only)); refine box_event ?hg (N := 1) ?hd (cs := #[.int .i64 a0_0, .slice A0_1 l0_1.length c0_1]) (t := 24) ?hr ?_; (case hd => rfl); (case hg => rfl); (case hr => first | (go_simp; done) | (go_simp; rfl)); intro gb338 hg w3 hbox hb; have n0_ := Z_ (fS_ (by repeat (first | (with_reducible first | exact HB.out | apply fA_ | apply pB_ | apply fD_) | exact HB.out)) hb); have n1_ := Z_ (hbox); have n2_ := Z_ ((by rw [hg]; exact (fZ_ (by repeat (first | (with_reducible first | exact HB.out | apply fA_ | apply pB_ | apply fD_) | exact HB.out))) : w.heap.size ≤ gb338)); have n3_ := Z_ ((by rw [hg]; exact (fZ_ (by repeat (first | (with_reducible first | exact HB.out | apply fA_ | apply pB_ | apply fD_) | exact HB.out))) : w.heap.size ≤ gb338)); clear HB; have HB := n0_; have BK338 := n1_; have GW338 := n2_; have GE338 := n3_; clear n0_ n1_ n2_ n3_; clear hb hbox hg; have hcz4_0 : w3.cell? ⟨gb338, 0, none⟩ = some (.int .i64 a0_0) := (bC_ BK338.out 0).trans rfl; have hcz4_1 : w3.cell? ⟨gb338, 1, none⟩ = some (.slice A0_1 l0_1.length c0_1) := (bC_ BK338.out 1).trans rfl; have hfz4_0 := bF_ BK338.out 0; have hfz4_1 := bF_ BK338.out 1)); go_ret; exact ⟨by first | rfl | (simp [errW_none, errW_some] <;> rfl) | (simp [*, errW_none, errW_some] <;> rfl), by repeat (first | (with_reducible first | exact HB.out | apply fA_ | apply pB_ | apply fD_ | refine fE_ ?_ GE338.out) | exact HB.out)⟩
  rw [if_neg c2] at H; have c2b0 : decide (a0_0 ≤ 16) = false := eF_ c2; clear c2; obtain rfl := oI_ H; go_enter Try.func23, Try.ntmps23; go_wp2_with (first | ((with_reducible refine gate_dst (N := 1) rfl ?_); (try (refine gate_guard (by rfl) ?_; dsimp only)); refine box_event ?hg (N := 1) ?hd (cs := #[.int .i64 a0_0, .slice A0_1 l0_1.length c0_1]) (t := 24) ?hr ?_; (case hd => rfl); (case hg => rfl); (case hr => first | (go_simp; done) | (go_simp; rfl)); intro gb338 hg w5 hbox hb; have n0_ := Z_ (fS_ (by repeat (first | (with_reducible first | exact HB.out | apply fA_ | apply pB_ | apply fD_) | exact HB.out)) hb); have n1_ := Z_ (hbox); have n2_ := Z_ ((by rw [hg]; exact (fZ_ (by repeat (first | (with_reducible first | exact HB.out | apply fA_ | apply pB_ | apply fD_) | exact HB.out))) : w.heap.size ≤ gb338)); have n3_ := Z_ ((by rw [hg]; exact (fZ_ (by repeat (first | (with_reducible first | exact HB.out | apply fA_ | apply pB_ | apply fD_) | exact HB.out))) : w.heap.size ≤ gb338)); clear HB; have HB := n0_; have BK338 := n1_; have GW338 := n2_; have GE338 := n3_; clear n0_ n1_ n2_ n3_; clear hb hbox hg; have hcz6_0 : w5.cell? ⟨gb338, 0, none⟩ = some (.int .i64 a0_0) := (bC_ BK338.out 0).trans rfl; have hcz6_1 : w5.cell? ⟨gb338, 1, none⟩ = some (.slice A0_1 l0_1.length c0_1) := (bC_ BK338.out 1).trans rfl; have hfz6_0 := bF_ BK338.out 0; have hfz6_1 := bF_ BK338.out 1)); go_ret; exact ⟨by first | rfl | (simp [errW_none, errW_some] <;> rfl) | (simp [*, errW_none, errW_some] <;> rfl), by repeat (first | (with_reducible first | exact HB.out | apply fA_ | apply pB_ | apply fD_ | refine fE_ ?_ GE338.out) | exact HB.out)⟩
def diffs_ends.f (k : Nat) (a0_0 : Int) (l0_1 : List (S39)) : Option (List Int × Int) := (diffs_reach.f k a0_0 l0_1 0).bind fun bt149 => (if bt149.2.2.2 = 0 then ((slices_Contains_bool_bool.f k bt149.2.1 false).bind fun t160 => (if t160 = true then (some (([] : List Int), 42)) else (some (bt149.1, 0)))) else (some (([] : List Int), bt149.2.2.2)))
theorem diffs_ends.mono : ∀ a0 a1 k, LeO (diffs_ends.f k a0 a1) (diffs_ends.f (k + 1) a0 a1) := by
 intro a0 a1 k; unfold diffs_ends.f; repeat' first | (with_reducible first | exact diffs_reach.mono _ _ _ _ | exact slices_Contains_bool_bool.mono _ _ _ | exact LeO.refl _ | exact LeO.none _ | refine LeO.ite ?_ ?_ | refine LeO.bind ?_ (fun _ => ?_)) | exact diffs_reach.mono _ _ _ _ | exact slices_Contains_bool_bool.mono _ _ _ | exact LeO.none _ | refine LeO.ite ?_ ?_ | refine LeO.bind ?_ (fun _ => ?_)
set_option maxHeartbeats 8000000 in
set_option maxRecDepth 100000 in
theorem diffs_ends.calls (k : Nat) (a0_0 : Int) (A0_1 : Option Addr) (c0_1 : Nat) (l0_1 : List (S39)) (r1 : List Int) (r2 : Int) (w : World) (hr0_1 : Kd.C k39 w A0_1 l0_1.length l0_1) (hc0_1 : l0_1.length ≤ c0_1) (h : diffs_ends.f k a0_0 l0_1 = some (r1, r2)) :
  Calls Try.prog 70 #[.agg #[.int .i64 a0_0, .slice A0_1 l0_1.length c0_1]] w fun e w' => ∃ v0_ : Value, e = .returned (.tuple #[v0_, .int .i64 r2]) ∧ Kd.R (Kd.int .i64) 3 w' w.heap.size (fun _ => True) v0_ r1 ∧ Below w.heap.size w w' := by
 have hu24 := Try.underlying24; have hu88 := Try.underlying88; have HR0_1 := Z_ hr0_1; have HC0_1 := Z_ hc0_1; clear hr0_1 hc0_1; have HB := Z_ (Below.refl w.heap.size w); have H : ((diffs_reach.f k a0_0 l0_1 0).bind fun bt149 => (if bt149.2.2.2 = 0 then ((slices_Contains_bool_bool.f k bt149.2.1 false).bind fun t160 => (if t160 = true then (some (([] : List Int), 42)) else (some (bt149.1, 0)))) else (some (([] : List Int), bt149.2.2.2)))) = some (r1, r2) := h; clear h; replace H := oS_.mp H; obtain ⟨⟨t149, t152, t155, t158⟩, A20, H⟩ := H; replace H : (if t158 = 0 then ((slices_Contains_bool_bool.f k t152 false).bind fun t160 => (if t160 = true then (some (([] : List Int), 42)) else (some (t149, 0)))) else (some (([] : List Int), t158))) = some (r1, r2) := H; have A2 := Z_ A20; clear A20; have HF3 := Z_ H; clear H; go_enter Try.func70, Try.ntmps70; go_upto_if 12 with (first | ((with_reducible refine gate_dst (N := 1) rfl ?_); refine box_event ?hg (N := 1) ?hd (cs := #[.int .i64 a0_0, .slice A0_1 l0_1.length c0_1]) (t := 24) ?hr ?_; (case hd => rfl); (case hg => rfl); (case hr => first | (go_simp; done) | (go_simp; rfl)); intro gb148 hg w4 hbox hb; have BK148 := Z_ (hbox); have GW148 := Z_ ((by rw [hg]; exact (fZ_ HB.out) : w.heap.size ≤ gb148)); have GE148 := Z_ ((by rw [hg]; exact (fZ_ HB.out) : w.heap.size ≤ gb148)); replace HB := Z_ (fS_ HB.out hb); clear hb hbox hg; have hcz5_0 : w4.cell? ⟨gb148, 0, none⟩ = some (.int .i64 a0_0) := (bC_ BK148.out 0).trans rfl; have hcz5_1 : w4.cell? ⟨gb148, 1, none⟩ = some (.slice A0_1 l0_1.length c0_1) := (bC_ BK148.out 1).trans rfl; have hfz5_0 := bF_ BK148.out 0; have hfz5_1 := bF_ BK148.out 1) | ((with_reducible refine gate_callee (f := 78) rfl ?_); refine goesL_ (some 8) rfl rfl Try.func78 (by kernel_rfl) rfl #[.agg #[.int .i64 a0_0, .slice A0_1 l0_1.length c0_1], .int .i64 0] rfl (by (try simp only [mT_, mC_, mN_]); first | done | rfl | (simp only [lD_, lT_]; rfl)) ?_; (with_reducible refine (diffs_reach.calls k a0_0 _ _ l0_1 0 t149 t152 t155 t158 _ ?side1 ?side2 A2.out).mono ?_); (case side1 => exact (cB_ HR0_1.out HB.out)); (case side2 => exact HC0_1.out); rintro e w6 ⟨v150, v153, v156, rfl, ho0, ho1, ho2, hb⟩; refine ⟨_, rfl, ?_⟩; have HO151 := Z_ (rL_ ho0 (fZ_ HB.out)); have HO154 := Z_ (rL_ ho1 (fZ_ HB.out)); have HO157 := Z_ (rL_ ho2 (fZ_ HB.out)); replace BK148 := Z_ (bB_ (g := gb148) (o := .cells #[.int .i64 a0_0, .slice A0_1 l0_1.length c0_1] 24 (0, 0)) BK148.out hb); replace HB := Z_ (fS_ HB.out hb); (try clear hb); (try clear hb2); (try clear hk); (try clear hi); (try clear ho0); (try clear ho1); (try clear ho2)) | ((with_reducible refine gate_dst (N := 4) rfl ?_); refine box_event ?hg (N := 4) ?hd (cs := #[.slice none 0 0, .slice none 0 0, .slice none 0 0]) (t := 88) ?hr ?_; (case hd => rfl); (case hg => rfl); (case hr => first | (go_simp; done) | (go_simp; rfl)); intro gb159 hg w7 hbox hb; replace HO151 := Z_ (rB_ HO151.out hb); replace HO154 := Z_ (rB_ HO154.out hb); replace HO157 := Z_ (rB_ HO157.out hb); have BK159 := Z_ (hbox); have GW159 := Z_ ((by rw [hg]; exact (fZ_ HB.out) : w.heap.size ≤ gb159)); have GE159 := Z_ ((by rw [hg]; exact (fZ_ HB.out) : w.heap.size ≤ gb159)); replace HB := Z_ (fS_ HB.out hb); have NB148_159 := Z_ ((by rw [hg]; exact Nat.ne_of_lt (blk_lt (g := gb148) (o := .cells #[.int .i64 a0_0, .slice A0_1 l0_1.length c0_1] 24 (0, 0)) BK148.out) : gb148 ≠ gb159)); have NB159_148 := Z_ ((by rw [hg]; exact Nat.ne_of_gt (blk_lt (g := gb148) (o := .cells #[.int .i64 a0_0, .slice A0_1 l0_1.length c0_1] 24 (0, 0)) BK148.out) : gb159 ≠ gb148)); replace BK148 := Z_ (bB_ (g := gb148) (o := .cells #[.int .i64 a0_0, .slice A0_1 l0_1.length c0_1] 24 (0, 0)) BK148.out hb); clear hb hbox hg; obtain ⟨Ao8, co8, eo8⟩ := rS_ HO151.out; subst eo8; have hnb9 := NB159_148.out; have hnc9 := NB148_159.out; have hcz10_0 : w7.cell? ⟨gb159, 0, none⟩ = some (.slice none 0 0) := (bC_ BK159.out 0).trans rfl; have hcz10_1 : w7.cell? ⟨gb159, 1, none⟩ = some (.slice none 0 0) := (bC_ BK159.out 1).trans rfl; have hcz10_2 : w7.cell? ⟨gb159, 2, none⟩ = some (.slice none 0 0) := (bC_ BK159.out 2).trans rfl; have hfz10_0 := bF_ BK159.out 0; have hfz10_1 := bF_ BK159.out 1; have hfz10_2 := bF_ BK159.out 2; obtain ⟨Ao11, co11, eo11⟩ := rS_ HO154.out; subst eo11; obtain ⟨Ao12, co12, eo12⟩ := rS_ HO157.out; subst eo12)); (try simp only [Act.put, sT_, sZ_, sS_])
 have H := HF3.out; clear HF3; by_cases c13 : t158 = 0
 ·rw [if_pos c13] at H
  have c13b0 : (t158 == 0) = true := beq_iff_eq.mpr c13; have c13b1 : (t158 != 0) = false := bne_eq_false_iff_eq.mpr c13; clear c13; (first | rw [c13b0] | (simp only [i64_w, i32_w]; rw [c13b0]) | skip)
  replace H := oS_.mp H; obtain ⟨t160, A140, H⟩ := H; replace H : (if t160 = true then (some (([] : List Int), 42)) else (some (t149, 0))) = some (r1, r2) := H; have A14 := Z_ A140; clear A140; have HF15 := Z_ H; clear H; have hnb16 := NB159_148.out; have hnc16 := NB148_159.out; have hcz17_0 : w7.cell? ⟨gb159, 0, none⟩ = some (.slice none 0 0) := (bC_ BK159.out 0).trans rfl; have hcz17_1 : w7.cell? ⟨gb159, 1, none⟩ = some (.slice none 0 0) := (bC_ BK159.out 1).trans rfl; have hcz17_2 : w7.cell? ⟨gb159, 2, none⟩ = some (.slice none 0 0) := (bC_ BK159.out 2).trans rfl; have hfz17_0 := bF_ BK159.out 0; have hfz17_1 := bF_ BK159.out 1; have hfz17_2 := bF_ BK159.out 2; go_upto_if 16 with (first | ((with_reducible refine gate_callee (f := 109) rfl ?_); refine goesL_ (some 16) rfl rfl Try.func109 (by kernel_rfl) rfl #[.slice Ao11 t152.length co11, .bool false] rfl (by (try simp only [mT_, mC_, mN_]); first | done | rfl | (simp only [lD_, lT_]; rfl)) ?_; (with_reducible refine (slices_Contains_bool_bool.calls k _ _ t152 false t160 _ ?side1 ?side2 A14.out).mono ?_); (case side1 => refine (rR_ (e := 4) (base := w.heap.size) (ok := fun k_ => True) (n := t152.length) (c := co11) ?_).2.2; exact (by (with_reducible repeat (first | apply rN_ | apply rD_)); exact (rM_ (rF_ (p := ⟨gb159, 2, none⟩) (rF_ (p := ⟨gb159, 1, none⟩) (rF_ (p := ⟨gb159, 0, none⟩) (Kd.R_types HO154.out BK159.out (by decide)) (fun _ hk => hk.2) (.slice Ao8 t149.length co8)) (fun _ hk => hk.2) (.slice Ao11 t152.length co11)) (fun _ hk => hk.2) (.slice Ao12 t155.length co12)) (fun _ h_ => h_.1)))); (case side2 => exact (rR_ HO154.out).2.1); rintro e w' ⟨rfl, ⟨nd, rfl⟩⟩; refine ⟨_, rfl, ?_⟩)); (try simp only [Act.put, sT_, sZ_, sS_])
  have H := HF15.out; clear HF15; by_cases c18 : t160 = true
  ·subst c18
   have H1 : (some (([] : List Int), 42)) = some (r1, r2) := by rw [if_pos rfl] at H; exact H
   clear H; have H := H1; clear H1; simp only [oJ_, pI_] at H; obtain ⟨rfl, rfl⟩ := H; go_wp2; go_ret2; exact ⟨_, by first | rfl | (simp [errW_none, errW_some] <;> rfl) | (simp [*, errW_none, errW_some] <;> rfl), by first | exact Kd.R_nil _ _ _ _ _ | exact Kd.N_nil _ _ _ _ _ | exact Kd.V_nil _ _ _ _ _ | exact Kd.Q_nil _ _ _ _ _ | exact Kd.S_nil _ _ _ _ _, by repeat (first | (with_reducible first | exact HB.out | apply fA_ | apply pB_ | apply fD_ | refine fE_ ?_ GE148.out | refine fE_ ?_ GE159.out) | exact HB.out)⟩
  replace c18 := bE_.mpr c18; subst c18; have H1 : (some (t149, 0)) = some (r1, r2) := by rw [if_neg (show ¬ (false = true) by decide)] at H; exact H
  clear H; have H := H1; clear H1; simp only [oJ_, pI_] at H; obtain ⟨rfl, rfl⟩ := H; have hnb19 := NB159_148.out; have hnc19 := NB148_159.out; have hcz20_0 : w7.cell? ⟨gb159, 0, none⟩ = some (.slice none 0 0) := (bC_ BK159.out 0).trans rfl; have hcz20_1 : w7.cell? ⟨gb159, 1, none⟩ = some (.slice none 0 0) := (bC_ BK159.out 1).trans rfl; have hcz20_2 : w7.cell? ⟨gb159, 2, none⟩ = some (.slice none 0 0) := (bC_ BK159.out 2).trans rfl; have hfz20_0 := bF_ BK159.out 0; have hfz20_1 := bF_ BK159.out 1; have hfz20_2 := bF_ BK159.out 2; go_wp2; go_ret2; exact ⟨_, by first | rfl | (simp [errW_none, errW_some] <;> rfl) | (simp [*, errW_none, errW_some] <;> rfl), by (with_reducible repeat (first | apply rN_ | apply rD_)); exact rM_ (rF_ (p := ⟨gb159, 2, none⟩) (rF_ (p := ⟨gb159, 1, none⟩) (rF_ (p := ⟨gb159, 0, none⟩) (Kd.R_types HO151.out BK159.out (by decide)) (fun _ hk => hk.2) (.slice Ao8 t149.length co8)) (fun _ hk => hk.2) (.slice Ao11 t152.length co11)) (fun _ hk => hk.2) (.slice Ao12 t155.length co12)) (fun _ hk => trivial), by repeat (first | (with_reducible first | exact HB.out | apply fA_ | apply pB_ | apply fD_ | refine fE_ ?_ GE148.out | refine fE_ ?_ GE159.out) | exact HB.out)⟩
 rw [if_neg c13] at H; have c13b0 : (t158 == 0) = false := beq_eq_false_iff_ne.mpr c13; have c13b1 : (t158 != 0) = true := bne_iff_ne.mpr c13; (first | rw [c13b0] | (simp only [i64_w, i32_w]; rw [c13b0]) | skip)
 simp only [oJ_, pI_] at H; obtain ⟨rfl, rfl⟩ := H; go_wp2; go_ret2; exact ⟨_, by first | rfl | (simp [errW_none, errW_some] <;> rfl) | (simp [*, errW_none, errW_some] <;> rfl), by first | exact Kd.R_nil _ _ _ _ _ | exact Kd.N_nil _ _ _ _ _ | exact Kd.V_nil _ _ _ _ _ | exact Kd.Q_nil _ _ _ _ _ | exact Kd.S_nil _ _ _ _ _, by repeat (first | (with_reducible first | exact HB.out | apply fA_ | apply pB_ | apply fD_ | refine fE_ ?_ GE148.out | refine fE_ ?_ GE159.out) | exact HB.out)⟩
def diffs_Top.f (k : Nat) (a0_0 : Int) (l0_1 : List (S39)) : Option (List Int × Int) := (diffs_Check.f k a0_0 l0_1).bind fun t162 => (if t162 = 0 then ((diffs_ends.f k a0_0 l0_1).bind fun bt163 => (some (bt163.1, bt163.2))) else (some (([] : List Int), t162)))
theorem diffs_Top.mono : ∀ a0 a1 k, LeO (diffs_Top.f k a0 a1) (diffs_Top.f (k + 1) a0 a1) := by
 intro a0 a1 k; unfold diffs_Top.f; repeat' first | (with_reducible first | exact diffs_Check.mono _ _ _ | exact diffs_ends.mono _ _ _ | exact LeO.refl _ | exact LeO.none _ | refine LeO.ite ?_ ?_ | refine LeO.bind ?_ (fun _ => ?_)) | exact diffs_Check.mono _ _ _ | exact diffs_ends.mono _ _ _ | exact LeO.none _ | refine LeO.ite ?_ ?_ | refine LeO.bind ?_ (fun _ => ?_)
set_option maxHeartbeats 8000000 in
set_option maxRecDepth 100000 in
theorem diffs_Top.calls (k : Nat) (a0_0 : Int) (A0_1 : Option Addr) (c0_1 : Nat) (l0_1 : List (S39)) (r1 : List Int) (r2 : Int) (w : World) (hr0_1 : Kd.C k39 w A0_1 l0_1.length l0_1) (hc0_1 : l0_1.length ≤ c0_1) (h : diffs_Top.f k a0_0 l0_1 = some (r1, r2)) :
  Calls Try.prog 24 #[.agg #[.int .i64 a0_0, .slice A0_1 l0_1.length c0_1]] w fun e w' => ∃ v0_ : Value, e = .returned (.tuple #[v0_, .int .i64 r2]) ∧ Kd.R (Kd.int .i64) 3 w' w.heap.size (fun _ => True) v0_ r1 ∧ Below w.heap.size w w' := by
 have hu24 := Try.underlying24; have HR0_1 := Z_ hr0_1; have HC0_1 := Z_ hc0_1; clear hr0_1 hc0_1; have HB := Z_ (Below.refl w.heap.size w); have H : ((diffs_Check.f k a0_0 l0_1).bind fun t162 => (if t162 = 0 then ((diffs_ends.f k a0_0 l0_1).bind fun bt163 => (some (bt163.1, bt163.2))) else (some (([] : List Int), t162)))) = some (r1, r2) := h; clear h; replace H := oS_.mp H; obtain ⟨t162, A20, H⟩ := H; replace H : (if t162 = 0 then ((diffs_ends.f k a0_0 l0_1).bind fun bt163 => (some (bt163.1, bt163.2))) else (some (([] : List Int), t162))) = some (r1, r2) := H; have A2 := Z_ A20; clear A20; have HF3 := Z_ H; clear H; go_enter Try.func24, Try.ntmps24; go_upto_if 8 with (first | ((with_reducible refine gate_dst (N := 1) rfl ?_); refine box_event ?hg (N := 1) ?hd (cs := #[.int .i64 a0_0, .slice A0_1 l0_1.length c0_1]) (t := 24) ?hr ?_; (case hd => rfl); (case hg => rfl); (case hr => first | (go_simp; done) | (go_simp; rfl)); intro gb161 hg w4 hbox hb; have BK161 := Z_ (hbox); have GW161 := Z_ ((by rw [hg]; exact (fZ_ HB.out) : w.heap.size ≤ gb161)); have GE161 := Z_ ((by rw [hg]; exact (fZ_ HB.out) : w.heap.size ≤ gb161)); replace HB := Z_ (fS_ HB.out hb); clear hb hbox hg; have hcz5_0 : w4.cell? ⟨gb161, 0, none⟩ = some (.int .i64 a0_0) := (bC_ BK161.out 0).trans rfl; have hcz5_1 : w4.cell? ⟨gb161, 1, none⟩ = some (.slice A0_1 l0_1.length c0_1) := (bC_ BK161.out 1).trans rfl; have hfz5_0 := bF_ BK161.out 0; have hfz5_1 := bF_ BK161.out 1) | ((with_reducible refine gate_callee (f := 29) rfl ?_); refine goesL_ (some 6) rfl rfl Try.func29 (by kernel_rfl) rfl #[.agg #[.int .i64 a0_0, .slice A0_1 l0_1.length c0_1]] rfl (by (try simp only [mT_, mC_, mN_]); first | done | rfl | (simp only [lD_, lT_]; rfl)) ?_; (with_reducible refine (diffs_Check.calls k a0_0 _ _ l0_1 t162 _ ?side1 ?side2 A2.out).mono ?_); (case side1 => exact (cB_ HR0_1.out HB.out)); (case side2 => exact HC0_1.out); rintro e w6 ⟨rfl, hb⟩; refine ⟨_, rfl, ?_⟩; replace BK161 := Z_ (bB_ (g := gb161) (o := .cells #[.int .i64 a0_0, .slice A0_1 l0_1.length c0_1] 24 (0, 0)) BK161.out hb); replace HB := Z_ (fS_ HB.out hb); (try clear hb); (try clear hb2); (try clear hk); (try clear hi))); (try simp only [Act.put, sT_, sZ_, sS_])
 have H := HF3.out; clear HF3; by_cases c7 : t162 = 0
 ·rw [if_pos c7] at H
  have c7b0 : (t162 == 0) = true := beq_iff_eq.mpr c7; have c7b1 : (t162 != 0) = false := bne_eq_false_iff_eq.mpr c7; clear c7; (first | rw [c7b0] | (simp only [i64_w, i32_w]; rw [c7b0]) | skip)
  replace H := oS_.mp H; obtain ⟨⟨t163, t166⟩, A80, H⟩ := H; replace H : (some (t163, t166)) = some (r1, r2) := H; have A8 := Z_ A80; clear A80; simp only [oJ_, pI_] at H; obtain ⟨rfl, rfl⟩ := H; have hcz9_0 : w6.cell? ⟨gb161, 0, none⟩ = some (.int .i64 a0_0) := (bC_ BK161.out 0).trans rfl; have hcz9_1 : w6.cell? ⟨gb161, 1, none⟩ = some (.slice A0_1 l0_1.length c0_1) := (bC_ BK161.out 1).trans rfl; have hfz9_0 := bF_ BK161.out 0; have hfz9_1 := bF_ BK161.out 1; go_wp2_with (first | ((with_reducible refine gate_callee (f := 70) rfl ?_); refine goesL_ (some 11) rfl rfl Try.func70 (by kernel_rfl) rfl #[.agg #[.int .i64 a0_0, .slice A0_1 l0_1.length c0_1]] rfl (by (try simp only [mT_, mC_, mN_]); first | done | rfl | (simp only [lD_, lT_]; rfl)) ?_; (with_reducible refine (diffs_ends.calls k a0_0 _ _ l0_1 t163 t166 _ ?side1 ?side2 A8.out).mono ?_); (case side1 => exact (cB_ HR0_1.out HB.out)); (case side2 => exact HC0_1.out); rintro e w10 ⟨v164, rfl, ho0, hb⟩; refine ⟨_, rfl, ?_⟩; have HO165 := Z_ (rL_ ho0 (fZ_ HB.out)); replace BK161 := Z_ (bB_ (g := gb161) (o := .cells #[.int .i64 a0_0, .slice A0_1 l0_1.length c0_1] 24 (0, 0)) BK161.out hb); replace HB := Z_ (fS_ HB.out hb); (try clear hb); (try clear hb2); (try clear hk); (try clear hi); (try clear ho0))); go_ret2; exact ⟨_, by first | rfl | (simp [errW_none, errW_some] <;> rfl) | (simp [*, errW_none, errW_some] <;> rfl), HO165.out, HB.out⟩
 rw [if_neg c7] at H; have c7b0 : (t162 == 0) = false := beq_eq_false_iff_ne.mpr c7; have c7b1 : (t162 != 0) = true := bne_iff_ne.mpr c7; (first | rw [c7b0] | (simp only [i64_w, i32_w]; rw [c7b0]) | skip)
 simp only [oJ_, pI_] at H; obtain ⟨rfl, rfl⟩ := H; go_wp2; go_ret2; exact ⟨_, by first | rfl | (simp [errW_none, errW_some] <;> rfl) | (simp [*, errW_none, errW_some] <;> rfl), by first | exact Kd.R_nil _ _ _ _ _ | exact Kd.N_nil _ _ _ _ _ | exact Kd.V_nil _ _ _ _ _ | exact Kd.Q_nil _ _ _ _ _ | exact Kd.S_nil _ _ _ _ _, HB.out⟩
def diffs_turned.l0 : Nat → List (S39) → Int → Int → Int → List (S39) → Option (Int × (List (S39)))
 | 0, _, _, _, _, _ => none
 | k + 1, x10, x11, x12, x170000, x170001 => if x12 < x11 then (if 0 ≤ x12 then (if x12 < (x10.length : Int) then (if x170001.length < 5864062014805 then (diffs_turned.l0 k x10 x11 (wrap64 (x12 + 1)) x170000 (x170001 ++ [(⟨(rd_T39 x10 x12).f1, (rd_T39 x10 x12).f0, (rd_T39 x10 x12).f2⟩ : S39)])) else (none)) else (none)) else (none)) else (some (x170000, x170001))
def diffs_turned.f (k : Nat) (a0_0 : Int) (l0_1 : List (S39)) : Option (Int × (List (S39))) := diffs_turned.l0 k l0_1 (l0_1.length : Int) 0 a0_0 ([] : List (S39))
theorem diffs_turned.mono_l : ∀ k, (∀ y0 y1 y2 y3 y4, LeO (diffs_turned.l0 k y0 y1 y2 y3 y4) (diffs_turned.l0 (k + 1) y0 y1 y2 y3 y4))
 | 0 => fun _ _ _ _ _ r h => by simp [diffs_turned.l0] at h
 | k + 1 => by
  have ih0 := diffs_turned.mono_l k; intro y0 y1 y2 y3 y4; unfold diffs_turned.l0; repeat' first | (with_reducible first | exact ih0 _ _ _ _ _ | exact LeO.refl _ | exact LeO.none _ | refine LeO.ite ?_ ?_ | refine LeO.bind ?_ (fun _ => ?_)) | exact ih0 _ _ _ _ _ | exact LeO.none _ | refine LeO.ite ?_ ?_ | refine LeO.bind ?_ (fun _ => ?_)
theorem diffs_turned.mono : ∀ a0 a1 k, LeO (diffs_turned.f k a0 a1) (diffs_turned.f (k + 1) a0 a1) := by
 intro a0 a1 k; have ih0 := diffs_turned.mono_l k; unfold diffs_turned.f; repeat' first | (with_reducible first | exact ih0 _ _ _ _ _ | exact LeO.refl _ | exact LeO.none _ | refine LeO.ite ?_ ?_ | refine LeO.bind ?_ (fun _ => ?_)) | exact ih0 _ _ _ _ _ | exact LeO.none _ | refine LeO.ite ?_ ?_ | refine LeO.bind ?_ (fun _ => ?_)
set_option maxHeartbeats 8000000 in
set_option maxRecDepth 100000 in
theorem diffs_turned.calls (k : Nat) (a0_0 : Int) (A0_1 : Option Addr) (c0_1 : Nat) (l0_1 : List (S39)) (r1 : Int) (r2 : List (S39)) (w : World) (hr0_1 : Kd.C k39 w A0_1 l0_1.length l0_1) (hc0_1 : l0_1.length ≤ c0_1) (h : diffs_turned.f k a0_0 l0_1 = some (r1, r2)) :
  Calls Try.prog 73 #[.agg #[.int .i64 a0_0, .slice A0_1 l0_1.length c0_1]] w fun e w' => ∃ v1_ : Value, e = .returned (.agg #[.int .i64 r1, v1_]) ∧ Kd.R k39 39 w' w.heap.size (fun _ => True) v1_ r2 ∧ Below w.heap.size w w' := by
 have hu24 := Try.underlying24; have hu39 := Try.underlying39; have HR0_1 := Z_ hr0_1; have HC0_1 := Z_ hc0_1; clear hr0_1 hc0_1; have HB := Z_ (Below.refl w.heap.size w); have H : (diffs_turned.l0 k l0_1 (l0_1.length : Int) 0 a0_0 ([] : List (S39))) = some (r1, r2) := h; clear h; have H' := Z_ H; clear H; go_enter Try.func73, Try.ntmps73; go_wp2_with (first | ((with_reducible refine gate_dst (N := 1) rfl ?_); refine box_event ?hg (N := 1) ?hd (cs := #[.int .i64 a0_0, .slice A0_1 l0_1.length c0_1]) (t := 24) ?hr ?_; (case hd => rfl); (case hg => rfl); (case hr => first | (go_simp; done) | (go_simp; rfl)); intro gb167 hg w2 hbox hb; have BK167 := Z_ (hbox); have GW167 := Z_ ((by rw [hg]; exact (fZ_ HB.out) : w.heap.size ≤ gb167)); have GE167 := Z_ ((by rw [hg]; exact (fZ_ HB.out) : w.heap.size ≤ gb167)); replace HB := Z_ (fS_ HB.out hb); clear hb hbox hg) | ((with_reducible refine gate_dst (N := 2) rfl ?_); refine box_event ?hg (N := 2) ?hd (cs := #[.int .i64 0, .slice none 0 0]) (t := 24) ?hr ?_; (case hd => rfl); (case hg => rfl); (case hr => first | (go_simp; done) | (go_simp; rfl)); intro gb168 hg w3 hbox hb; have BK168 := Z_ (hbox); have GW168 := Z_ ((by rw [hg]; exact (fZ_ HB.out) : w.heap.size ≤ gb168)); have GE168 := Z_ ((by rw [hg]; exact (fZ_ HB.out) : w.heap.size ≤ gb168)); replace HB := Z_ (fS_ HB.out hb); have NB167_168 := Z_ ((by rw [hg]; exact Nat.ne_of_lt (blk_lt (g := gb167) (o := .cells #[.int .i64 a0_0, .slice A0_1 l0_1.length c0_1] 24 (0, 0)) BK167.out) : gb167 ≠ gb168)); have NB168_167 := Z_ ((by rw [hg]; exact Nat.ne_of_gt (blk_lt (g := gb167) (o := .cells #[.int .i64 a0_0, .slice A0_1 l0_1.length c0_1] 24 (0, 0)) BK167.out) : gb168 ≠ gb167)); replace BK167 := Z_ (bB_ (g := gb167) (o := .cells #[.int .i64 a0_0, .slice A0_1 l0_1.length c0_1] 24 (0, 0)) BK167.out hb); clear hb hbox hg; have hnb4 := NB167_168.out; have hnc4 := NB168_167.out; have hcz5_0 : w3.cell? ⟨gb167, 0, none⟩ = some (.int .i64 a0_0) := (bC_ BK167.out 0).trans rfl; have hcz5_1 : w3.cell? ⟨gb167, 1, none⟩ = some (.slice A0_1 l0_1.length c0_1) := (bC_ BK167.out 1).trans rfl; have hfz5_0 := bF_ BK167.out 0; have hfz5_1 := bF_ BK167.out 1) | ((with_reducible refine gate_dst (N := 3) rfl ?_); refine box_event ?hg (N := 3) ?hd (cs := #[.int .i64 0, .slice none 0 0]) (t := 24) ?hr ?_; (case hd => rfl); (case hg => rfl); (case hr => first | (go_simp; done) | (go_simp; rfl)); intro gb169 hg w6 hbox hb; have BK169 := Z_ (hbox); have GW169 := Z_ ((by rw [hg]; exact (fZ_ HB.out) : w.heap.size ≤ gb169)); have GE169 := Z_ ((by rw [hg]; exact (fZ_ HB.out) : w.heap.size ≤ gb169)); replace HB := Z_ (fS_ HB.out hb); have NB167_169 := Z_ ((by rw [hg]; exact Nat.ne_of_lt (blk_lt (g := gb167) (o := .cells #[.int .i64 a0_0, .slice A0_1 l0_1.length c0_1] 24 (0, 0)) BK167.out) : gb167 ≠ gb169)); have NB169_167 := Z_ ((by rw [hg]; exact Nat.ne_of_gt (blk_lt (g := gb167) (o := .cells #[.int .i64 a0_0, .slice A0_1 l0_1.length c0_1] 24 (0, 0)) BK167.out) : gb169 ≠ gb167)); replace BK167 := Z_ (bB_ (g := gb167) (o := .cells #[.int .i64 a0_0, .slice A0_1 l0_1.length c0_1] 24 (0, 0)) BK167.out hb); have NB168_169 := Z_ ((by rw [hg]; exact Nat.ne_of_lt (blk_lt (g := gb168) (o := .cells #[.int .i64 0, .slice none 0 0] 24 (0, 0)) BK168.out) : gb168 ≠ gb169)); have NB169_168 := Z_ ((by rw [hg]; exact Nat.ne_of_gt (blk_lt (g := gb168) (o := .cells #[.int .i64 0, .slice none 0 0] 24 (0, 0)) BK168.out) : gb169 ≠ gb168)); replace BK168 := Z_ (bB_ (g := gb168) (o := .cells #[.int .i64 0, .slice none 0 0] 24 (0, 0)) BK168.out hb); clear hb hbox hg; have hnb7 := NB169_167.out; have hnc7 := NB167_169.out; have hnb8 := NB169_168.out; have hnc8 := NB168_169.out; have hcz9_0 : w6.cell? ⟨gb169, 0, none⟩ = some (.int .i64 0) := (bC_ BK169.out 0).trans rfl; have hcz9_1 : w6.cell? ⟨gb169, 1, none⟩ = some (.slice none 0 0) := (bC_ BK169.out 1).trans rfl; have hfz9_0 := bF_ BK169.out 0; have hfz9_1 := bF_ BK169.out 1; have hcz10_0 : w6.cell? ⟨gb167, 0, none⟩ = some (.int .i64 a0_0) := (bC_ BK167.out 0).trans rfl; have hcz10_1 : w6.cell? ⟨gb167, 1, none⟩ = some (.slice A0_1 l0_1.length c0_1) := (bC_ BK167.out 1).trans rfl; have hfz10_0 := bF_ BK167.out 0; have hfz10_1 := bF_ BK167.out 1)); go_loopg [12] k (fun kq v12 w' => ∃ (x12_1 : Int) (x170001_1 : List (S39)) (u170001 : Value), v12 = .int .i64 x12_1 ∧ Aside0 (diffs_turned.l0 kq l0_1 (l0_1.length : Int) x12_1 a0_0 x170001_1 = some (r1, r2)) ∧ Aside0 (kq ≤ k) ∧ Aside0 (Kd.R k39 39 w' w.heap.size (fun _ => True) u170001 x170001_1) ∧ Aside0 (w'.heap[gb167]? = some (.cells #[.int .i64 a0_0, (.slice A0_1 l0_1.length c0_1)] 24 (0, 0))) ∧ Aside0 (w'.heap[gb168]? = some (.cells #[.int .i64 0, (.slice none 0 0)] 24 (0, 0))) ∧ Aside0 (w'.heap[gb169]? = some (.cells #[.int .i64 a0_0, u170001] 24 (0, 0))) ∧ Aside0 (Below w.heap.size w w'))
 case atStart => exact ⟨(0), (([] : List (S39))), (.slice none 0 0), (by first | rfl | (simp; done) | (simp [*]; done)), H', ⟨nR_ _⟩, ⟨by first | exact Kd.R_nil _ _ _ _ _ | exact Kd.N_nil _ _ _ _ _ | exact Kd.V_nil _ _ _ _ _ | exact Kd.Q_nil _ _ _ _ _ | exact Kd.S_nil _ _ _ _ _⟩, ⟨by (with_reducible repeat (first | refine bN_ ?_ _ | refine bD_ ?_)); refine blk_far ?_ NB167_169.out _; (with_reducible repeat (first | refine bN_ ?_ _ | refine bD_ ?_)); refine blk_far ?_ NB167_169.out _; (with_reducible repeat (first | refine bN_ ?_ _ | refine bD_ ?_)); exact BK167.out⟩, ⟨by (with_reducible repeat (first | refine bN_ ?_ _ | refine bD_ ?_)); refine blk_far ?_ NB168_169.out _; (with_reducible repeat (first | refine bN_ ?_ _ | refine bD_ ?_)); refine blk_far ?_ NB168_169.out _; (with_reducible repeat (first | refine bN_ ?_ _ | refine bD_ ?_)); exact BK168.out⟩, ⟨by (with_reducible repeat (first | refine bN_ ?_ _ | refine bD_ ?_)); refine blk_put (cs := #[.int .i64 a0_0, .slice none 0 0]) ?_ 1 _ rfl; (with_reducible repeat (first | refine bN_ ?_ _ | refine bD_ ?_)); refine blk_put (cs := #[.int .i64 0, .slice none 0 0]) ?_ 0 _ rfl; (with_reducible repeat (first | refine bN_ ?_ _ | refine bD_ ?_)); exact BK169.out⟩, ⟨by repeat (first | (with_reducible first | exact HB.out | apply fA_ | apply pB_ | apply fD_ | refine fE_ ?_ GE167.out | refine fE_ ?_ GE168.out | refine fE_ ?_ GE169.out) | exact HB.out)⟩⟩
 case round =>
  clear H'; (try clear p2); (try clear c4); (try clear c7); (try clear c8); (try clear hcz10_0); (try clear hcz10_1); (try clear hcz5_0); (try clear hcz5_1); (try clear hcz9_0); (try clear hcz9_1); (try clear hfz10_0); (try clear hfz10_1); (try clear hfz5_0); (try clear hfz5_1); (try clear hfz9_0); (try clear hfz9_1)
  obtain ⟨x12_1, x170001_1, u170001, rfl, HA, HK1, HO_170001, BK167, BK168, BK169, HB⟩ := hrel
  cases gk with
  | zero => exact absurd HA.out (by simp [diffs_turned.l0])
  | succ k1 =>
   have H := HA.out; clear HA; simp only [diffs_turned.l0] at H; by_cases c11 : x12_1 < (l0_1.length : Int)
   ·rw [if_pos c11] at H
    have c11b0 : decide (x12_1 < (l0_1.length : Int)) = true := eT_ c11; clear c11; by_cases c12 : 0 ≤ x12_1
    ·rw [if_pos c12] at H
     have c12b0 : decide (0 ≤ x12_1) = true := eT_ c12; clear c12; by_cases c13 : x12_1 < (l0_1.length : Int)
     ·rw [if_pos c13] at H
      have c13b0 : decide (x12_1 < (l0_1.length : Int)) = true := eT_ c13; clear c13; by_cases c14 : x170001_1.length < 5864062014805
      ·rw [if_pos c14] at H
       have LMc14 := Z_ c14; clear c14; obtain ⟨y172, hy172⟩ : ∃ y_ : List (S39), y_ = (x170001_1 ++ [(⟨(rd_T39 l0_1 x12_1).f1, (rd_T39 l0_1 x12_1).f0, (rd_T39 l0_1 x12_1).f2⟩ : S39)]) := ⟨_, rfl⟩; replace H : (diffs_turned.l0 k1 l0_1 (l0_1.length : Int) (wrap64 (x12_1 + 1)) a0_0 y172) = some (r1, r2) := by first | (rw [hy172]; with_reducible exact H) | (have H2_ := (oB_ _ _).symm.trans H; rw [hy172]; with_reducible exact H2_) | (have H2_ := (oB_ _ _).symm.trans H; with_reducible exact H2_) | with_reducible exact H | (rw [hy172]; exact H) | exact H
       have Ny172 := Z_ hy172; clear hy172; have H' := Z_ H; clear H; have p170 : 0 ≤ (x12_1 : Int) := dT_ (by first | (with_reducible assumption) | assumption); have q170 : x12_1 < (l0_1.length : Int) := dT_ (by first | (with_reducible assumption) | assumption); obtain ⟨ad170, e170, hx170_0, hx170_1, hx170_2⟩ := at_T39 HR0_1.out x12_1 p170 q170; cases e170
       replace hx170_0 := (HB.out.cell (World.block_lt_of_cell? w _ hx170_0)).trans hx170_0; replace hx170_1 := (HB.out.cell (World.block_lt_of_cell? w _ hx170_1)).trans hx170_1; replace hx170_2 := (HB.out.cell (World.block_lt_of_cell? w _ hx170_2)).trans hx170_2; replace p170 := eq_true p170; replace q170 := eq_true q170; go_wp2_with (first | ((with_reducible refine gate_dst (N := 5) rfl ?_); refine box_event ?hg (N := 5) ?hd (cs := #[.int .i64 0, .int .i64 0, .int .i64 0]) (t := 39) ?hr ?_; (case hd => rfl); (case hg => rfl); (case hr => first | (go_simp; done) | (go_simp; rfl)); intro gb171 hg w15 hbox hb; replace HO_170001 := Z_ (rB_ (Kd.R_elderB (by (with_reducible repeat (first | apply rN_ | apply rD_)); exact HO_170001.out) gb171 (Nat.le_of_eq hg.symm)) hb); have BK171 := Z_ (hbox); have GW171 := Z_ ((by rw [hg]; exact (fZ_ (by repeat (first | (with_reducible first | exact HB.out | apply fA_ | apply pB_ | apply fD_ | refine fE_ ?_ GE167.out | refine fE_ ?_ GE168.out | refine fE_ ?_ GE169.out) | exact HB.out))) : w.heap.size ≤ gb171)); have GE171 := Z_ ((by rw [hg]; exact (fZ_ (by repeat (first | (with_reducible first | exact HB.out | apply fA_ | apply pB_ | apply fD_ | refine fE_ ?_ GE167.out | refine fE_ ?_ GE168.out | refine fE_ ?_ GE169.out) | exact HB.out))) : w.heap.size ≤ gb171)); replace HB := Z_ (fS_ (by repeat (first | (with_reducible first | exact HB.out | apply fA_ | apply pB_ | apply fD_ | refine fE_ ?_ GE167.out | refine fE_ ?_ GE168.out | refine fE_ ?_ GE169.out) | exact HB.out)) hb); have NB167_171 := Z_ ((by rw [hg]; exact Nat.ne_of_lt (blk_lt (g := gb167) (o := .cells #[.int .i64 a0_0, .slice (some ad170) l0_1.length c0_1] 24 (0, 0)) (by (with_reducible repeat (first | refine bN_ ?_ _ | refine bD_ ?_)); exact BK167.out)) : gb167 ≠ gb171)); have NB171_167 := Z_ ((by rw [hg]; exact Nat.ne_of_gt (blk_lt (g := gb167) (o := .cells #[.int .i64 a0_0, .slice (some ad170) l0_1.length c0_1] 24 (0, 0)) (by (with_reducible repeat (first | refine bN_ ?_ _ | refine bD_ ?_)); exact BK167.out)) : gb171 ≠ gb167)); replace BK167 := Z_ (bB_ (g := gb167) (o := .cells #[.int .i64 a0_0, .slice (some ad170) l0_1.length c0_1] 24 (0, 0)) (by (with_reducible repeat (first | refine bN_ ?_ _ | refine bD_ ?_)); exact BK167.out) hb); have NB168_171 := Z_ ((by rw [hg]; exact Nat.ne_of_lt (blk_lt (g := gb168) (o := .cells #[.int .i64 0, .slice none 0 0] 24 (0, 0)) (by (with_reducible repeat (first | refine bN_ ?_ _ | refine bD_ ?_)); exact BK168.out)) : gb168 ≠ gb171)); have NB171_168 := Z_ ((by rw [hg]; exact Nat.ne_of_gt (blk_lt (g := gb168) (o := .cells #[.int .i64 0, .slice none 0 0] 24 (0, 0)) (by (with_reducible repeat (first | refine bN_ ?_ _ | refine bD_ ?_)); exact BK168.out)) : gb171 ≠ gb168)); replace BK168 := Z_ (bB_ (g := gb168) (o := .cells #[.int .i64 0, .slice none 0 0] 24 (0, 0)) (by (with_reducible repeat (first | refine bN_ ?_ _ | refine bD_ ?_)); exact BK168.out) hb); have NB169_171 := Z_ ((by rw [hg]; exact Nat.ne_of_lt (blk_lt (g := gb169) (o := .cells #[.int .i64 a0_0, u170001] 24 (0, 0)) (by (with_reducible repeat (first | refine bN_ ?_ _ | refine bD_ ?_)); exact BK169.out)) : gb169 ≠ gb171)); have NB171_169 := Z_ ((by rw [hg]; exact Nat.ne_of_gt (blk_lt (g := gb169) (o := .cells #[.int .i64 a0_0, u170001] 24 (0, 0)) (by (with_reducible repeat (first | refine bN_ ?_ _ | refine bD_ ?_)); exact BK169.out)) : gb171 ≠ gb169)); replace BK169 := Z_ (bB_ (g := gb169) (o := .cells #[.int .i64 a0_0, u170001] 24 (0, 0)) (by (with_reducible repeat (first | refine bN_ ?_ _ | refine bD_ ?_)); exact BK169.out) hb); clear hb hbox hg; have hnb16 := NB171_167.out; have hnc16 := NB167_171.out; have hnb17 := NB171_168.out; have hnc17 := NB168_171.out; have hnb18 := NB171_169.out; have hnc18 := NB169_171.out; have hcz19_0 : w15.cell? ⟨gb171, 0, none⟩ = some (.int .i64 0) := (bC_ BK171.out 0).trans rfl; have hcz19_1 : w15.cell? ⟨gb171, 1, none⟩ = some (.int .i64 0) := (bC_ BK171.out 1).trans rfl; have hcz19_2 : w15.cell? ⟨gb171, 2, none⟩ = some (.int .i64 0) := (bC_ BK171.out 2).trans rfl; have hfz19_0 := bF_ BK171.out 0; have hfz19_1 := bF_ BK171.out 1; have hfz19_2 := bF_ BK171.out 2; have hnb20 := NB169_167.out; have hnc20 := NB167_169.out; have hnb21 := NB169_168.out; have hnc21 := NB168_169.out; have hcz22_0 : w15.cell? ⟨gb169, 0, none⟩ = some (.int .i64 a0_0) := (bC_ BK169.out 0).trans rfl; have hcz22_1 : w15.cell? ⟨gb169, 1, none⟩ = some (u170001) := (bC_ BK169.out 1).trans rfl; have hfz22_0 := bF_ BK169.out 0; have hfz22_1 := bF_ BK169.out 1) | ((with_reducible refine gate_builtin (b := .append) (xs := #[.tmp 17, .tmp 25]) rfl ?_); at_builtin; refine Kd.R_append k39 (w0 := w) w.heap.size rfl (.tmp 17) (.tmp 25) 22 39 (.agg #[(.int .i64 0), (.int .i64 0), (.int .i64 0)]) 24 rfl Try.underlying22 info39 rfl (by decide) (by omega) u170001 x170001_1 (⟨(rd_T39 l0_1 x12_1).f1, (rd_T39 l0_1 x12_1).f0, (rd_T39 l0_1 x12_1).f2⟩ : S39) [.int .i64 ((rd_T39 l0_1 x12_1).f1), .int .i64 ((rd_T39 l0_1 x12_1).f0), .int .i64 ((rd_T39 l0_1 x12_1).f2)] (fun k_ => k_ ≠ gb171) (fun _ => False) rfl (by first | (go_simp; done) | (go_simp; rfl)) ?aP (fun _ hk => hk.elim) ?aF ?aO ?aB ?aS ?aL ?_; (case aP => exact k39_mkM _ _ _ (⟨(rd_T39 l0_1 x12_1).f1, (rd_T39 l0_1 x12_1).f0, (rd_T39 l0_1 x12_1).f2⟩ : S39)); (case aB => exact (by repeat (first | (with_reducible first | exact HB.out | apply fA_ | apply pB_ | apply fD_ | refine fE_ ?_ GE167.out | refine fE_ ?_ GE168.out | refine fE_ ?_ GE169.out | refine fE_ ?_ GE171.out) | exact HB.out))); (case aF => exact (fun k_ hk => Kd.freshB (g := gb171) (o := .cells #[.int .i64 ((rd_T39 l0_1 x12_1).f0), .int .i64 ((rd_T39 l0_1 x12_1).f1), .int .i64 ((rd_T39 l0_1 x12_1).f2)] 39 (0, 0)) (by (with_reducible repeat (first | refine bN_ ?_ _ | refine bD_ ?_)); refine blk_put (cs := #[.int .i64 ((rd_T39 l0_1 x12_1).f0), .int .i64 ((rd_T39 l0_1 x12_1).f1), .int .i64 0]) ?_ 2 _ rfl; (with_reducible repeat (first | refine bN_ ?_ _ | refine bD_ ?_)); refine blk_put (cs := #[.int .i64 ((rd_T39 l0_1 x12_1).f0), .int .i64 0, .int .i64 0]) ?_ 1 _ rfl; (with_reducible repeat (first | refine bN_ ?_ _ | refine bD_ ?_)); refine blk_put (cs := #[.int .i64 0, .int .i64 0, .int .i64 0]) ?_ 0 _ rfl; (with_reducible repeat (first | refine bN_ ?_ _ | refine bD_ ?_)); exact BK171.out) k_ hk)); (case aO => exact (by (with_reducible repeat (first | apply rN_ | apply rD_)); exact rM_ (rF_ (p := ⟨gb171, 2, none⟩) (rF_ (p := ⟨gb171, 1, none⟩) (rF_ (p := ⟨gb171, 0, none⟩) (rM_ HO_170001.out (fun k_ hk => (⟨hk, hk.2⟩ : _ ∧ k_ ≠ gb171))) (fun _ hk => hk.2) (.int .i64 ((rd_T39 l0_1 x12_1).f0))) (fun _ hk => hk.2) (.int .i64 ((rd_T39 l0_1 x12_1).f1))) (fun _ hk => hk.2) (.int .i64 ((rd_T39 l0_1 x12_1).f2))) (fun _ hk => hk.1.2))); (case aS => exact (fZ_ (by repeat (first | (with_reducible first | exact HB.out | apply fA_ | apply pB_ | apply fD_ | refine fE_ ?_ GE167.out | refine fE_ ?_ GE168.out | refine fE_ ?_ GE169.out | refine fE_ ?_ GE171.out) | exact HB.out)))); (case aL => have := LMc14.out; omega); intro v173 w23 ho hb hg hat; rw [← Ny172.out] at ho; replace BK167 := Z_ (blk_grown (g := gb167) (o := .cells #[.int .i64 a0_0, .slice (some ad170) l0_1.length c0_1] 24 (0, 0)) (by (with_reducible repeat (first | refine bN_ ?_ _ | refine bD_ ?_)); refine blk_far ?_ NB167_171.out _; (with_reducible repeat (first | refine bN_ ?_ _ | refine bD_ ?_)); refine blk_far ?_ NB167_171.out _; (with_reducible repeat (first | refine bN_ ?_ _ | refine bD_ ?_)); refine blk_far ?_ NB167_171.out _; (with_reducible repeat (first | refine bN_ ?_ _ | refine bD_ ?_)); exact BK167.out) hg (Kd.R_ne HO_170001.out BK167.out (by decide))); replace BK168 := Z_ (blk_grown (g := gb168) (o := .cells #[.int .i64 0, .slice none 0 0] 24 (0, 0)) (by (with_reducible repeat (first | refine bN_ ?_ _ | refine bD_ ?_)); refine blk_far ?_ NB168_171.out _; (with_reducible repeat (first | refine bN_ ?_ _ | refine bD_ ?_)); refine blk_far ?_ NB168_171.out _; (with_reducible repeat (first | refine bN_ ?_ _ | refine bD_ ?_)); refine blk_far ?_ NB168_171.out _; (with_reducible repeat (first | refine bN_ ?_ _ | refine bD_ ?_)); exact BK168.out) hg (Kd.R_ne HO_170001.out BK168.out (by decide))); replace BK169 := Z_ (blk_grown (g := gb169) (o := .cells #[.int .i64 a0_0, u170001] 24 (0, 0)) (by (with_reducible repeat (first | refine bN_ ?_ _ | refine bD_ ?_)); refine blk_far ?_ NB169_171.out _; (with_reducible repeat (first | refine bN_ ?_ _ | refine bD_ ?_)); refine blk_far ?_ NB169_171.out _; (with_reducible repeat (first | refine bN_ ?_ _ | refine bD_ ?_)); refine blk_far ?_ NB169_171.out _; (with_reducible repeat (first | refine bN_ ?_ _ | refine bD_ ?_)); exact BK169.out) hg (Kd.R_ne HO_170001.out BK169.out (by decide))); replace BK171 := Z_ (blk_grown (g := gb171) (o := .cells #[.int .i64 ((rd_T39 l0_1 x12_1).f0), .int .i64 ((rd_T39 l0_1 x12_1).f1), .int .i64 ((rd_T39 l0_1 x12_1).f2)] 39 (0, 0)) (by (with_reducible repeat (first | refine bN_ ?_ _ | refine bD_ ?_)); refine blk_put (cs := #[.int .i64 ((rd_T39 l0_1 x12_1).f0), .int .i64 ((rd_T39 l0_1 x12_1).f1), .int .i64 0]) ?_ 2 _ rfl; (with_reducible repeat (first | refine bN_ ?_ _ | refine bD_ ?_)); refine blk_put (cs := #[.int .i64 ((rd_T39 l0_1 x12_1).f0), .int .i64 0, .int .i64 0]) ?_ 1 _ rfl; (with_reducible repeat (first | refine bN_ ?_ _ | refine bD_ ?_)); refine blk_put (cs := #[.int .i64 0, .int .i64 0, .int .i64 0]) ?_ 0 _ rfl; (with_reducible repeat (first | refine bN_ ?_ _ | refine bD_ ?_)); exact BK171.out) hg (Kd.R_away HO_170001.out (fun _ hk => hk.2))); replace HB := Z_ (hb); have HO174 := Z_ (ho); clear HO_170001; clear ho hb hg hat; obtain ⟨Ao24, co24, eo24⟩ := rS_ HO174.out; subst eo24; have hcz25_0 : w23.cell? ⟨gb169, 0, none⟩ = some (.int .i64 a0_0) := (bC_ BK169.out 0).trans rfl; have hcz25_1 : w23.cell? ⟨gb169, 1, none⟩ = some (u170001) := (bC_ BK169.out 1).trans rfl; have hfz25_0 := bF_ BK169.out 0; have hfz25_1 := bF_ BK169.out 1)); go_roundg k1
       case measure => have := HK1.out; omega
       case rel => exact ⟨(wrap64 (x12_1 + 1)), (y172), (.slice Ao24 y172.length co24), (by first | rfl | (simp; done) | (simp [*]; done)), H', ⟨by have := HK1.out; omega⟩, ⟨by (with_reducible repeat (first | apply rN_ | apply rD_)); exact rM_ (rF_ (p := ⟨gb169, 1, none⟩) (Kd.R_types HO174.out BK169.out (by decide)) (fun _ hk => hk.2) (.slice Ao24 y172.length co24)) (fun _ hk => trivial)⟩, ⟨by (with_reducible repeat (first | refine bN_ ?_ _ | refine bD_ ?_)); refine blk_far ?_ NB167_169.out _; (with_reducible repeat (first | refine bN_ ?_ _ | refine bD_ ?_)); exact BK167.out⟩, ⟨by (with_reducible repeat (first | refine bN_ ?_ _ | refine bD_ ?_)); refine blk_far ?_ NB168_169.out _; (with_reducible repeat (first | refine bN_ ?_ _ | refine bD_ ?_)); exact BK168.out⟩, ⟨by (with_reducible repeat (first | refine bN_ ?_ _ | refine bD_ ?_)); refine blk_put (cs := #[.int .i64 a0_0, u170001]) ?_ 1 _ rfl; (with_reducible repeat (first | refine bN_ ?_ _ | refine bD_ ?_)); exact BK169.out⟩, ⟨by repeat (first | (with_reducible first | exact HB.out | apply fA_ | apply pB_ | apply fD_ | refine fE_ ?_ GE167.out | refine fE_ ?_ GE168.out | refine fE_ ?_ GE169.out | refine fE_ ?_ GE171.out) | exact HB.out)⟩⟩
      rw [if_neg c14] at H; exact absurd H (by simp)
     rw [if_neg c13] at H; exact absurd H (by simp)
    rw [if_neg c12] at H; exact absurd H (by simp)
   rw [if_neg c11] at H; have c11b0 : decide (x12_1 < (l0_1.length : Int)) = false := eF_ c11; clear c11; simp only [oJ_, pI_] at H; obtain ⟨rfl, rfl⟩ := H; have hnb26 := NB169_167.out; have hnc26 := NB167_169.out; have hnb27 := NB169_168.out; have hnc27 := NB168_169.out; have hcz28_0 : wr.cell? ⟨gb169, 0, none⟩ = some (.int .i64 a0_0) := (bC_ BK169.out 0).trans rfl; have hcz28_1 : wr.cell? ⟨gb169, 1, none⟩ = some (u170001) := (bC_ BK169.out 1).trans rfl; have hfz28_0 := bF_ BK169.out 0; have hfz28_1 := bF_ BK169.out 1; have hnb29 := NB168_167.out; have hnc29 := NB167_168.out; have hcz30_0 : wr.cell? ⟨gb168, 0, none⟩ = some (.int .i64 0) := (bC_ BK168.out 0).trans rfl; have hcz30_1 : wr.cell? ⟨gb168, 1, none⟩ = some (.slice none 0 0) := (bC_ BK168.out 1).trans rfl; have hfz30_0 := bF_ BK168.out 0; have hfz30_1 := bF_ BK168.out 1; obtain ⟨Ao31, co31, eo31⟩ := rS_ HO_170001.out; subst eo31; go_wp2; refine bodyPost_ret (results_cell_row rfl _ _ gb168 24 #[.int .i64 a0_0, .slice Ao31 x170001_1.length co31] (0, 0) _ rfl (by (with_reducible repeat (first | refine bN_ ?_ _ | refine bD_ ?_)); refine blk_put (cs := #[.int .i64 a0_0, .slice none 0 0]) ?_ 1 _ rfl; (with_reducible repeat (first | refine bN_ ?_ _ | refine bD_ ?_)); refine blk_put (cs := #[.int .i64 0, .slice none 0 0]) ?_ 0 _ rfl; (with_reducible repeat (first | refine bN_ ?_ _ | refine bD_ ?_)); exact BK168.out) Try.underlying24 rfl (by kernel_rfl)) rfl ?_; exact ⟨_, by first | rfl | (simp [errW_none, errW_some] <;> rfl) | (simp [*, errW_none, errW_some] <;> rfl), by (with_reducible repeat (first | apply rN_ | apply rD_)); exact rM_ (rF_ (p := ⟨gb168, 1, none⟩) (rF_ (p := ⟨gb168, 0, none⟩) (Kd.R_types HO_170001.out BK168.out (by decide)) (fun _ hk => hk.2) (.int .i64 a0_0)) (fun _ hk => hk.2) (.slice Ao31 x170001_1.length co31)) (fun _ hk => trivial), by repeat (first | (with_reducible first | exact HB.out | apply fA_ | apply pB_ | apply fD_ | refine fE_ ?_ GE167.out | refine fE_ ?_ GE168.out | refine fE_ ?_ GE169.out) | exact HB.out)⟩
def diffs_Bottom.l0 : Nat → List Int → Int → Int → Int → Option (List Int × Int)
 | 0, _, _, _, _ => none
 | k + 1, x5, x6, x20, x21 => if x21 < x20 then (if 0 ≤ x21 then (if x21 < (x5.length : Int) then (diffs_Bottom.l0 k (x5.set (x21 : Int).toNat (wrap64 (-(rd x5 x21)))) x6 x20 (wrap64 (x21 + 1))) else (none)) else (none)) else (some (x5, x6))
def diffs_Bottom.f (k : Nat) (a0_0 : Int) (l0_1 : List (S39)) : Option (List Int × Int) := (diffs_Check.f k a0_0 l0_1).bind fun t176 => (if t176 = 0 then ((diffs_turned.f k a0_0 l0_1).bind fun bt177 => ((diffs_ends.f k bt177.1 bt177.2).bind fun bt181 => (diffs_Bottom.l0 k bt181.1 bt181.2 (bt181.1.length : Int) 0))) else (some (([] : List Int), t176)))
theorem diffs_Bottom.mono_l : ∀ k, (∀ y0 y1 y2 y3, LeO (diffs_Bottom.l0 k y0 y1 y2 y3) (diffs_Bottom.l0 (k + 1) y0 y1 y2 y3))
 | 0 => fun _ _ _ _ r h => by simp [diffs_Bottom.l0] at h
 | k + 1 => by
  have ih0 := diffs_Bottom.mono_l k; intro y0 y1 y2 y3; unfold diffs_Bottom.l0; repeat' first | (with_reducible first | exact ih0 _ _ _ _ | exact diffs_Check.mono _ _ _ | exact diffs_ends.mono _ _ _ | exact diffs_turned.mono _ _ _ | exact LeO.refl _ | exact LeO.none _ | refine LeO.ite ?_ ?_ | refine LeO.bind ?_ (fun _ => ?_)) | exact ih0 _ _ _ _ | exact diffs_Check.mono _ _ _ | exact diffs_ends.mono _ _ _ | exact diffs_turned.mono _ _ _ | exact LeO.none _ | refine LeO.ite ?_ ?_ | refine LeO.bind ?_ (fun _ => ?_)
theorem diffs_Bottom.mono : ∀ a0 a1 k, LeO (diffs_Bottom.f k a0 a1) (diffs_Bottom.f (k + 1) a0 a1) := by
 intro a0 a1 k; have ih0 := diffs_Bottom.mono_l k; unfold diffs_Bottom.f; repeat' first | (with_reducible first | exact ih0 _ _ _ _ | exact diffs_Check.mono _ _ _ | exact diffs_ends.mono _ _ _ | exact diffs_turned.mono _ _ _ | exact LeO.refl _ | exact LeO.none _ | refine LeO.ite ?_ ?_ | refine LeO.bind ?_ (fun _ => ?_)) | exact ih0 _ _ _ _ | exact diffs_Check.mono _ _ _ | exact diffs_ends.mono _ _ _ | exact diffs_turned.mono _ _ _ | exact LeO.none _ | refine LeO.ite ?_ ?_ | refine LeO.bind ?_ (fun _ => ?_)
set_option maxHeartbeats 8000000 in
set_option maxRecDepth 100000 in
theorem diffs_Bottom.calls (k : Nat) (a0_0 : Int) (A0_1 : Option Addr) (c0_1 : Nat) (l0_1 : List (S39)) (r1 : List Int) (r2 : Int) (w : World) (hr0_1 : Kd.C k39 w A0_1 l0_1.length l0_1) (hc0_1 : l0_1.length ≤ c0_1) (h : diffs_Bottom.f k a0_0 l0_1 = some (r1, r2)) :
  Calls Try.prog 26 #[.agg #[.int .i64 a0_0, .slice A0_1 l0_1.length c0_1]] w fun e w' => ∃ v0_ : Value, e = .returned (.tuple #[v0_, .int .i64 r2]) ∧ Kd.R (Kd.int .i64) 3 w' w.heap.size (fun _ => True) v0_ r1 ∧ Below w.heap.size w w' := by
 have hu24 := Try.underlying24; have HR0_1 := Z_ hr0_1; have HC0_1 := Z_ hc0_1; clear hr0_1 hc0_1; have HB := Z_ (Below.refl w.heap.size w); have H : ((diffs_Check.f k a0_0 l0_1).bind fun t176 => (if t176 = 0 then ((diffs_turned.f k a0_0 l0_1).bind fun bt177 => ((diffs_ends.f k bt177.1 bt177.2).bind fun bt181 => (diffs_Bottom.l0 k bt181.1 bt181.2 (bt181.1.length : Int) 0))) else (some (([] : List Int), t176)))) = some (r1, r2) := h; clear h; replace H := oS_.mp H; obtain ⟨t176, A20, H⟩ := H; replace H : (if t176 = 0 then ((diffs_turned.f k a0_0 l0_1).bind fun bt177 => ((diffs_ends.f k bt177.1 bt177.2).bind fun bt181 => (diffs_Bottom.l0 k bt181.1 bt181.2 (bt181.1.length : Int) 0))) else (some (([] : List Int), t176))) = some (r1, r2) := H; have A2 := Z_ A20; clear A20; have HF3 := Z_ H; clear H; go_enter Try.func26, Try.ntmps26; go_upto_if 11 with (first | ((with_reducible refine gate_dst (N := 1) rfl ?_); refine box_event ?hg (N := 1) ?hd (cs := #[.int .i64 a0_0, .slice A0_1 l0_1.length c0_1]) (t := 24) ?hr ?_; (case hd => rfl); (case hg => rfl); (case hr => first | (go_simp; done) | (go_simp; rfl)); intro gb175 hg w4 hbox hb; have BK175 := Z_ (hbox); have GW175 := Z_ ((by rw [hg]; exact (fZ_ HB.out) : w.heap.size ≤ gb175)); have GE175 := Z_ ((by rw [hg]; exact (fZ_ HB.out) : w.heap.size ≤ gb175)); replace HB := Z_ (fS_ HB.out hb); clear hb hbox hg; have hcz5_0 : w4.cell? ⟨gb175, 0, none⟩ = some (.int .i64 a0_0) := (bC_ BK175.out 0).trans rfl; have hcz5_1 : w4.cell? ⟨gb175, 1, none⟩ = some (.slice A0_1 l0_1.length c0_1) := (bC_ BK175.out 1).trans rfl; have hfz5_0 := bF_ BK175.out 0; have hfz5_1 := bF_ BK175.out 1) | ((with_reducible refine gate_callee (f := 29) rfl ?_); refine goesL_ (some 9) rfl rfl Try.func29 (by kernel_rfl) rfl #[.agg #[.int .i64 a0_0, .slice A0_1 l0_1.length c0_1]] rfl (by (try simp only [mT_, mC_, mN_]); first | done | rfl | (simp only [lD_, lT_]; rfl)) ?_; (with_reducible refine (diffs_Check.calls k a0_0 _ _ l0_1 t176 _ ?side1 ?side2 A2.out).mono ?_); (case side1 => exact (cB_ HR0_1.out HB.out)); (case side2 => exact HC0_1.out); rintro e w6 ⟨rfl, hb⟩; refine ⟨_, rfl, ?_⟩; replace BK175 := Z_ (bB_ (g := gb175) (o := .cells #[.int .i64 a0_0, .slice A0_1 l0_1.length c0_1] 24 (0, 0)) BK175.out hb); replace HB := Z_ (fS_ HB.out hb); (try clear hb); (try clear hb2); (try clear hk); (try clear hi))); (try simp only [Act.put, sT_, sZ_, sS_])
 have H := HF3.out; clear HF3; by_cases c7 : t176 = 0
 ·rw [if_pos c7] at H
  have c7b0 : (t176 == 0) = true := beq_iff_eq.mpr c7; have c7b1 : (t176 != 0) = false := bne_eq_false_iff_eq.mpr c7; clear c7; (first | rw [c7b0] | (simp only [i64_w, i32_w]; rw [c7b0]) | skip)
  replace H := oS_.mp H; obtain ⟨⟨t177, t178⟩, A80, H⟩ := H; replace H : ((diffs_ends.f k t177 t178).bind fun bt181 => (diffs_Bottom.l0 k bt181.1 bt181.2 (bt181.1.length : Int) 0)) = some (r1, r2) := H; have A8 := Z_ A80; clear A80; replace H := oS_.mp H; obtain ⟨⟨t181, t184⟩, A90, H⟩ := H; replace H : (diffs_Bottom.l0 k t181 t184 (t181.length : Int) 0) = some (r1, r2) := H; have A9 := Z_ A90; clear A90; have H' := Z_ H; clear H; have hcz10_0 : w6.cell? ⟨gb175, 0, none⟩ = some (.int .i64 a0_0) := (bC_ BK175.out 0).trans rfl; have hcz10_1 : w6.cell? ⟨gb175, 1, none⟩ = some (.slice A0_1 l0_1.length c0_1) := (bC_ BK175.out 1).trans rfl; have hfz10_0 := bF_ BK175.out 0; have hfz10_1 := bF_ BK175.out 1; go_wp2_with (first | ((with_reducible refine gate_callee (f := 73) rfl ?_); refine goesL_ (some 15) rfl rfl Try.func73 (by kernel_rfl) rfl #[.agg #[.int .i64 a0_0, .slice A0_1 l0_1.length c0_1]] rfl (by (try simp only [mT_, mC_, mN_]); first | done | rfl | (simp only [lD_, lT_]; rfl)) ?_; (with_reducible refine (diffs_turned.calls k a0_0 _ _ l0_1 t177 t178 _ ?side1 ?side2 A8.out).mono ?_); (case side1 => exact (cB_ HR0_1.out HB.out)); (case side2 => exact HC0_1.out); rintro e w11 ⟨v179, rfl, ho0, hb⟩; refine ⟨_, rfl, ?_⟩; have HO180 := Z_ (rL_ ho0 (fZ_ HB.out)); replace BK175 := Z_ (bB_ (g := gb175) (o := .cells #[.int .i64 a0_0, .slice A0_1 l0_1.length c0_1] 24 (0, 0)) BK175.out hb); replace HB := Z_ (fS_ HB.out hb); (try clear hb); (try clear hb2); (try clear hk); (try clear hi); (try clear ho0); obtain ⟨Ao12, co12, eo12⟩ := rS_ HO180.out; subst eo12) | ((with_reducible refine gate_callee (f := 70) rfl ?_); refine goesL_ (some 16) rfl rfl Try.func70 (by kernel_rfl) rfl #[.agg #[.int .i64 t177, .slice Ao12 t178.length co12]] rfl (by (try simp only [mT_, mC_, mN_]); first | done | rfl | (simp only [lD_, lT_]; rfl)) ?_; (with_reducible refine (diffs_ends.calls k t177 _ _ t178 t181 t184 _ ?side1 ?side2 A9.out).mono ?_); (case side1 => repeat (first | exact (rR_ HO180.out).2.2 | (with_reducible refine Kd.C_alloc ?_ _) | (with_reducible refine Kd.C_drewN ?_ _) | (with_reducible refine Kd.C_drew ?_))); (case side2 => exact (rR_ HO180.out).2.1); rintro e w13 ⟨v182, rfl, ho0, hb⟩; refine ⟨_, rfl, ?_⟩; replace HO180 := Z_ (rB_ HO180.out hb); have HO183 := Z_ (rL_ ho0 (fZ_ HB.out)); replace BK175 := Z_ (bB_ (g := gb175) (o := .cells #[.int .i64 a0_0, .slice A0_1 l0_1.length c0_1] 24 (0, 0)) BK175.out hb); replace HB := Z_ (fS_ HB.out hb); (try clear hb); (try clear hb2); (try clear hk); (try clear hi); (try clear ho0); obtain ⟨Ao14, co14, eo14⟩ := rS_ HO183.out; subst eo14)); go_loopg [21] k (fun kq v21 w' => ∃ (x5_1 : List Int) (x21_1 : Int), v21 = .int .i64 x21_1 ∧ Aside0 (diffs_Bottom.l0 kq x5_1 t184 (t181.length : Int) x21_1 = some (r1, r2)) ∧ Aside0 (kq ≤ k) ∧ Aside0 (Kd.R (Kd.int .i64) 3 w' w.heap.size (fun _ => True) (.slice Ao14 t181.length co14) x5_1) ∧ Aside0 (w'.heap[gb175]? = some (.cells #[.int .i64 a0_0, (.slice A0_1 l0_1.length c0_1)] 24 (0, 0))) ∧ Aside0 (Below w.heap.size w w'))
  case atStart => exact ⟨(t181), (0), (by first | rfl | (simp; done) | (simp [*]; done)), H', ⟨nR_ _⟩, ⟨HO183.out⟩, ⟨BK175.out⟩, ⟨HB.out⟩⟩
  case round =>
   clear H'; (try clear c2); (try clear p2); (try clear c7); (try clear c7b0); (try clear c7b1); (try clear hcz10_0); (try clear hcz10_1); (try clear hcz5_0); (try clear hcz5_1); (try clear hfz10_0); (try clear hfz10_1); (try clear hfz5_0); (try clear hfz5_1)
   obtain ⟨x5_1, x21_1, rfl, HA, HK1, HO_5, BK175, HB⟩ := hrel; have hl5_1 := (rR_ HO_5.out).1; rw [hl5_1] at HO_5; (try simp only [hl5_1])
   (try simp only [hl5_1] at BK175)
   cases gk with
   | zero => exact absurd HA.out (by simp [diffs_Bottom.l0])
   | succ k1 =>
    have H := HA.out; clear HA; simp only [diffs_Bottom.l0] at H; by_cases c15 : x21_1 < (t181.length : Int)
    ·rw [if_pos c15] at H
     have c15b0 : decide (x21_1 < (t181.length : Int)) = true := eT_ c15; clear c15; by_cases c16 : 0 ≤ x21_1
     ·rw [if_pos c16] at H
      have c16b0 : decide (0 ≤ x21_1) = true := eT_ c16; clear c16; by_cases c17 : x21_1 < (x5_1.length : Int)
      ·rw [if_pos c17] at H
       have c17b0 : decide (x21_1 < (x5_1.length : Int)) = true := eT_ c17; clear c17; obtain ⟨y186, hy186⟩ : ∃ y_ : List Int, y_ = (x5_1.set (x21_1 : Int).toNat (wrap64 (-(rd x5_1 x21_1)))) := ⟨_, rfl⟩; replace H : (diffs_Bottom.l0 k1 y186 t184 (t181.length : Int) (wrap64 (x21_1 + 1))) = some (r1, r2) := by first | (rw [hy186]; with_reducible exact H) | (have H2_ := (oB_ _ _).symm.trans H; rw [hy186]; with_reducible exact H2_) | (have H2_ := (oB_ _ _).symm.trans H; with_reducible exact H2_) | with_reducible exact H | (rw [hy186]; exact H) | exact H
       have Ny186 := Z_ hy186; clear hy186; have H' := Z_ H; clear H; have p185 : 0 ≤ (x21_1 : Int) := dT_ (by first | (with_reducible assumption) | assumption); have q185 : x21_1 < (x5_1.length : Int) := dT_ (by first | (with_reducible assumption) | assumption); obtain ⟨ad185, e185, hx185_0⟩ := Kd.at_int (rR_ HO_5.out).2.2 x21_1 p185 q185; cases e185
       replace p185 := eq_true p185; replace q185 := eq_true q185; have p18 : 0 ≤ (x21_1 : Int) := dT_ (by first | (with_reducible assumption) | assumption); have q18 : (x21_1 : Int) < ((x5_1.length : Int) : Int) := dT_ (by first | (with_reducible assumption) | assumption); obtain ⟨go18, co18, eo18, gb18, gl18, cl18, HG18⟩ := Kd.R_form HO_5.out (by omega); (first | cases eo18 | (injection eo18 with ea_ en_ ec_; (first | subst ea_ | (injection ea_ with ea_; subst ea_)); subst ec_; clear en_))
       have GB18 := Z_ gb18; have GG18 := Z_ HG18; clear gb18 gl18 HG18; (first | simp only [add_plain] at hx185_0 | skip)
       obtain ⟨hx18_0, hf18_0⟩ := Kd.R_celln 0 HO_5.out (x21_1 : Int) p18 q18; replace p18 := eq_true p18; replace q18 := eq_true q18; have HP19 := Kd.R_putg HO_5.out (x21_1 : Int) (wrap64 (-(rd x5_1 x21_1))); go_wp2_with (first | ((with_reducible refine gate_store (t := 3) (p := 31) rfl ?_); refine store_event (t := 3) (p := 31) (v := ?vo_w20) (w1 := (wr.setCell ⟨go18, (x21_1 : Int).toNat, none⟩ (.int .i64 (wrap64 (-(rd x5_1 x21_1)))))) ?hg ?ho ?hn ?hr ?_; (case ho => rfl); (case hg => rfl); (case hn => rfl); (case hr => first | (go_simp; done) | (go_simp; rfl)); intro w20 hw; have hg : wr.grownBy w20 (some go18) := (by rw [hw]; exact HP19.2); have hp_ : Kd.R (Kd.int .i64) 3 w20 w.heap.size (fun _ => True) (.slice (some ⟨go18, 0, none⟩) x5_1.length co14) y186 := (by rw [hw, Ny186.out]; exact HP19.1); clear HP19; replace BK175 := Z_ (blk_grown (g := gb175) (o := .cells #[.int .i64 a0_0, .slice A0_1 l0_1.length c0_1] 24 (0, 0)) BK175.out hg (Kd.R_ne HO_5.out BK175.out (by decide))); replace HO_5 := Z_ (hp_); replace HB := Z_ ((by rw [hw]; exact fE_ (HB.out) GB18.out : Below w.heap.size w w20)); clear hg hw hp_)); (try simp only [← hl5_1])
       go_roundg k1
       case measure => have := HK1.out; omega
       case rel => exact ⟨(y186), (wrap64 (x21_1 + 1)), (by first | rfl | (simp; done) | (simp [*]; done)), H', ⟨by have := HK1.out; omega⟩, ⟨by (try simp only [hl5_1]); (with_reducible repeat (first | apply rN_ | apply rD_)); exact HO_5.out⟩, ⟨by (try simp only [hl5_1]); (with_reducible repeat (first | refine bN_ ?_ _ | refine bD_ ?_)); exact BK175.out⟩, ⟨HB.out⟩⟩
      rw [if_neg c17] at H; exact absurd H (by simp)
     rw [if_neg c16] at H; exact absurd H (by simp)
    rw [if_neg c15] at H; have c15b0 : decide (x21_1 < (t181.length : Int)) = false := eF_ c15; have c15z := c15b0; simp only [hl5_1] at c15z; clear c15; simp only [oJ_, pI_] at H; obtain ⟨rfl, rfl⟩ := H; go_wp2; go_ret2; exact ⟨_, by first | rfl | (simp [errW_none, errW_some] <;> rfl) | (simp [*, errW_none, errW_some] <;> rfl), HO_5.out, HB.out⟩
 rw [if_neg c7] at H; have c7b0 : (t176 == 0) = false := beq_eq_false_iff_ne.mpr c7; have c7b1 : (t176 != 0) = true := bne_iff_ne.mpr c7; (first | rw [c7b0] | (simp only [i64_w, i32_w]; rw [c7b0]) | skip)
 simp only [oJ_, pI_] at H; obtain ⟨rfl, rfl⟩ := H; go_wp2; go_ret2; exact ⟨_, by first | rfl | (simp [errW_none, errW_some] <;> rfl) | (simp [*, errW_none, errW_some] <;> rfl), by first | exact Kd.R_nil _ _ _ _ _ | exact Kd.N_nil _ _ _ _ _ | exact Kd.V_nil _ _ _ _ _ | exact Kd.Q_nil _ _ _ _ _ | exact Kd.S_nil _ _ _ _ _, HB.out⟩
def slices_Equal_int_int.l0 : Nat → List Int → List Int → Int → Int → Option (Bool)
 | 0, _, _, _, _ => none
 | k + 1, x0, x1, x12, x13 => if x13 < x12 then (if 0 ≤ x13 then (if x13 < (x0.length : Int) then (if x13 < (x1.length : Int) then (if (rd x0 x13) = (rd x1 x13) then (slices_Equal_int_int.l0 k x0 x1 x12 (wrap64 (x13 + 1))) else (some false)) else (none)) else (none)) else (none)) else (some true)
def slices_Equal_int_int.f (k : Nat) (l0 : List Int) (l1 : List Int) : Option (Bool) := if (l0.length : Int) = (l1.length : Int) then (slices_Equal_int_int.l0 k l0 l1 (l0.length : Int) 0) else (some false)
theorem slices_Equal_int_int.mono_l : ∀ k, (∀ y0 y1 y2 y3, LeO (slices_Equal_int_int.l0 k y0 y1 y2 y3) (slices_Equal_int_int.l0 (k + 1) y0 y1 y2 y3))
 | 0 => fun _ _ _ _ r h => by simp [slices_Equal_int_int.l0] at h
 | k + 1 => by
  have ih0 := slices_Equal_int_int.mono_l k; intro y0 y1 y2 y3; unfold slices_Equal_int_int.l0; repeat' first | (with_reducible first | exact ih0 _ _ _ _ | exact LeO.refl _ | exact LeO.none _ | refine LeO.ite ?_ ?_ | refine LeO.bind ?_ (fun _ => ?_)) | exact ih0 _ _ _ _ | exact LeO.none _ | refine LeO.ite ?_ ?_ | refine LeO.bind ?_ (fun _ => ?_)
theorem slices_Equal_int_int.mono : ∀ a0 a1 k, LeO (slices_Equal_int_int.f k a0 a1) (slices_Equal_int_int.f (k + 1) a0 a1) := by
 intro a0 a1 k; have ih0 := slices_Equal_int_int.mono_l k; unfold slices_Equal_int_int.f; repeat' first | (with_reducible first | exact ih0 _ _ _ _ | exact LeO.refl _ | exact LeO.none _ | refine LeO.ite ?_ ?_ | refine LeO.bind ?_ (fun _ => ?_)) | exact ih0 _ _ _ _ | exact LeO.none _ | refine LeO.ite ?_ ?_ | refine LeO.bind ?_ (fun _ => ?_)
set_option maxHeartbeats 8000000 in
set_option maxRecDepth 100000 in
theorem slices_Equal_int_int.calls (k : Nat) (A0 : Option Addr) (c0 : Nat) (l0 : List Int) (A1 : Option Addr) (c1 : Nat) (l1 : List Int) (r : Bool) (w : World) (hr0 : Kd.C (Kd.int .i64) w A0 l0.length l0) (hc0 : l0.length ≤ c0) (hr1 : Kd.C (Kd.int .i64) w A1 l1.length l1) (hc1 : l1.length ≤ c1) (h : slices_Equal_int_int.f k l0 l1 = some r) :
  Calls Try.prog 28 #[.slice A0 l0.length c0, .slice A1 l1.length c1] w fun e w' => e = .returned (.bool r) ∧ Drawn0 w w' := by
 have HR0 := Z_ hr0; have HC0 := Z_ hc0; clear hr0 hc0; have HR1 := Z_ hr1; have HC1 := Z_ hc1; clear hr1 hc1; have H : (if (l0.length : Int) = (l1.length : Int) then (slices_Equal_int_int.l0 k l0 l1 (l0.length : Int) 0) else (some false)) = some r := h; clear h; by_cases c3 : (l0.length : Int) = (l1.length : Int)
 ·rw [if_pos c3] at H
  have c3b0 : ((l0.length : Int) == (l1.length : Int)) = true := beq_iff_eq.mpr c3; have c3b1 : ((l0.length : Int) != (l1.length : Int)) = false := bne_eq_false_iff_eq.mpr c3; have c3b2 : (l0.length == l1.length) = true := by first | simpa using c3 | (simp at c3 ⊢; omega)
  clear c3; have H' := Z_ H; clear H; go_enter Try.func28, Try.ntmps28; go_wp2; repeat (go_quiet (fail); try go_wp2)
  go_loopg [13] k (fun kq v13 w' => ∃ (x13_1 : Int), v13 = .int .i64 x13_1 ∧ Aside0 (slices_Equal_int_int.l0 kq l0 l1 (l0.length : Int) x13_1 = some r) ∧ Aside0 (kq ≤ k) ∧ Drawn0 w w')
  case atStart => exact ⟨(0), (by first | rfl | (simp; done) | (simp [*]; done)), H', ⟨nR_ _⟩, by repeat (first | exact Drawn0.refl _ | apply Drawn0.step)⟩
  case round =>
   clear H'; (try clear c1); (try clear c2); (try clear p2); (try clear c3); (try clear c3b0); (try clear c3b1); (try clear c3b2)
   obtain ⟨x13_1, rfl, HA, HK1, ⟨m1, rfl⟩⟩ := hrel
   cases gk with
   | zero => exact absurd HA.out (by simp [slices_Equal_int_int.l0])
   | succ k1 =>
    have H := HA.out; clear HA; simp only [slices_Equal_int_int.l0] at H; by_cases c4 : x13_1 < (l0.length : Int)
    ·rw [if_pos c4] at H
     have c4b0 : decide (x13_1 < (l0.length : Int)) = true := eT_ c4; clear c4; by_cases c5 : 0 ≤ x13_1
     ·rw [if_pos c5] at H
      have c5b0 : decide (0 ≤ x13_1) = true := eT_ c5; clear c5; by_cases c6 : x13_1 < (l0.length : Int)
      ·rw [if_pos c6] at H
       have c6b0 : decide (x13_1 < (l0.length : Int)) = true := eT_ c6; clear c6; by_cases c7 : x13_1 < (l1.length : Int)
       ·rw [if_pos c7] at H
        have c7b0 : decide (x13_1 < (l1.length : Int)) = true := eT_ c7; clear c7; by_cases c8 : (rd l0 x13_1) = (rd l1 x13_1)
        ·rw [if_pos c8] at H
         have c8b0 : ((rd l0 x13_1) == (rd l1 x13_1)) = true := beq_iff_eq.mpr c8; have c8b1 : ((rd l0 x13_1) != (rd l1 x13_1)) = false := bne_eq_false_iff_eq.mpr c8; clear c8; have H' := Z_ H; clear H; have p187 : 0 ≤ (x13_1 : Int) := dT_ (by first | (with_reducible assumption) | assumption); have q187 : x13_1 < (l0.length : Int) := dT_ (by first | (with_reducible assumption) | assumption); obtain ⟨ad187, e187, hx187_0⟩ := Kd.at_int HR0.out x13_1 p187 q187; cases e187
         replace p187 := eq_true p187; replace q187 := eq_true q187; have p188 : 0 ≤ (x13_1 : Int) := dT_ (by first | (with_reducible assumption) | assumption); have q188 : x13_1 < (l1.length : Int) := dT_ (by first | (with_reducible assumption) | assumption); obtain ⟨ad188, e188, hx188_0⟩ := Kd.at_int HR1.out x13_1 p188 q188; cases e188
         replace p188 := eq_true p188; replace q188 := eq_true q188; go_wp2; repeat (go_quiet (fail); try go_wp2)
         go_roundg k1
         case measure => have := HK1.out; omega
         case rel => exact ⟨(wrap64 (x13_1 + 1)), (by first | rfl | (simp; done) | (simp [*]; done)), H', ⟨by have := HK1.out; omega⟩, by repeat (first | exact Drawn0.refl _ | apply Drawn0.step)⟩
        rw [if_neg c8] at H; have c8b0 : ((rd l0 x13_1) == (rd l1 x13_1)) = false := beq_eq_false_iff_ne.mpr c8; have c8b1 : ((rd l0 x13_1) != (rd l1 x13_1)) = true := bne_iff_ne.mpr c8; obtain rfl := oI_ H; have p187 : 0 ≤ (x13_1 : Int) := dT_ (by first | (with_reducible assumption) | assumption); have q187 : x13_1 < (l0.length : Int) := dT_ (by first | (with_reducible assumption) | assumption); obtain ⟨ad187, e187, hx187_0⟩ := Kd.at_int HR0.out x13_1 p187 q187; cases e187
        replace p187 := eq_true p187; replace q187 := eq_true q187; have p188 : 0 ≤ (x13_1 : Int) := dT_ (by first | (with_reducible assumption) | assumption); have q188 : x13_1 < (l1.length : Int) := dT_ (by first | (with_reducible assumption) | assumption); obtain ⟨ad188, e188, hx188_0⟩ := Kd.at_int HR1.out x13_1 p188 q188; cases e188
        replace p188 := eq_true p188; replace q188 := eq_true q188; go_wp2; repeat (go_quiet (fail); try go_wp2)
        go_ret; exact ⟨by first | rfl | (simp; done) | (simp [*]; done), by repeat (first | exact Drawn0.refl _ | apply Drawn0.step)⟩
       rw [if_neg c7] at H; exact absurd H (by simp)
      rw [if_neg c6] at H; exact absurd H (by simp)
     rw [if_neg c5] at H; exact absurd H (by simp)
    rw [if_neg c4] at H; have c4b0 : decide (x13_1 < (l0.length : Int)) = false := eF_ c4; clear c4; obtain rfl := oI_ H; go_wp2; repeat (go_quiet (fail); try go_wp2)
    go_ret; exact ⟨by first | rfl | (simp; done) | (simp [*]; done), by repeat (first | exact Drawn0.refl _ | apply Drawn0.step)⟩
 rw [if_neg c3] at H; have c3b0 : ((l0.length : Int) == (l1.length : Int)) = false := beq_eq_false_iff_ne.mpr c3; have c3b1 : ((l0.length : Int) != (l1.length : Int)) = true := bne_iff_ne.mpr c3; have c3b2 : (l0.length == l1.length) = false := by first | simpa using c3 | (simp at c3 ⊢; omega)
 obtain rfl := oI_ H; go_enter Try.func28, Try.ntmps28; go_wp2; repeat (go_quiet (fail); try go_wp2)
 go_ret; exact ⟨by first | rfl | (simp; done) | (simp [*]; done), by repeat (first | exact Drawn0.refl _ | apply Drawn0.step)⟩
end Go.Proofs.Ytpolojoeabmhdaa.A
