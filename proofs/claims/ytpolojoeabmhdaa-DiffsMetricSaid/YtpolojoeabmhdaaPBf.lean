/- Shortest walks in plain lists: passes over the differences, the way back, rounds of negative length. -/
import Derived.Test.YtpolojoeabmhdaaA0
namespace Go.Proofs.Ytpolojoeabmhdaa.A
open Go.RowKit Go.Proofs.YtpolojoeabmhdaaW.PrintWords Go.Proofs.YtpolojoeabmhdaaW.PrintLast Go.Proofs.YtpolojoeabmhdaaW.PrintMore
set_option linter.unusedVariables false
set_option linter.unusedSimpArgs false
theorem rd_set (l : List Int) (i j x : Int) (h0 : 0 ≤ i) (h1 : i < l.length) (hj : 0 ≤ j) : rd (l.set i.toNat x) j = if j = i then x else rd l j := by
  unfold rd
  rw [List.getD_eq_getElem?_getD, List.getD_eq_getElem?_getD, List.getElem?_set]
  by_cases h : j = i
  · subst h; rw [if_pos rfl, if_pos rfl, if_pos (by omega)]; rfl
  · rw [if_neg h, if_neg (by omega)]
theorem rdOf_set {α : Type} (d : α) (l : List α) (i j : Int) (x : α) (h0 : 0 ≤ i) (h1 : i < l.length) (hj : 0 ≤ j) : rdOf d (l.set i.toNat x) j = if j = i then x else rdOf d l j := by
  unfold rdOf
  rw [List.getD_eq_getElem?_getD, List.getD_eq_getElem?_getD, List.getElem?_set]
  by_cases h : j = i
  · subst h; rw [if_pos rfl, if_pos rfl, if_pos (by omega)]; rfl
  · rw [if_neg h, if_neg (by omega)]
/-- Walks that are found so far. -/
structure Sg where
  lo : List Int
  ha : List Bool
  la : List Int
def Sg.better (s : Sg) (d : S39) : Bool := rdOf false s.ha d.f0 && (!rdOf false s.ha d.f1 || decide (rd s.lo d.f0 + d.f2 < rd s.lo d.f1))
def Sg.put (s : Sg) (d : S39) (k : Int) : Sg := ⟨s.lo.set d.f1.toNat (rd s.lo d.f0 + d.f2), s.ha.set d.f1.toNat true, s.la.set d.f1.toNat k⟩
/-- One pass over (the rest of) the differences. -/
def pass : List S39 → Int → Int → Sg → Int × Sg
  | [], _, c, s => (c, s)
  | d :: ds, k, c, s => if s.better d = true then pass ds (k + 1) d.f1 (s.put d k) else pass ds (k + 1) c s
structure EdgeOk (n : Int) (d : S39) : Prop where
  a : 0 ≤ d.f0
  b : d.f0 < n
  c : 0 ≤ d.f1
  g : d.f1 < n
  e : -1073741824 ≤ d.f2
  f : d.f2 ≤ 1073741824
def EdgesOk (n : Int) (L : List S39) : Prop := ∀ k : Int, 0 ≤ k → k < L.length → EdgeOk n (rd_T39 L k)
def hasN (s : Sg) (v : Int) : Prop := rdOf false s.ha v = true
/-- What holds before the difference k of the pass that began when b differences had been looked at. T: when a node was changed. -/
structure Bf (n : Int) (L : List S39) (src : Int → Prop) (b k : Int) (s : Sg) (T : Int → Int) : Prop where
  l1 : (s.lo.length : Int) = n
  l2 : (s.ha.length : Int) = n
  l3 : (s.la.length : Int) = n
  t0 : ∀ v, 0 ≤ v → v < n → 0 ≤ T v ∧ T v ≤ b + k
  z : ∀ v, 0 ≤ v → v < n → T v = 0 → rd s.la v = -1 ∧ rd s.lo v = 0 ∧ (hasN s v ↔ src v)
  p : ∀ v, 0 ≤ v → v < n → 0 < T v → 0 ≤ rd s.la v ∧ rd s.la v < L.length ∧ hasN s v ∧ (rd_T39 L (rd s.la v)).f1 = v ∧ hasN s (rd_T39 L (rd s.la v)).f0 ∧ rd s.lo v ≥ rd s.lo (rd_T39 L (rd s.la v)).f0 + (rd_T39 L (rd s.la v)).f2 ∧ (T (rd_T39 L (rd s.la v)).f0 ≥ T v → rd s.lo v > rd s.lo (rd_T39 L (rd s.la v)).f0 + (rd_T39 L (rd s.la v)).f2) ∧ T (rd_T39 L (rd s.la v)).f0 ≥ T v - L.length
  j : ∀ i : Int, 0 ≤ i → i < L.length → hasN s (rd_T39 L i).f0 → T (rd_T39 L i).f0 < (if i < k then b + i + 1 else b - L.length + i + 1) → hasN s (rd_T39 L i).f1 ∧ rd s.lo (rd_T39 L i).f1 ≤ rd s.lo (rd_T39 L i).f0 + (rd_T39 L i).f2
  w : ∀ v, 0 ≤ v → v < n → -(b + k) * 1073741824 ≤ rd s.lo v ∧ rd s.lo v ≤ (b + k) * 1073741824
theorem better_iff (s : Sg) (d : S39) : s.better d = true ↔ hasN s d.f0 ∧ (¬ hasN s d.f1 ∨ rd s.lo d.f0 + d.f2 < rd s.lo d.f1) := by
  unfold Sg.better hasN
  simp [Bool.and_eq_true, Bool.or_eq_true]
section
variable {n : Int} {L : List S39} {src : Int → Prop} {b k : Int} {s : Sg} {T : Int → Int}
theorem Bf.skip (h : Bf n L src b k s T) (hE : EdgesOk n L) (hk0 : 0 ≤ k) (hk : k < L.length) (hb : 0 ≤ b) (hn : ¬ s.better (rd_T39 L k) = true) : Bf n L src b (k + 1) s T := by
  refine ⟨h.l1, h.l2, h.l3, fun v a c => ⟨(h.t0 v a c).1, by have := (h.t0 v a c).2; omega⟩, h.z, h.p, fun i a c e f => ?_, fun v a c => ?_⟩
  · by_cases hi : i = k
    · subst hi
      rw [better_iff] at hn
      by_cases h1 : hasN s (rd_T39 L i).f1
      · exact ⟨h1, by
          have : ¬ (rd s.lo (rd_T39 L i).f0 + (rd_T39 L i).f2 < rd s.lo (rd_T39 L i).f1) := fun h2 => hn ⟨e, Or.inr h2⟩
          omega⟩
      · exact absurd ⟨e, Or.inl h1⟩ hn
    · refine h.j i a c e ?_
      by_cases h2 : i < k
      · rw [if_pos h2]; rw [if_pos (by omega)] at f; exact f
      · rw [if_neg h2]; rw [if_neg (by omega)] at f; exact f
  · have := h.w v a c
    omega
theorem hasN_put {s : Sg} {d : S39} {k v : Int} {n : Int} (hl : (s.ha.length : Int) = n) (hd : EdgeOk n d) (hv : 0 ≤ v) : hasN (s.put d k) v ↔ v = d.f1 ∨ hasN s v := by
  unfold hasN Sg.put
  rw [rdOf_set _ _ _ _ _ hd.c (by have := hd.g; omega) hv]
  by_cases h : v = d.f1
  · simp [h]
  · simp [h]
theorem lo_put {s : Sg} {d : S39} {k v : Int} {n : Int} (hl : (s.lo.length : Int) = n) (hd : EdgeOk n d) (hv : 0 ≤ v) : rd (s.put d k).lo v = if v = d.f1 then rd s.lo d.f0 + d.f2 else rd s.lo v :=
  rd_set _ _ _ _ hd.c (by have := hd.g; omega) hv
theorem la_put {s : Sg} {d : S39} {k v : Int} {n : Int} (hl : (s.la.length : Int) = n) (hd : EdgeOk n d) (hv : 0 ≤ v) : rd (s.put d k).la v = if v = d.f1 then k else rd s.la v :=
  rd_set _ _ _ _ hd.c (by have := hd.g; omega) hv
def Tput (T : Int → Int) (v t : Int) : Int → Int := fun x => if x = v then t else T x
theorem Bf.step (h : Bf n L src b k s T) (hE : EdgesOk n L) (hk0 : 0 ≤ k) (hk : k < L.length) (hb : 0 ≤ b) (hy : s.better (rd_T39 L k) = true) : Bf n L src b (k + 1) (s.put (rd_T39 L k) k) (Tput T (rd_T39 L k).f1 (b + k + 1)) := by
  have hd := hE k hk0 hk
  rw [better_iff] at hy
  obtain ⟨hu, hv⟩ := hy
  generalize hdd : rd_T39 L k = d at *
  have tu := h.t0 d.f0 hd.a hd.b
  have tv := h.t0 d.f1 hd.c hd.g
  have hself : d.f0 = d.f1 → d.f2 < 0 := fun e => by
    rcases hv with hv | hv
    · rw [← e] at hv; exact absurd hu hv
    · rw [e] at hv; omega
  have hlow : hasN s d.f1 → rd s.lo d.f0 + d.f2 < rd s.lo d.f1 := fun e => by
    rcases hv with hv | hv
    · exact absurd e hv
    · exact hv
  have hdrop : T d.f0 ≥ b + k + 1 - L.length := by
    by_cases hc : T d.f0 < b - L.length + k + 1
    · have := h.j k hk0 hk (by rw [hdd]; exact hu) (by rw [hdd, if_neg (by omega)]; exact hc)
      rw [hdd] at this
      rcases hv with hv | hv
      · exact absurd this.1 hv
      · omega
    · omega
  refine ⟨?_, ?_, ?_, ?_, ?_, ?_, ?_, ?_⟩
  · simpa [Sg.put] using h.l1
  · simpa [Sg.put] using h.l2
  · simpa [Sg.put] using h.l3
  · intro v a c
    have := h.t0 v a c
    unfold Tput
    by_cases e : v = d.f1
    · rw [if_pos e]; omega
    · rw [if_neg e]; omega
  · intro v a c ht
    unfold Tput at ht
    by_cases e : v = d.f1
    · rw [if_pos e] at ht; omega
    · rw [if_neg e] at ht
      have := h.z v a c ht
      rw [la_put h.l3 hd a, lo_put h.l1 hd a, if_neg e, if_neg e, hasN_put h.l2 hd a]
      exact ⟨this.1, this.2.1, ⟨fun q => this.2.2.1 (q.resolve_left e), fun q => Or.inr (this.2.2.2 q)⟩⟩
  · intro v a c ht
    rw [la_put h.l3 hd a, lo_put h.l1 hd a, hasN_put h.l2 hd a]
    by_cases e : v = d.f1
    · rw [if_pos e, if_pos e, hdd]
      refine ⟨hk0, hk, Or.inl e, e.symm, ?_, ?_, ?_, ?_⟩
      · rw [hasN_put h.l2 hd hd.a]; exact Or.inr hu
      · rw [lo_put h.l1 hd hd.a]
        by_cases e2 : d.f0 = d.f1
        · rw [if_pos e2]; have := hself e2; omega
        · rw [if_neg e2]; omega
      · rw [lo_put h.l1 hd hd.a]
        unfold Tput
        rw [if_pos e]
        by_cases e2 : d.f0 = d.f1
        · rw [if_pos e2, if_pos e2]; have := hself e2; omega
        · rw [if_neg e2, if_neg e2]; omega
      · unfold Tput
        rw [if_pos e]
        by_cases e2 : d.f0 = d.f1
        · rw [if_pos e2]; omega
        · rw [if_neg e2]; omega
    · unfold Tput at ht
      rw [if_neg e] at ht
      obtain ⟨q1, q2, q3, q4, q5, q6, q7, q8⟩ := h.p v a c ht
      have hd' := hE _ q1 q2
      rw [if_neg e, if_neg e]
      refine ⟨q1, q2, Or.inr q3, q4, ?_, ?_, ?_, ?_⟩
      · rw [hasN_put h.l2 hd hd'.a]; exact Or.inr q5
      · rw [lo_put h.l1 hd hd'.a]
        by_cases e2 : (rd_T39 L (rd s.la v)).f0 = d.f1
        · rw [if_pos e2]; rw [e2] at q5 q6; have := hlow q5; omega
        · rw [if_neg e2]; exact q6
      · rw [lo_put h.l1 hd hd'.a]
        unfold Tput
        rw [if_neg e]
        by_cases e2 : (rd_T39 L (rd s.la v)).f0 = d.f1
        · rw [if_pos e2]; rw [e2] at q5 q6; have := hlow q5; omega
        · rw [if_neg e2, if_neg e2]; exact q7
      · unfold Tput
        rw [if_neg e]
        have tv' := h.t0 v a c
        by_cases e2 : (rd_T39 L (rd s.la v)).f0 = d.f1
        · rw [if_pos e2]; omega
        · rw [if_neg e2]; exact q8
  · intro i a c e f
    have hd' := hE i a c
    rw [hasN_put h.l2 hd hd'.a] at e
    rw [hasN_put h.l2 hd hd'.c, lo_put h.l1 hd hd'.a, lo_put h.l1 hd hd'.c]
    unfold Tput at f
    by_cases e2 : (rd_T39 L i).f0 = d.f1
    · rw [if_pos e2] at f
      exfalso
      by_cases hi : i < k + 1
      · rw [if_pos hi] at f; omega
      · rw [if_neg hi] at f; omega
    · rw [if_neg e2] at f
      have e' := e.resolve_left e2
      rw [if_neg e2]
      by_cases hi : i = k
      · subst hi
        rw [hdd, if_pos rfl]
        exact ⟨Or.inl rfl, by omega⟩
      · have hj := h.j i a c e' (by
          by_cases h2 : i < k
          · rw [if_pos h2]; rw [if_pos (by omega)] at f; exact f
          · rw [if_neg h2]; rw [if_neg (by omega)] at f; exact f)
        refine ⟨Or.inr hj.1, ?_⟩
        by_cases e3 : (rd_T39 L i).f1 = d.f1
        · rw [if_pos e3]; rw [e3] at hj; have := hlow hj.1; omega
        · rw [if_neg e3]; exact hj.2
  · intro v a c
    rw [lo_put h.l1 hd a]
    have w1 := h.w v a c
    have w2 := h.w d.f0 hd.a hd.b
    have := hd.e
    have := hd.f
    by_cases e : v = d.f1
    · rw [if_pos e]; omega
    · rw [if_neg e]; omega
end
theorem rd_T39_drop (L : List S39) (k : Int) (h0 : 0 ≤ k) (h1 : k < L.length) : L.drop k.toNat = rd_T39 L k :: L.drop (k + 1).toNat := by
  rw [show (k + 1).toNat = k.toNat + 1 from by omega, List.drop_eq_getElem_cons (by omega)]
  congr 1
  unfold rd_T39
  rw [List.getD_eq_getElem?_getD, List.getElem?_eq_getElem (by omega)]; rfl
def Chg (n b c : Int) (T : Int → Int) : Prop := 0 ≤ c ∧ c < n ∧ b < T c
theorem pass_bf {n : Int} {L : List S39} {src : Int → Prop} {b : Int} (hE : EdgesOk n L) (hb : 0 ≤ b) : ∀ (q : Nat) (k c : Int) (s : Sg) (T : Int → Int), (q : Int) + k = L.length → 0 ≤ k → Bf n L src b k s T → (c = -1 ∨ Chg n b c T) →
    ∃ T', Bf n L src b L.length (pass (L.drop k.toNat) k c s).2 T' ∧ (((pass (L.drop k.toNat) k c s).1 = -1 ∧ c = -1 ∧ (pass (L.drop k.toNat) k c s).2 = s ∧ (∀ i : Int, k ≤ i → i < L.length → ¬ s.better (rd_T39 L i) = true)) ∨ Chg n b (pass (L.drop k.toNat) k c s).1 T')
  | 0, k, c, s, T, hq, h0, h, hc => by
    have hk : k = L.length := by omega
    rw [List.drop_eq_nil_of_le (by omega)]
    subst hk
    refine ⟨T, h, ?_⟩
    rcases hc with hc | hc
    · exact Or.inl ⟨hc, hc, rfl, fun i a b => by omega⟩
    · exact Or.inr hc
  | q + 1, k, c, s, T, hq, h0, h, hc => by
    have hk : k < L.length := by omega
    rw [rd_T39_drop L k h0 hk]
    unfold pass
    by_cases hy : s.better (rd_T39 L k) = true
    · rw [if_pos hy]
      have h' := h.step hE h0 hk hb hy
      have hd := hE k h0 hk
      obtain ⟨T', r1, r2⟩ := pass_bf hE hb q (k + 1) (rd_T39 L k).f1 (s.put (rd_T39 L k) k) _ (by omega) (by omega) h' (Or.inr ⟨hd.c, hd.g, by unfold Tput; rw [if_pos rfl]; omega⟩)
      refine ⟨T', r1, ?_⟩
      rcases r2 with r2 | r2
      · have := hd.c; omega
      · exact Or.inr r2
    · rw [if_neg hy]
      obtain ⟨T', r1, r2⟩ := pass_bf hE hb q (k + 1) c s T (by omega) (by omega) (h.skip hE h0 hk hb hy) hc
      refine ⟨T', r1, ?_⟩
      rcases r2 with ⟨a1, a2, a3, a4⟩ | r2
      · refine Or.inl ⟨a1, a2, a3, fun i e f => ?_⟩
        by_cases hi : i = k
        · rw [hi]; exact hy
        · exact a4 i (by omega) f
      · exact Or.inr r2
theorem Bf.next {n : Int} {L : List S39} {src : Int → Prop} {b : Int} {s : Sg} {T : Int → Int} (h : Bf n L src b L.length s T) : Bf n L src (b + L.length) 0 s T :=
  ⟨h.l1, h.l2, h.l3, fun v a c => by have := h.t0 v a c; omega, h.z, h.p, fun i a c e f => h.j i a c e (by
    rw [if_neg (by omega)] at f
    rw [if_pos (by omega)]
    omega), fun v a c => by have := h.w v a c; omega⟩
/-- The node before a node. -/
def bk (L : List S39) (la : List Int) (v : Int) : Int := (rd_T39 L (rd la v)).f0
def it (L : List S39) (la : List Int) : Nat → Int → Int
  | 0, v => v
  | i + 1, v => it L la i (bk L la v)
def chain (L : List S39) (la : List Int) : Nat → Int → List Int
  | 0, _ => []
  | i + 1, v => rd la v :: chain L la i (bk L la v)
def loopedL (L : List S39) (la : List Int) : Nat → Int → Int
  | 0, v => v
  | i + 1, v => if rd la v < 0 then -1 else loopedL L la i (bk L la v)
/-- The way back goes on for so many steps. -/
def Goes (L : List S39) (la : List Int) : Nat → Int → Prop
  | 0, _ => True
  | i + 1, v => 0 ≤ rd la v ∧ Goes L la i (bk L la v)
theorem looped_goes (L : List S39) (la : List Int) : ∀ i v, (Goes L la i v ∧ loopedL L la i v = it L la i v) ∨ (¬ Goes L la i v ∧ loopedL L la i v = -1)
  | 0, v => Or.inl ⟨trivial, rfl⟩
  | i + 1, v => by
    unfold Goes loopedL it
    by_cases h : rd la v < 0
    · rw [if_pos h]; exact Or.inr ⟨fun q => by omega, rfl⟩
    · rw [if_neg h]
      rcases looped_goes L la i (bk L la v) with ⟨a, b⟩ | ⟨a, b⟩
      · exact Or.inl ⟨⟨by omega, a⟩, b⟩
      · exact Or.inr ⟨fun q => a q.2, b⟩
theorem it_add (L : List S39) (la : List Int) : ∀ i j v, it L la (i + j) v = it L la j (it L la i v)
  | 0, j, v => by rw [Nat.zero_add]; rfl
  | i + 1, j, v => by rw [show i + 1 + j = (i + j) + 1 from by omega]; exact it_add L la i j _
theorem goes_add (L : List S39) (la : List Int) : ∀ i j v, Goes L la (i + j) v ↔ Goes L la i v ∧ Goes L la j (it L la i v)
  | 0, j, v => by rw [Nat.zero_add]; simp [Goes, it]
  | i + 1, j, v => by
    rw [show i + 1 + j = (i + j) + 1 from by omega]
    simp only [Goes, it]
    rw [goes_add L la i j, and_assoc]
theorem goes_le {L : List S39} {la : List Int} {i j : Nat} {v : Int} (h : Goes L la j v) (hi : i ≤ j) : Goes L la i v := by
  obtain ⟨q, rfl⟩ : ∃ q, j = i + q := ⟨j - i, by omega⟩
  exact ((goes_add L la i q v).1 h).1
/-- A walk: from, its differences, to, length. -/
def Wk (L : List S39) : Int → List Int → Int → Int → Prop
  | u, [], v, W => v = u ∧ W = 0
  | u, i :: is, v, W => (0 ≤ i ∧ i < L.length) ∧ (rd_T39 L i).f0 = u ∧ Wk L (rd_T39 L i).f1 is v (W - (rd_T39 L i).f2)
theorem Wk.append {L : List S39} : ∀ {u : Int} {l1 : List Int} {v W1 : Int} {l2 : List Int} {x W2 : Int}, Wk L u l1 v W1 → Wk L v l2 x W2 → Wk L u (l1 ++ l2) x (W1 + W2)
  | u, [], v, W1, l2, x, W2, h1, h2 => by
    obtain ⟨rfl, rfl⟩ := h1
    rw [Int.zero_add]; exact h2
  | u, i :: is, v, W1, l2, x, W2, h1, h2 => by
    obtain ⟨a, b, c⟩ := h1
    refine ⟨a, b, ?_⟩
    have := Wk.append c h2
    rw [show W1 + W2 - (rd_T39 L i).f2 = W1 - (rd_T39 L i).f2 + W2 from by omega]
    exact this
section
variable {n : Int} {L : List S39} {src : Int → Prop} {b k : Int} {s : Sg} {T : Int → Int}
theorem Bf.la_pos (h : Bf n L src b k s T) {v : Int} (h0 : 0 ≤ v) (h1 : v < n) (h2 : 0 ≤ rd s.la v) : 0 < T v := by
  have := (h.t0 v h0 h1).1
  by_cases e : T v = 0
  · have := (h.z v h0 h1 e).1; omega
  · omega
theorem Bf.bk_node (h : Bf n L src b k s T) (hE : EdgesOk n L) {v : Int} (h0 : 0 ≤ v) (h1 : v < n) (h2 : 0 ≤ rd s.la v) : 0 ≤ bk L s.la v ∧ bk L s.la v < n := by
  have hp := h.p v h0 h1 (h.la_pos h0 h1 h2)
  exact ⟨(hE _ hp.1 hp.2.1).a, (hE _ hp.1 hp.2.1).b⟩
theorem Bf.it_node (h : Bf n L src b k s T) (hE : EdgesOk n L) : ∀ (i : Nat) {v : Int}, 0 ≤ v → v < n → Goes L s.la i v → 0 ≤ it L s.la i v ∧ it L s.la i v < n
  | 0, v, h0, h1, _ => ⟨h0, h1⟩
  | i + 1, v, h0, h1, hg => by
    have := h.bk_node hE h0 h1 hg.1
    exact h.it_node hE i this.1 this.2 hg.2
/-- The way back as a walk forward. -/
theorem Bf.back (h : Bf n L src b k s T) (hE : EdgesOk n L) : ∀ (i : Nat) {v : Int}, 0 ≤ v → v < n → Goes L s.la i v → ∃ W, Wk L (it L s.la i v) (chain L s.la i v).reverse v W ∧ (rd s.lo v > rd s.lo (it L s.la i v) + W ∨ (rd s.lo v ≥ rd s.lo (it L s.la i v) + W ∧ T (it L s.la i v) + i ≤ T v))
  | 0, v, h0, h1, _ => ⟨0, ⟨rfl, rfl⟩, Or.inr ⟨by simp [it], by simp [it]⟩⟩
  | i + 1, v, h0, h1, hg => by
    have hn := h.bk_node hE h0 h1 hg.1
    have hp := h.p v h0 h1 (h.la_pos h0 h1 hg.1)
    obtain ⟨W, w1, w2⟩ := h.back hE i hn.1 hn.2 hg.2
    refine ⟨W + (rd_T39 L (rd s.la v)).f2, ?_, ?_⟩
    · have : Wk L (bk L s.la v) [rd s.la v] v (rd_T39 L (rd s.la v)).f2 := ⟨⟨hp.1, hp.2.1⟩, rfl, hp.2.2.2.1.symm, by omega⟩
      simp only [chain, it, List.reverse_cons]
      exact w1.append this
    · simp only [it]
      have e : (rd_T39 L (rd s.la v)).f0 = bk L s.la v := rfl
      have q6 := hp.2.2.2.2.2.1
      have q7 := hp.2.2.2.2.2.2.1
      rw [e] at q6 q7
      rcases w2 with w2 | ⟨w2, w3⟩
      · left; omega
      · by_cases ht : T (bk L s.la v) ≥ T v
        · left; have := q7 ht; omega
        · right; exact ⟨by omega, by push_cast; omega⟩
/-- A round of the way back has a negative length. -/
theorem Bf.round (h : Bf n L src b k s T) (hE : EdgesOk n L) {c : Nat} {v : Int} (h0 : 0 ≤ v) (h1 : v < n) (hg : Goes L s.la c v) (hc : 0 < c) (e : it L s.la c v = v) : ∃ W, W < 0 ∧ Wk L v (chain L s.la c v).reverse v W := by
  obtain ⟨W, w1, w2⟩ := h.back hE c h0 h1 hg
  rw [e] at w1 w2
  exact ⟨W, by omega, w1⟩
theorem Bf.goes_far (h : Bf n L src b k s T) (hE : EdgesOk n L) : ∀ (i : Nat) {v : Int}, 0 ≤ v → v < n → (i : Int) * L.length < T v → Goes L s.la (i + 1) v
  | 0, v, h0, h1, ht => ⟨(h.p v h0 h1 (by simpa using ht)).1, trivial⟩
  | i + 1, v, h0, h1, ht => by
    rw [show ((i + 1 : Nat) : Int) * L.length = (i : Int) * L.length + L.length from by rw [Int.natCast_add, Int.add_mul]; simp] at ht
    have hpos : (0 : Int) ≤ (i : Int) * L.length := Int.mul_nonneg (by omega) (by omega)
    have hp := h.p v h0 h1 (by omega)
    have hn := h.bk_node hE h0 h1 hp.1
    exact ⟨hp.1, h.goes_far hE i hn.1 hn.2 (by have := hp.2.2.2.2.2.2.2; unfold bk; omega)⟩
end
theorem nodup_le : ∀ (n : Nat) (l : List Int), l.Nodup → (∀ x ∈ l, 0 ≤ x ∧ x < n) → l.length ≤ n
  | 0, l, _, h => by
    cases l with
    | nil => simp
    | cons x xs => have := h x (by simp); omega
  | n + 1, l, hl, h => by
    have hx := nodup_le n (l.erase (n : Int)) (hl.erase _) (fun x hx => by
      have h2 := (hl.mem_erase_iff).1 hx
      have := h x h2.2
      omega)
    by_cases hm : (n : Int) ∈ l
    · have := List.length_erase_of_mem hm; omega
    · rw [List.erase_of_not_mem hm] at hx; omega
theorem pigeon (n : Nat) (f : Nat → Int) (h : ∀ i, i ≤ n → 0 ≤ f i ∧ f i < n) : ∃ i j, i < j ∧ j ≤ n ∧ f i = f j := by
  apply Classical.byContradiction
  intro hn
  have hnd : ((List.range (n + 1)).map f).Nodup := by
    rw [List.Nodup, List.pairwise_map]
    have := List.pairwise_lt_range (n := n + 1)
    refine List.Pairwise.imp_of_mem (fun {a b} ha hb hab e => hn ⟨a, b, hab, ?_, e⟩) this
    have := List.mem_range.1 hb; omega
  have := nodup_le n _ hnd (fun x hx => by
    obtain ⟨i, hi, rfl⟩ := List.mem_map.1 hx
    exact h i (by have := List.mem_range.1 hi; omega))
  rw [List.length_map, List.length_range] at this
  omega
/-- No difference makes a walk shorter. -/
def Fix (L : List S39) (s : Sg) : Prop := ∀ i : Int, 0 ≤ i → i < L.length → ¬ s.better (rd_T39 L i) = true
theorem Fix.edge {L : List S39} {s : Sg} (h : Fix L s) {i : Int} (h0 : 0 ≤ i) (h1 : i < L.length) (hu : hasN s (rd_T39 L i).f0) : hasN s (rd_T39 L i).f1 ∧ rd s.lo (rd_T39 L i).f1 ≤ rd s.lo (rd_T39 L i).f0 + (rd_T39 L i).f2 := by
  have := h i h0 h1
  rw [better_iff] at this
  by_cases h2 : hasN s (rd_T39 L i).f1
  · refine ⟨h2, ?_⟩
    have h3 : ¬ (rd s.lo (rd_T39 L i).f0 + (rd_T39 L i).f2 < rd s.lo (rd_T39 L i).f1) := fun h3 => this ⟨hu, Or.inr h3⟩
    omega
  · exact absurd ⟨hu, Or.inl h2⟩ this
theorem Fix.walk {L : List S39} {s : Sg} (h : Fix L s) : ∀ {u : Int} {l : List Int} {v W : Int}, hasN s u → Wk L u l v W → hasN s v ∧ rd s.lo v ≤ rd s.lo u + W
  | u, [], v, W, hu, hw => by
    obtain ⟨rfl, rfl⟩ := hw
    exact ⟨hu, by omega⟩
  | u, i :: is, v, W, hu, hw => by
    obtain ⟨⟨a, b⟩, rfl, c⟩ := hw
    have h1 := h.edge a b hu
    have h2 := h.walk h1.1 c
    exact ⟨h2.1, by have := h2.2; omega⟩
/-- Numbers that fulfil all differences. -/
def Pot (L : List S39) (x : Int → Int) : Prop := ∀ i : Int, 0 ≤ i → i < L.length → x (rd_T39 L i).f1 - x (rd_T39 L i).f0 ≤ (rd_T39 L i).f2
theorem Pot.walk {L : List S39} {x : Int → Int} (h : Pot L x) : ∀ {u : Int} {l : List Int} {v W : Int}, Wk L u l v W → x v - x u ≤ W
  | u, [], v, W, hw => by
    obtain ⟨rfl, rfl⟩ := hw
    omega
  | u, i :: is, v, W, hw => by
    obtain ⟨⟨a, b⟩, rfl, c⟩ := hw
    have h1 := h i a b
    have h2 := h.walk c
    omega
def growP (L : List S39) (n : Nat) : Nat → Sg → Option (Sg × Int)
  | 0, _ => none
  | r + 1, s => if (pass L 0 (-1) s).1 < 0 then some ((pass L 0 (-1) s).2, -1) else (if loopedL L (pass L 0 (-1) s).2.la n (pass L 0 (-1) s).1 ≥ 0 then some ((pass L 0 (-1) s).2, loopedL L (pass L 0 (-1) s).2.la n (pass L 0 (-1) s).1) else growP L n r (pass L 0 (-1) s).2)
def lenP (L : List S39) : Nat → Sg → Sg × Bool
  | 0, s => (s, false)
  | r + 1, s => if (pass L 0 (-1) s).1 < 0 then ((pass L 0 (-1) s).2, true) else lenP L r (pass L 0 (-1) s).2
/-- A round of negative length through a node. -/
def Round (L : List S39) (la : List Int) (n v : Int) : Prop := 0 ≤ v ∧ v < n ∧ ∃ c : Nat, 0 < c ∧ Goes L la c v ∧ it L la c v = v
structure GrowPost (n : Int) (L : List S39) (src : Int → Prop) (s : Sg) (bad : Int) : Prop where
  bf : ∃ b T, 0 ≤ b ∧ b + L.length ≤ n * L.length ∧ Bf n L src b L.length s T
  res : (bad = -1 ∧ Fix L s) ∨ (0 ≤ bad ∧ Round L s.la n bad)
theorem it_round {L : List S39} {la : List Int} {n : Nat} {v : Int} (hg : Goes L la n v) (hn : ∀ i, i ≤ n → 0 ≤ it L la i v ∧ it L la i v < n) : Round L la n (it L la n v) := by
  obtain ⟨i, j, h1, h2, h3⟩ := pigeon n (fun i => it L la i v) hn
  replace h3 : it L la i v = it L la j v := h3
  have e1 : it L la n v = it L la (n - j) (it L la i v) := by rw [h3, ← it_add]; congr 1; omega
  have e2 : it L la (n - i) (it L la i v) = it L la n v := by rw [← it_add]; congr 1; omega
  have e3 : it L la (j - i) (it L la i v) = it L la i v := by rw [← it_add, h3]; congr 1; omega
  have hgi : Goes L la (n - i) (it L la i v) := ((goes_add L la i (n - i) v).1 (by rw [show i + (n - i) = n from by omega]; exact hg)).2
  have hgj : Goes L la (n - j) (it L la i v) := by rw [h3]; exact ((goes_add L la j (n - j) v).1 (by rw [show j + (n - j) = n from by omega]; exact hg)).2
  have hgd : Goes L la (j - i) (it L la i v) := goes_le hgi (by omega)
  refine ⟨(hn n (Nat.le_refl _)).1, (hn n (Nat.le_refl _)).2, j - i, by omega, ?_, ?_⟩
  · -- from the node at n on: (n - j) steps behind the node i, then (j - i) more
    have : Goes L la ((j - i) + (n - j)) (it L la i v) := by rw [goes_add]; exact ⟨hgd, by rw [e3]; exact hgj⟩
    rw [Nat.add_comm, goes_add, ← e1] at this
    exact this.2
  · rw [e1, ← it_add, Nat.add_comm, it_add, e3]
theorem growP_post {n : Nat} {L : List S39} {src : Int → Prop} (hE : EdgesOk n L) : ∀ (r q : Nat) (s : Sg) (T : Int → Int), q + r = n → 0 < r → Bf n L src ((q : Int) * L.length) 0 s T →
    ∃ s' bad, growP L n r s = some (s', bad) ∧ GrowPost n L src s' bad
  | 0, q, s, T, hq, hr, h => by omega
  | r + 1, q, s, T, hq, hr, h => by
    have hpos : (0 : Int) ≤ (q : Int) * L.length := Int.mul_nonneg (by omega) (by omega)
    obtain ⟨T', h', hc⟩ := pass_bf hE hpos L.length 0 (-1) s T (by omega) (by omega) h (Or.inl rfl)
    rw [show (0 : Int).toNat = 0 from rfl, List.drop_zero] at h' hc
    have hb1 : ((q : Int) + 1) * L.length = (q : Int) * L.length + L.length := by rw [Int.add_mul, Int.one_mul]
    have hb2 : (q : Int) * L.length + L.length ≤ (n : Int) * L.length := by
      rw [← hb1]; exact Int.mul_le_mul_of_nonneg_right (by omega) (by omega)
    unfold growP
    rcases hc with ⟨c1, c2, c3, c4⟩ | hc
    · rw [if_pos (by omega)]
      exact ⟨_, _, rfl, ⟨_, T', hpos, hb2, h'⟩, Or.inl ⟨rfl, fun i a b => by rw [c3]; exact c4 i a b⟩⟩
    · rw [if_neg (by have := hc.1; omega)]
      have hfar := h'.goes_far hE q hc.1 hc.2.1 hc.2.2
      rcases looped_goes L (pass L 0 (-1) s).2.la n (pass L 0 (-1) s).1 with ⟨g1, g2⟩ | ⟨g1, g2⟩
      · have hnode := h'.it_node hE n hc.1 hc.2.1 g1
        rw [if_pos (by rw [g2]; exact hnode.1)]
        refine ⟨_, _, rfl, ⟨_, T', hpos, hb2, h'⟩, Or.inr ⟨by rw [g2]; exact hnode.1, ?_⟩⟩
        rw [g2]
        exact it_round g1 (fun i hi => h'.it_node hE i hc.1 hc.2.1 (goes_le g1 hi))
      · rw [if_neg (by rw [g2]; omega)]
        by_cases hr : r = 0
        · exact absurd (goes_le hfar (by omega)) g1
        · have h'' := h'.next
          rw [← hb1] at h''
          exact growP_post hE r (q + 1) _ T' (by omega) (by omega) (by push_cast; exact h'')
section
variable {n : Int} {L : List S39} {src : Int → Prop} {s : Sg} {bad : Int}
theorem GrowPost.round (h : GrowPost n L src s bad) (hE : EdgesOk n L) {v : Int} (hr : Round L s.la n v) : ∃ c : Nat, ∃ W, 0 < c ∧ Goes L s.la c v ∧ it L s.la c v = v ∧ W < 0 ∧ Wk L v (chain L s.la c v).reverse v W := by
  obtain ⟨b, T, hb, hb2, hB⟩ := h.bf
  obtain ⟨h0, h1, c, hc, hg, he⟩ := hr
  obtain ⟨W, w1, w2⟩ := hB.round hE h0 h1 hg hc he
  exact ⟨c, W, hc, hg, he, w1, w2⟩
theorem GrowPost.no_round (h : GrowPost n L src s bad) (hE : EdgesOk n L) (hp : (∃ x, Pot L x) ∨ Fix L s) {v : Int} (hr : Round L s.la n v) : False := by
  obtain ⟨c, W, hc, hg, he, w1, w2⟩ := h.round hE hr
  rcases hp with ⟨x, hp⟩ | hp
  · have := hp.walk w2; omega
  · obtain ⟨b, T, hb, hb2, hB⟩ := h.bf
    obtain ⟨h0, h1, _⟩ := hr
    have hv : hasN s v := by
      obtain ⟨c', rfl⟩ : ∃ c', c = c' + 1 := ⟨c - 1, by omega⟩
      exact (hB.p v h0 h1 (hB.la_pos h0 h1 hg.1)).2.2.1
    have := (hp.walk hv w2).2
    omega
theorem GrowPost.good (h : GrowPost n L src s bad) (hE : EdgesOk n L) {x : Int → Int} (hp : Pot L x) : bad = -1 ∧ Fix L s := by
  rcases h.res with h1 | h1
  · exact h1
  · exact absurd h1.2 (fun hr => h.no_round hE (Or.inl ⟨x, hp⟩) hr)
theorem GrowPost.all_has (h : GrowPost n L src s bad) (ha : ∀ v, 0 ≤ v → v < n → src v) {v : Int} (h0 : 0 ≤ v) (h1 : v < n) : hasN s v := by
  obtain ⟨b, T, hb, hb2, hB⟩ := h.bf
  have := (hB.t0 v h0 h1).1
  by_cases e : T v = 0
  · exact (hB.z v h0 h1 e).2.2.2 (ha v h0 h1)
  · exact (hB.p v h0 h1 (by omega)).2.2.1
theorem GrowPost.pot (h : GrowPost n L src s bad) (hE : EdgesOk n L) (ha : ∀ v, 0 ≤ v → v < n → src v) (hb : bad = -1) : Pot L (rd s.lo) := fun i h0 h1 => by
  rcases h.res with ⟨_, h2⟩ | h2
  · have hd := hE i h0 h1
    have := (h2.edge h0 h1 (h.all_has ha hd.a hd.b)).2
    omega
  · omega
theorem GrowPost.bad_iff (h : GrowPost n L src s bad) (hE : EdgesOk n L) (ha : ∀ v, 0 ≤ v → v < n → src v) : bad = -1 ↔ ∃ x, Pot L x :=
  ⟨fun e => ⟨_, h.pot hE ha e⟩, fun ⟨x, hx⟩ => (h.good hE hx).1⟩
theorem GrowPost.bounds (h : GrowPost n L src s bad) {v : Int} (h0 : 0 ≤ v) (h1 : v < n) : -(n * L.length) * 1073741824 ≤ rd s.lo v ∧ rd s.lo v ≤ (n * L.length) * 1073741824 := by
  obtain ⟨b, T, hb, hb2, hB⟩ := h.bf
  have := hB.w v h0 h1
  omega
end
/-- The shortest walk to a node, as the way back tells it. -/
structure Tree (n : Int) (L : List S39) (src : Int → Prop) (s : Sg) (v : Int) (c : Nat) : Prop where
  goes : Goes L s.la c v
  root : rd s.la (it L s.la c v) = -1
  zero : rd s.lo (it L s.la c v) = 0
  src : src (it L s.la c v)
  node : ∀ i, i ≤ c → 0 ≤ it L s.la i v ∧ it L s.la i v < n
  has : ∀ i, i ≤ c → hasN s (it L s.la i v)
  walk : Wk L (it L s.la c v) (chain L s.la c v).reverse v (rd s.lo v)
  apart : ∀ i j, i < j → j ≤ c → it L s.la i v ≠ it L s.la j v
  few : (c : Int) < n
section
variable {n : Nat} {L : List S39} {src : Int → Prop} {s : Sg} {bad : Int}
theorem GrowPost.tree (h : GrowPost n L src s bad) (hE : EdgesOk n L) (hf : Fix L s) {v : Int} (h0 : 0 ≤ v) (h1 : v < n) (hv : hasN s v) : ∃ c, Tree n L src s v c := by
  obtain ⟨b, T, hb, hb2, hB⟩ := h.bf
  have hno : ¬ Goes L s.la n v := fun hg => h.no_round hE (Or.inr hf) (it_round hg (fun i hi => hB.it_node hE i h0 h1 (goes_le hg hi)))
  have key : ∀ m : Nat, ¬ Goes L s.la m v → ∃ c, c < m ∧ Goes L s.la c v ∧ rd s.la (it L s.la c v) < 0 := by
    intro m
    induction m with
    | zero => intro hm; exact absurd trivial hm
    | succ m ih =>
      intro hm
      by_cases hg : Goes L s.la m v
      · refine ⟨m, by omega, hg, ?_⟩
        apply Classical.byContradiction
        intro hx
        exact hm ((goes_add L s.la m 1 v).2 ⟨hg, by omega, trivial⟩)
      · obtain ⟨c, a, b⟩ := ih hg
        exact ⟨c, by omega, b⟩
  obtain ⟨c, hc, hg, hla⟩ := key n hno
  have hnode : ∀ i, i ≤ c → 0 ≤ it L s.la i v ∧ it L s.la i v < n := fun i hi => hB.it_node hE i h0 h1 (goes_le hg hi)
  have hnc := hnode c (Nat.le_refl _)
  have hT : T (it L s.la c v) = 0 := by
    have := (hB.t0 _ hnc.1 hnc.2).1
    by_cases e : T (it L s.la c v) = 0
    · exact e
    · have := (hB.p _ hnc.1 hnc.2 (by omega)).1; omega
  have hz := hB.z _ hnc.1 hnc.2 hT
  have hhas : ∀ i, i ≤ c → hasN s (it L s.la i v) := by
    intro i
    induction i with
    | zero => intro _; exact hv
    | succ i ih =>
      intro hi
      have hn := hnode i (by omega)
      have hgi : Goes L s.la 1 (it L s.la i v) := ((goes_add L s.la i 1 v).1 (goes_le hg hi)).2
      have hp := (hB.p _ hn.1 hn.2 (hB.la_pos hn.1 hn.2 hgi.1)).2.2.2.2.1
      rw [it_add]; exact hp
  obtain ⟨W, w1, w2⟩ := hB.back hE c h0 h1 hg
  have hle := (hf.walk (hhas c (Nat.le_refl _)) w1).2
  refine ⟨c, hg, hz.1, hz.2.1, hz.2.2.1 (hhas c (Nat.le_refl _)), hnode, hhas, ?_, fun i j hi hj e => ?_, by omega⟩
  · have e : W = rd s.lo v := by have := hz.2.1; omega
    rw [← e]; exact w1
  · refine h.no_round hE (Or.inr hf) (v := it L s.la i v) ⟨(hnode i (by omega)).1, (hnode i (by omega)).2, j - i, by omega, ?_, ?_⟩
    · exact goes_le ((goes_add L s.la i (c - i) v).1 (by rw [show i + (c - i) = c from by omega]; exact hg)).2 (by omega)
    · rw [← it_add, show i + (j - i) = j from by omega, e]
theorem lenP_growP : ∀ (r r' : Nat) (s s' : Sg), r ≤ r' → growP L n r s = some (s', -1) → lenP L r' s = (s', true)
  | 0, r', s, s', hr, h => by simp [growP] at h
  | r + 1, 0, s, s', hr, h => by omega
  | r + 1, r' + 1, s, s', hr, h => by
    unfold growP at h
    unfold lenP
    by_cases hc : (pass L 0 (-1) s).1 < 0
    · rw [if_pos hc] at h ⊢
      simp only [Option.some.injEq, Prod.mk.injEq] at h
      rw [h.1]
    · rw [if_neg hc] at h ⊢
      by_cases hl : loopedL L (pass L 0 (-1) s).2.la n (pass L 0 (-1) s).1 ≥ 0
      · rw [if_pos hl] at h
        simp only [Option.some.injEq, Prod.mk.injEq] at h
        omega
      · rw [if_neg hl] at h
        exact lenP_growP r r' _ _ (by omega) h
theorem lenP_fix (hE : EdgesOk n L) : ∀ (r : Nat) (b : Int) (s s' : Sg) (T : Int → Int), 0 ≤ b → Bf n L src b 0 s T → lenP L r s = (s', true) → ∃ b' T', 0 ≤ b' ∧ Bf n L src b' L.length s' T' ∧ Fix L s'
  | 0, b, s, s', T, hb, h, hl => by simp [lenP] at hl
  | r + 1, b, s, s', T, hb, h, hl => by
    obtain ⟨T', h', hc⟩ := pass_bf hE hb L.length 0 (-1) s T (by omega) (by omega) h (Or.inl rfl)
    rw [show (0 : Int).toNat = 0 from rfl, List.drop_zero] at h' hc
    unfold lenP at hl
    rcases hc with ⟨c1, c2, c3, c4⟩ | hc
    · rw [if_pos (by omega)] at hl
      simp only [Prod.mk.injEq, and_true] at hl
      subst hl
      exact ⟨b, T', hb, h', fun i a b => by rw [c3]; exact c4 i a b⟩
    · rw [if_neg (by have := hc.1; omega)] at hl
      exact lenP_fix hE r _ _ s' T' (by omega) h'.next hl
end
/-- The start. -/
def sg0 (n : Nat) (from_ : List Int) : Sg := ⟨List.replicate n 0, from_.foldl (fun h i => h.set i.toNat true) (List.replicate n false), List.replicate n (-1)⟩
theorem rd_replicate (n : Nat) (x v : Int) (h0 : 0 ≤ v) (h1 : v < n) : rd (List.replicate n x) v = x := by
  unfold rd
  rw [List.getD_eq_getElem?_getD, List.getElem?_replicate, if_pos (by omega)]; rfl
theorem rdOf_replicate {α : Type} (n : Nat) (d x : α) (v : Int) (h0 : 0 ≤ v) (h1 : v < n) : rdOf d (List.replicate n x) v = x := by
  unfold rdOf
  rw [List.getD_eq_getElem?_getD, List.getElem?_replicate, if_pos (by omega)]; rfl
theorem foldl_has (n : Nat) : ∀ (l : List Int) (h : List Bool), h.length = n → (∀ i ∈ l, 0 ≤ i ∧ i < (n : Int)) → (l.foldl (fun h i => h.set i.toNat true) h).length = n ∧ ∀ v, 0 ≤ v → v < (n : Int) → (rdOf false (l.foldl (fun h i => h.set i.toNat true) h) v = true ↔ v ∈ l ∨ rdOf false h v = true)
  | [], h, hl, _ => ⟨hl, fun v _ _ => by simp⟩
  | i :: l, h, hl, hi => by
    have h1 := hi i (by simp)
    obtain ⟨a, b⟩ := foldl_has n l (h.set i.toNat true) (by simpa using hl) (fun j hj => hi j (by simp [hj]))
    refine ⟨a, fun v h0 hv => ?_⟩
    rw [List.foldl_cons, b v h0 hv, rdOf_set _ _ _ _ _ h1.1 (by omega) h0, List.mem_cons]
    by_cases e : v = i
    · simp [e]
    · simp [e]
theorem sg0_bf {n : Nat} {L : List S39} {from_ : List Int} (hf : ∀ i ∈ from_, 0 ≤ i ∧ i < (n : Int)) : Bf n L (fun v => v ∈ from_) 0 0 (sg0 n from_) (fun _ => 0) := by
  obtain ⟨a, b⟩ := foldl_has n from_ (List.replicate n false) (by simp) hf
  refine ⟨by simp [sg0], by simp only [sg0]; omega, by simp [sg0], fun v h0 h1 => ⟨by simp, by simp⟩, fun v h0 h1 _ => ⟨rd_replicate n _ v h0 h1, rd_replicate n _ v h0 h1, ?_⟩, fun v h0 h1 h => by simp at h, fun i h0 h1 h2 h3 => ?_, fun v h0 h1 => ?_⟩
  · unfold hasN
    show rdOf false (List.foldl _ _ _) v = true ↔ _
    rw [b v h0 h1, rdOf_replicate n _ _ v h0 h1]
    simp
  · rw [if_neg (by omega)] at h3
    omega
  · rw [show rd (sg0 n from_).lo v = 0 from rd_replicate n _ v h0 h1]
    omega
theorem grow_all {n : Nat} {L : List S39} {from_ : List Int} (hn : 0 < n) (hE : EdgesOk n L) (hf : ∀ i ∈ from_, 0 ≤ i ∧ i < (n : Int)) : ∃ s' bad, growP L n n (sg0 n from_) = some (s', bad) ∧ GrowPost n L (fun v => v ∈ from_) s' bad :=
  growP_post hE n 0 _ _ (by omega) hn (by simpa using sg0_bf hf)
end Go.Proofs.Ytpolojoeabmhdaa.A
