import Derived.Test.YtpolojoeabmhdaaMZcoreb
import Derived.Test.YtpolojoeabmhdaaMZcored
import Derived.Test.YtpolojoeabmhdaaMZcoree
import Derived.Test.YtpolojoeabmhdaaMZcoref
import Derived.Below
import Derived.ChangeOld
import Derived.ChangeSame
import Derived.ChangeSlices
import Derived.Deep.Fields
import Derived.Deep.Slices
import Derived.Lib.SmallJoins
import Derived.OpenShut
import Derived.ProofKit
import Derived.ShutString
import Derived.SizedLaws
import Derived.WalkKit
set_option linter.unusedVariables false
set_option linter.unusedSimpArgs false
/- Shortest walks in plain lists: passes over the differences, the way back, rounds of negative length. -/
namespace Go.Proofs.Ytpolojoeabmhdaa.A
open Go.RowKit Go.Proofs.YtpolojoeabmhdaaW.PrintWords Go.Proofs.YtpolojoeabmhdaaW.PrintLast Go.Proofs.YtpolojoeabmhdaaW.PrintMore
theorem rd_set (l : List Int) (i j x : Int) (h0 : 0 ≤ i) (h1 : i < l.length) (hj : 0 ≤ j) : rd (l.set i.toNat x) j = if j = i then x else rd l j := by
  unfold rd
  rw [List.getD_eq_getElem?_getD, List.getD_eq_getElem?_getD, List.getElem?_set]
  by_cases h : j = i
  · subst h; rw [if_pos rfl, if_pos rfl, if_pos (by omega)]; rfl
  · rw [if_neg h, if_neg (by omega)]
theorem rdOf_set {α : Type} (d : α) (l : List α) (i j : Int) (x : α) (h0 : 0 ≤ i) (h1 : i < l.length) (hj : 0 ≤ j) : rdOf d (l.set i.toNat x) j = if j = i then x else rdOf d l j := by
  unfold rdOf
  rw [List.getD_eq_getElem?_getD, List.getD_eq_getElem?_getD, List.getElem?_set]
  by_cases h : j = i
  · subst h; rw [if_pos rfl, if_pos rfl, if_pos (by omega)]; rfl
  · rw [if_neg h, if_neg (by omega)]
/-- Walks that are found so far. -/
structure Sg where
  lo : List Int
  ha : List Bool
  la : List Int
def Sg.better (s : Sg) (d : S39) : Bool := rdOf false s.ha d.f0 && (!rdOf false s.ha d.f1 || decide (rd s.lo d.f0 + d.f2 < rd s.lo d.f1))
def Sg.put (s : Sg) (d : S39) (k : Int) : Sg := ⟨s.lo.set d.f1.toNat (rd s.lo d.f0 + d.f2), s.ha.set d.f1.toNat true, s.la.set d.f1.toNat k⟩
/-- One pass over (the rest of) the differences. -/
def pass : List S39 → Int → Int → Sg → Int × Sg
  | [], _, c, s => (c, s)
  | d :: ds, k, c, s => if s.better d = true then pass ds (k + 1) d.f1 (s.put d k) else pass ds (k + 1) c s
structure EdgeOk (n : Int) (d : S39) : Prop where
  a : 0 ≤ d.f0
  b : d.f0 < n
  c : 0 ≤ d.f1
  g : d.f1 < n
  e : -1073741824 ≤ d.f2
  f : d.f2 ≤ 1073741824
def EdgesOk (n : Int) (L : List S39) : Prop := ∀ k : Int, 0 ≤ k → k < L.length → EdgeOk n (rd_T39 L k)
def hasN (s : Sg) (v : Int) : Prop := rdOf false s.ha v = true
/-- What holds before the difference k of the pass that began when b differences had been looked at. T: when a node was changed. -/
structure Bf (n : Int) (L : List S39) (src : Int → Prop) (b k : Int) (s : Sg) (T : Int → Int) : Prop where
  l1 : (s.lo.length : Int) = n
  l2 : (s.ha.length : Int) = n
  l3 : (s.la.length : Int) = n
  t0 : ∀ v, 0 ≤ v → v < n → 0 ≤ T v ∧ T v ≤ b + k
  z : ∀ v, 0 ≤ v → v < n → T v = 0 → rd s.la v = -1 ∧ rd s.lo v = 0 ∧ (hasN s v ↔ src v)
  p : ∀ v, 0 ≤ v → v < n → 0 < T v → 0 ≤ rd s.la v ∧ rd s.la v < L.length ∧ hasN s v ∧ (rd_T39 L (rd s.la v)).f1 = v ∧ hasN s (rd_T39 L (rd s.la v)).f0 ∧ rd s.lo v ≥ rd s.lo (rd_T39 L (rd s.la v)).f0 + (rd_T39 L (rd s.la v)).f2 ∧ (T (rd_T39 L (rd s.la v)).f0 ≥ T v → rd s.lo v > rd s.lo (rd_T39 L (rd s.la v)).f0 + (rd_T39 L (rd s.la v)).f2) ∧ T (rd_T39 L (rd s.la v)).f0 ≥ T v - L.length
  j : ∀ i : Int, 0 ≤ i → i < L.length → hasN s (rd_T39 L i).f0 → T (rd_T39 L i).f0 < (if i < k then b + i + 1 else b - L.length + i + 1) → hasN s (rd_T39 L i).f1 ∧ rd s.lo (rd_T39 L i).f1 ≤ rd s.lo (rd_T39 L i).f0 + (rd_T39 L i).f2
  w : ∀ v, 0 ≤ v → v < n → -(b + k) * 1073741824 ≤ rd s.lo v ∧ rd s.lo v ≤ (b + k) * 1073741824
theorem better_iff (s : Sg) (d : S39) : s.better d = true ↔ hasN s d.f0 ∧ (¬ hasN s d.f1 ∨ rd s.lo d.f0 + d.f2 < rd s.lo d.f1) := by
  unfold Sg.better hasN
  simp [Bool.and_eq_true, Bool.or_eq_true]
section
variable {n : Int} {L : List S39} {src : Int → Prop} {b k : Int} {s : Sg} {T : Int → Int}
theorem Bf.skip (h : Bf n L src b k s T) (hE : EdgesOk n L) (hk0 : 0 ≤ k) (hk : k < L.length) (hb : 0 ≤ b) (hn : ¬ s.better (rd_T39 L k) = true) : Bf n L src b (k + 1) s T := by
  refine ⟨h.l1, h.l2, h.l3, fun v a c => ⟨(h.t0 v a c).1, by have := (h.t0 v a c).2; omega⟩, h.z, h.p, fun i a c e f => ?_, fun v a c => ?_⟩
  · by_cases hi : i = k
    · subst hi
      rw [better_iff] at hn
      by_cases h1 : hasN s (rd_T39 L i).f1
      · exact ⟨h1, by
          have : ¬ (rd s.lo (rd_T39 L i).f0 + (rd_T39 L i).f2 < rd s.lo (rd_T39 L i).f1) := fun h2 => hn ⟨e, Or.inr h2⟩
          omega⟩
      · exact absurd ⟨e, Or.inl h1⟩ hn
    · refine h.j i a c e ?_
      by_cases h2 : i < k
      · rw [if_pos h2]; rw [if_pos (by omega)] at f; exact f
      · rw [if_neg h2]; rw [if_neg (by omega)] at f; exact f
  · have := h.w v a c
    omega
theorem hasN_put {s : Sg} {d : S39} {k v : Int} {n : Int} (hl : (s.ha.length : Int) = n) (hd : EdgeOk n d) (hv : 0 ≤ v) : hasN (s.put d k) v ↔ v = d.f1 ∨ hasN s v := by
  unfold hasN Sg.put
  rw [rdOf_set _ _ _ _ _ hd.c (by have := hd.g; omega) hv]
  by_cases h : v = d.f1
  · simp [h]
  · simp [h]
theorem lo_put {s : Sg} {d : S39} {k v : Int} {n : Int} (hl : (s.lo.length : Int) = n) (hd : EdgeOk n d) (hv : 0 ≤ v) : rd (s.put d k).lo v = if v = d.f1 then rd s.lo d.f0 + d.f2 else rd s.lo v :=
  rd_set _ _ _ _ hd.c (by have := hd.g; omega) hv
theorem la_put {s : Sg} {d : S39} {k v : Int} {n : Int} (hl : (s.la.length : Int) = n) (hd : EdgeOk n d) (hv : 0 ≤ v) : rd (s.put d k).la v = if v = d.f1 then k else rd s.la v :=
  rd_set _ _ _ _ hd.c (by have := hd.g; omega) hv
def Tput (T : Int → Int) (v t : Int) : Int → Int := fun x => if x = v then t else T x
theorem Bf.step (h : Bf n L src b k s T) (hE : EdgesOk n L) (hk0 : 0 ≤ k) (hk : k < L.length) (hb : 0 ≤ b) (hy : s.better (rd_T39 L k) = true) : Bf n L src b (k + 1) (s.put (rd_T39 L k) k) (Tput T (rd_T39 L k).f1 (b + k + 1)) := by
  have hd := hE k hk0 hk
  rw [better_iff] at hy
  obtain ⟨hu, hv⟩ := hy
  generalize hdd : rd_T39 L k = d at *
  have tu := h.t0 d.f0 hd.a hd.b
  have tv := h.t0 d.f1 hd.c hd.g
  have hself : d.f0 = d.f1 → d.f2 < 0 := fun e => by
    rcases hv with hv | hv
    · rw [← e] at hv; exact absurd hu hv
    · rw [e] at hv; omega
  have hlow : hasN s d.f1 → rd s.lo d.f0 + d.f2 < rd s.lo d.f1 := fun e => by
    rcases hv with hv | hv
    · exact absurd e hv
    · exact hv
  have hdrop : T d.f0 ≥ b + k + 1 - L.length := by
    by_cases hc : T d.f0 < b - L.length + k + 1
    · have := h.j k hk0 hk (by rw [hdd]; exact hu) (by rw [hdd, if_neg (by omega)]; exact hc)
      rw [hdd] at this
      rcases hv with hv | hv
      · exact absurd this.1 hv
      · omega
    · omega
  refine ⟨?_, ?_, ?_, ?_, ?_, ?_, ?_, ?_⟩
  · simpa [Sg.put] using h.l1
  · simpa [Sg.put] using h.l2
  · simpa [Sg.put] using h.l3
  · intro v a c
    have := h.t0 v a c
    unfold Tput
    by_cases e : v = d.f1
    · rw [if_pos e]; omega
    · rw [if_neg e]; omega
  · intro v a c ht
    unfold Tput at ht
    by_cases e : v = d.f1
    · rw [if_pos e] at ht; omega
    · rw [if_neg e] at ht
      have := h.z v a c ht
      rw [la_put h.l3 hd a, lo_put h.l1 hd a, if_neg e, if_neg e, hasN_put h.l2 hd a]
      exact ⟨this.1, this.2.1, ⟨fun q => this.2.2.1 (q.resolve_left e), fun q => Or.inr (this.2.2.2 q)⟩⟩
  · intro v a c ht
    rw [la_put h.l3 hd a, lo_put h.l1 hd a, hasN_put h.l2 hd a]
    by_cases e : v = d.f1
    · rw [if_pos e, if_pos e, hdd]
      refine ⟨hk0, hk, Or.inl e, e.symm, ?_, ?_, ?_, ?_⟩
      · rw [hasN_put h.l2 hd hd.a]; exact Or.inr hu
      · rw [lo_put h.l1 hd hd.a]
        by_cases e2 : d.f0 = d.f1
        · rw [if_pos e2]; have := hself e2; omega
        · rw [if_neg e2]; omega
      · rw [lo_put h.l1 hd hd.a]
        unfold Tput
        rw [if_pos e]
        by_cases e2 : d.f0 = d.f1
        · rw [if_pos e2, if_pos e2]; have := hself e2; omega
        · rw [if_neg e2, if_neg e2]; omega
      · unfold Tput
        rw [if_pos e]
        by_cases e2 : d.f0 = d.f1
        · rw [if_pos e2]; omega
        · rw [if_neg e2]; omega
    · unfold Tput at ht
      rw [if_neg e] at ht
      obtain ⟨q1, q2, q3, q4, q5, q6, q7, q8⟩ := h.p v a c ht
      have hd' := hE _ q1 q2
      rw [if_neg e, if_neg e]
      refine ⟨q1, q2, Or.inr q3, q4, ?_, ?_, ?_, ?_⟩
      · rw [hasN_put h.l2 hd hd'.a]; exact Or.inr q5
      · rw [lo_put h.l1 hd hd'.a]
        by_cases e2 : (rd_T39 L (rd s.la v)).f0 = d.f1
        · rw [if_pos e2]; rw [e2] at q5 q6; have := hlow q5; omega
        · rw [if_neg e2]; exact q6
      · rw [lo_put h.l1 hd hd'.a]
        unfold Tput
        rw [if_neg e]
        by_cases e2 : (rd_T39 L (rd s.la v)).f0 = d.f1
        · rw [if_pos e2]; rw [e2] at q5 q6; have := hlow q5; omega
        · rw [if_neg e2, if_neg e2]; exact q7
      · unfold Tput
        rw [if_neg e]
        have tv' := h.t0 v a c
        by_cases e2 : (rd_T39 L (rd s.la v)).f0 = d.f1
        · rw [if_pos e2]; omega
        · rw [if_neg e2]; exact q8
  · intro i a c e f
    have hd' := hE i a c
    rw [hasN_put h.l2 hd hd'.a] at e
    rw [hasN_put h.l2 hd hd'.c, lo_put h.l1 hd hd'.a, lo_put h.l1 hd hd'.c]
    unfold Tput at f
    by_cases e2 : (rd_T39 L i).f0 = d.f1
    · rw [if_pos e2] at f
      exfalso
      by_cases hi : i < k + 1
      · rw [if_pos hi] at f; omega
      · rw [if_neg hi] at f; omega
    · rw [if_neg e2] at f
      have e' := e.resolve_left e2
      rw [if_neg e2]
      by_cases hi : i = k
      · subst hi
        rw [hdd, if_pos rfl]
        exact ⟨Or.inl rfl, by omega⟩
      · have hj := h.j i a c e' (by
          by_cases h2 : i < k
          · rw [if_pos h2]; rw [if_pos (by omega)] at f; exact f
          · rw [if_neg h2]; rw [if_neg (by omega)] at f; exact f)
        refine ⟨Or.inr hj.1, ?_⟩
        by_cases e3 : (rd_T39 L i).f1 = d.f1
        · rw [if_pos e3]; rw [e3] at hj; have := hlow hj.1; omega
        · rw [if_neg e3]; exact hj.2
  · intro v a c
    rw [lo_put h.l1 hd a]
    have w1 := h.w v a c
    have w2 := h.w d.f0 hd.a hd.b
    have := hd.e
    have := hd.f
    by_cases e : v = d.f1
    · rw [if_pos e]; omega
    · rw [if_neg e]; omega
end
theorem rd_T39_drop (L : List S39) (k : Int) (h0 : 0 ≤ k) (h1 : k < L.length) : L.drop k.toNat = rd_T39 L k :: L.drop (k + 1).toNat := by
  rw [show (k + 1).toNat = k.toNat + 1 from by omega, List.drop_eq_getElem_cons (by omega)]
  congr 1
  unfold rd_T39
  rw [List.getD_eq_getElem?_getD, List.getElem?_eq_getElem (by omega)]; rfl
def Chg (n b c : Int) (T : Int → Int) : Prop := 0 ≤ c ∧ c < n ∧ b < T c
theorem pass_bf {n : Int} {L : List S39} {src : Int → Prop} {b : Int} (hE : EdgesOk n L) (hb : 0 ≤ b) : ∀ (q : Nat) (k c : Int) (s : Sg) (T : Int → Int), (q : Int) + k = L.length → 0 ≤ k → Bf n L src b k s T → (c = -1 ∨ Chg n b c T) →
    ∃ T', Bf n L src b L.length (pass (L.drop k.toNat) k c s).2 T' ∧ (((pass (L.drop k.toNat) k c s).1 = -1 ∧ c = -1 ∧ (pass (L.drop k.toNat) k c s).2 = s ∧ (∀ i : Int, k ≤ i → i < L.length → ¬ s.better (rd_T39 L i) = true)) ∨ Chg n b (pass (L.drop k.toNat) k c s).1 T')
  | 0, k, c, s, T, hq, h0, h, hc => by
    have hk : k = L.length := by omega
    rw [List.drop_eq_nil_of_le (by omega)]
    subst hk
    refine ⟨T, h, ?_⟩
    rcases hc with hc | hc
    · exact Or.inl ⟨hc, hc, rfl, fun i a b => by omega⟩
    · exact Or.inr hc
  | q + 1, k, c, s, T, hq, h0, h, hc => by
    have hk : k < L.length := by omega
    rw [rd_T39_drop L k h0 hk]
    unfold pass
    by_cases hy : s.better (rd_T39 L k) = true
    · rw [if_pos hy]
      have h' := h.step hE h0 hk hb hy
      have hd := hE k h0 hk
      obtain ⟨T', r1, r2⟩ := pass_bf hE hb q (k + 1) (rd_T39 L k).f1 (s.put (rd_T39 L k) k) _ (by omega) (by omega) h' (Or.inr ⟨hd.c, hd.g, by unfold Tput; rw [if_pos rfl]; omega⟩)
      refine ⟨T', r1, ?_⟩
      rcases r2 with r2 | r2
      · have := hd.c; omega
      · exact Or.inr r2
    · rw [if_neg hy]
      obtain ⟨T', r1, r2⟩ := pass_bf hE hb q (k + 1) c s T (by omega) (by omega) (h.skip hE h0 hk hb hy) hc
      refine ⟨T', r1, ?_⟩
      rcases r2 with ⟨a1, a2, a3, a4⟩ | r2
      · refine Or.inl ⟨a1, a2, a3, fun i e f => ?_⟩
        by_cases hi : i = k
        · rw [hi]; exact hy
        · exact a4 i (by omega) f
      · exact Or.inr r2
theorem Bf.next {n : Int} {L : List S39} {src : Int → Prop} {b : Int} {s : Sg} {T : Int → Int} (h : Bf n L src b L.length s T) : Bf n L src (b + L.length) 0 s T :=
  ⟨h.l1, h.l2, h.l3, fun v a c => by have := h.t0 v a c; omega, h.z, h.p, fun i a c e f => h.j i a c e (by
    rw [if_neg (by omega)] at f
    rw [if_pos (by omega)]
    omega), fun v a c => by have := h.w v a c; omega⟩
/-- The node before a node. -/
def bk (L : List S39) (la : List Int) (v : Int) : Int := (rd_T39 L (rd la v)).f0
def it (L : List S39) (la : List Int) : Nat → Int → Int
  | 0, v => v
  | i + 1, v => it L la i (bk L la v)
def chain (L : List S39) (la : List Int) : Nat → Int → List Int
  | 0, _ => []
  | i + 1, v => rd la v :: chain L la i (bk L la v)
def loopedL (L : List S39) (la : List Int) : Nat → Int → Int
  | 0, v => v
  | i + 1, v => if rd la v < 0 then -1 else loopedL L la i (bk L la v)
/-- The way back goes on for so many steps. -/
def Goes (L : List S39) (la : List Int) : Nat → Int → Prop
  | 0, _ => True
  | i + 1, v => 0 ≤ rd la v ∧ Goes L la i (bk L la v)
theorem looped_goes (L : List S39) (la : List Int) : ∀ i v, (Goes L la i v ∧ loopedL L la i v = it L la i v) ∨ (¬ Goes L la i v ∧ loopedL L la i v = -1)
  | 0, v => Or.inl ⟨trivial, rfl⟩
  | i + 1, v => by
    unfold Goes loopedL it
    by_cases h : rd la v < 0
    · rw [if_pos h]; exact Or.inr ⟨fun q => by omega, rfl⟩
    · rw [if_neg h]
      rcases looped_goes L la i (bk L la v) with ⟨a, b⟩ | ⟨a, b⟩
      · exact Or.inl ⟨⟨by omega, a⟩, b⟩
      · exact Or.inr ⟨fun q => a q.2, b⟩
theorem it_add (L : List S39) (la : List Int) : ∀ i j v, it L la (i + j) v = it L la j (it L la i v)
  | 0, j, v => by rw [Nat.zero_add]; rfl
  | i + 1, j, v => by rw [show i + 1 + j = (i + j) + 1 from by omega]; exact it_add L la i j _
theorem goes_add (L : List S39) (la : List Int) : ∀ i j v, Goes L la (i + j) v ↔ Goes L la i v ∧ Goes L la j (it L la i v)
  | 0, j, v => by rw [Nat.zero_add]; simp [Goes, it]
  | i + 1, j, v => by
    rw [show i + 1 + j = (i + j) + 1 from by omega]
    simp only [Goes, it]
    rw [goes_add L la i j, and_assoc]
theorem goes_le {L : List S39} {la : List Int} {i j : Nat} {v : Int} (h : Goes L la j v) (hi : i ≤ j) : Goes L la i v := by
  obtain ⟨q, rfl⟩ : ∃ q, j = i + q := ⟨j - i, by omega⟩
  exact ((goes_add L la i q v).1 h).1
/-- A walk: from, its differences, to, length. -/
def Wk (L : List S39) : Int → List Int → Int → Int → Prop
  | u, [], v, W => v = u ∧ W = 0
  | u, i :: is, v, W => (0 ≤ i ∧ i < L.length) ∧ (rd_T39 L i).f0 = u ∧ Wk L (rd_T39 L i).f1 is v (W - (rd_T39 L i).f2)
theorem Wk.append {L : List S39} : ∀ {u : Int} {l1 : List Int} {v W1 : Int} {l2 : List Int} {x W2 : Int}, Wk L u l1 v W1 → Wk L v l2 x W2 → Wk L u (l1 ++ l2) x (W1 + W2)
  | u, [], v, W1, l2, x, W2, h1, h2 => by
    obtain ⟨rfl, rfl⟩ := h1
    rw [Int.zero_add]; exact h2
  | u, i :: is, v, W1, l2, x, W2, h1, h2 => by
    obtain ⟨a, b, c⟩ := h1
    refine ⟨a, b, ?_⟩
    have := Wk.append c h2
    rw [show W1 + W2 - (rd_T39 L i).f2 = W1 - (rd_T39 L i).f2 + W2 from by omega]
    exact this
section
variable {n : Int} {L : List S39} {src : Int → Prop} {b k : Int} {s : Sg} {T : Int → Int}
theorem Bf.la_pos (h : Bf n L src b k s T) {v : Int} (h0 : 0 ≤ v) (h1 : v < n) (h2 : 0 ≤ rd s.la v) : 0 < T v := by
  have := (h.t0 v h0 h1).1
  by_cases e : T v = 0
  · have := (h.z v h0 h1 e).1; omega
  · omega
theorem Bf.bk_node (h : Bf n L src b k s T) (hE : EdgesOk n L) {v : Int} (h0 : 0 ≤ v) (h1 : v < n) (h2 : 0 ≤ rd s.la v) : 0 ≤ bk L s.la v ∧ bk L s.la v < n := by
  have hp := h.p v h0 h1 (h.la_pos h0 h1 h2)
  exact ⟨(hE _ hp.1 hp.2.1).a, (hE _ hp.1 hp.2.1).b⟩
theorem Bf.it_node (h : Bf n L src b k s T) (hE : EdgesOk n L) : ∀ (i : Nat) {v : Int}, 0 ≤ v → v < n → Goes L s.la i v → 0 ≤ it L s.la i v ∧ it L s.la i v < n
  | 0, v, h0, h1, _ => ⟨h0, h1⟩
  | i + 1, v, h0, h1, hg => by
    have := h.bk_node hE h0 h1 hg.1
    exact h.it_node hE i this.1 this.2 hg.2
/-- The way back as a walk forward. -/
theorem Bf.back (h : Bf n L src b k s T) (hE : EdgesOk n L) : ∀ (i : Nat) {v : Int}, 0 ≤ v → v < n → Goes L s.la i v → ∃ W, Wk L (it L s.la i v) (chain L s.la i v).reverse v W ∧ (rd s.lo v > rd s.lo (it L s.la i v) + W ∨ (rd s.lo v ≥ rd s.lo (it L s.la i v) + W ∧ T (it L s.la i v) + i ≤ T v))
  | 0, v, h0, h1, _ => ⟨0, ⟨rfl, rfl⟩, Or.inr ⟨by simp [it], by simp [it]⟩⟩
  | i + 1, v, h0, h1, hg => by
    have hn := h.bk_node hE h0 h1 hg.1
    have hp := h.p v h0 h1 (h.la_pos h0 h1 hg.1)
    obtain ⟨W, w1, w2⟩ := h.back hE i hn.1 hn.2 hg.2
    refine ⟨W + (rd_T39 L (rd s.la v)).f2, ?_, ?_⟩
    · have : Wk L (bk L s.la v) [rd s.la v] v (rd_T39 L (rd s.la v)).f2 := ⟨⟨hp.1, hp.2.1⟩, rfl, hp.2.2.2.1.symm, by omega⟩
      simp only [chain, it, List.reverse_cons]
      exact w1.append this
    · simp only [it]
      have e : (rd_T39 L (rd s.la v)).f0 = bk L s.la v := rfl
      have q6 := hp.2.2.2.2.2.1
      have q7 := hp.2.2.2.2.2.2.1
      rw [e] at q6 q7
      rcases w2 with w2 | ⟨w2, w3⟩
      · left; omega
      · by_cases ht : T (bk L s.la v) ≥ T v
        · left; have := q7 ht; omega
        · right; exact ⟨by omega, by push_cast; omega⟩
/-- A round of the way back has a negative length. -/
theorem Bf.round (h : Bf n L src b k s T) (hE : EdgesOk n L) {c : Nat} {v : Int} (h0 : 0 ≤ v) (h1 : v < n) (hg : Goes L s.la c v) (hc : 0 < c) (e : it L s.la c v = v) : ∃ W, W < 0 ∧ Wk L v (chain L s.la c v).reverse v W := by
  obtain ⟨W, w1, w2⟩ := h.back hE c h0 h1 hg
  rw [e] at w1 w2
  exact ⟨W, by omega, w1⟩
theorem Bf.goes_far (h : Bf n L src b k s T) (hE : EdgesOk n L) : ∀ (i : Nat) {v : Int}, 0 ≤ v → v < n → (i : Int) * L.length < T v → Goes L s.la (i + 1) v
  | 0, v, h0, h1, ht => ⟨(h.p v h0 h1 (by simpa using ht)).1, trivial⟩
  | i + 1, v, h0, h1, ht => by
    rw [show ((i + 1 : Nat) : Int) * L.length = (i : Int) * L.length + L.length from by rw [Int.natCast_add, Int.add_mul]; simp] at ht
    have hpos : (0 : Int) ≤ (i : Int) * L.length := Int.mul_nonneg (by omega) (by omega)
    have hp := h.p v h0 h1 (by omega)
    have hn := h.bk_node hE h0 h1 hp.1
    exact ⟨hp.1, h.goes_far hE i hn.1 hn.2 (by have := hp.2.2.2.2.2.2.2; unfold bk; omega)⟩
end
theorem nodup_le : ∀ (n : Nat) (l : List Int), l.Nodup → (∀ x ∈ l, 0 ≤ x ∧ x < n) → l.length ≤ n
  | 0, l, _, h => by
    cases l with
    | nil => simp
    | cons x xs => have := h x (by simp); omega
  | n + 1, l, hl, h => by
    have hx := nodup_le n (l.erase (n : Int)) (hl.erase _) (fun x hx => by
      have h2 := (hl.mem_erase_iff).1 hx
      have := h x h2.2
      omega)
    by_cases hm : (n : Int) ∈ l
    · have := List.length_erase_of_mem hm; omega
    · rw [List.erase_of_not_mem hm] at hx; omega
theorem pigeon (n : Nat) (f : Nat → Int) (h : ∀ i, i ≤ n → 0 ≤ f i ∧ f i < n) : ∃ i j, i < j ∧ j ≤ n ∧ f i = f j := by
  apply Classical.byContradiction
  intro hn
  have hnd : ((List.range (n + 1)).map f).Nodup := by
    rw [List.Nodup, List.pairwise_map]
    have := List.pairwise_lt_range (n := n + 1)
    refine List.Pairwise.imp_of_mem (fun {a b} ha hb hab e => hn ⟨a, b, hab, ?_, e⟩) this
    have := List.mem_range.1 hb; omega
  have := nodup_le n _ hnd (fun x hx => by
    obtain ⟨i, hi, rfl⟩ := List.mem_map.1 hx
    exact h i (by have := List.mem_range.1 hi; omega))
  rw [List.length_map, List.length_range] at this
  omega
/-- No difference makes a walk shorter. -/
def Fix (L : List S39) (s : Sg) : Prop := ∀ i : Int, 0 ≤ i → i < L.length → ¬ s.better (rd_T39 L i) = true
theorem Fix.edge {L : List S39} {s : Sg} (h : Fix L s) {i : Int} (h0 : 0 ≤ i) (h1 : i < L.length) (hu : hasN s (rd_T39 L i).f0) : hasN s (rd_T39 L i).f1 ∧ rd s.lo (rd_T39 L i).f1 ≤ rd s.lo (rd_T39 L i).f0 + (rd_T39 L i).f2 := by
  have := h i h0 h1
  rw [better_iff] at this
  by_cases h2 : hasN s (rd_T39 L i).f1
  · refine ⟨h2, ?_⟩
    have h3 : ¬ (rd s.lo (rd_T39 L i).f0 + (rd_T39 L i).f2 < rd s.lo (rd_T39 L i).f1) := fun h3 => this ⟨hu, Or.inr h3⟩
    omega
  · exact absurd ⟨hu, Or.inl h2⟩ this
theorem Fix.walk {L : List S39} {s : Sg} (h : Fix L s) : ∀ {u : Int} {l : List Int} {v W : Int}, hasN s u → Wk L u l v W → hasN s v ∧ rd s.lo v ≤ rd s.lo u + W
  | u, [], v, W, hu, hw => by
    obtain ⟨rfl, rfl⟩ := hw
    exact ⟨hu, by omega⟩
  | u, i :: is, v, W, hu, hw => by
    obtain ⟨⟨a, b⟩, rfl, c⟩ := hw
    have h1 := h.edge a b hu
    have h2 := h.walk h1.1 c
    exact ⟨h2.1, by have := h2.2; omega⟩
/-- Numbers that fulfil all differences. -/
def Pot (L : List S39) (x : Int → Int) : Prop := ∀ i : Int, 0 ≤ i → i < L.length → x (rd_T39 L i).f1 - x (rd_T39 L i).f0 ≤ (rd_T39 L i).f2
theorem Pot.walk {L : List S39} {x : Int → Int} (h : Pot L x) : ∀ {u : Int} {l : List Int} {v W : Int}, Wk L u l v W → x v - x u ≤ W
  | u, [], v, W, hw => by
    obtain ⟨rfl, rfl⟩ := hw
    omega
  | u, i :: is, v, W, hw => by
    obtain ⟨⟨a, b⟩, rfl, c⟩ := hw
    have h1 := h i a b
    have h2 := h.walk c
    omega
def growP (L : List S39) (n : Nat) : Nat → Sg → Option (Sg × Int)
  | 0, _ => none
  | r + 1, s => if (pass L 0 (-1) s).1 < 0 then some ((pass L 0 (-1) s).2, -1) else (if loopedL L (pass L 0 (-1) s).2.la n (pass L 0 (-1) s).1 ≥ 0 then some ((pass L 0 (-1) s).2, loopedL L (pass L 0 (-1) s).2.la n (pass L 0 (-1) s).1) else growP L n r (pass L 0 (-1) s).2)
def lenP (L : List S39) : Nat → Sg → Sg × Bool
  | 0, s => (s, false)
  | r + 1, s => if (pass L 0 (-1) s).1 < 0 then ((pass L 0 (-1) s).2, true) else lenP L r (pass L 0 (-1) s).2
/-- A round of negative length through a node. -/
def Round (L : List S39) (la : List Int) (n v : Int) : Prop := 0 ≤ v ∧ v < n ∧ ∃ c : Nat, 0 < c ∧ Goes L la c v ∧ it L la c v = v
structure GrowPost (n : Int) (L : List S39) (src : Int → Prop) (s : Sg) (bad : Int) : Prop where
  bf : ∃ b T, 0 ≤ b ∧ b + L.length ≤ n * L.length ∧ Bf n L src b L.length s T
  res : (bad = -1 ∧ Fix L s) ∨ (0 ≤ bad ∧ Round L s.la n bad)
theorem it_round {L : List S39} {la : List Int} {n : Nat} {v : Int} (hg : Goes L la n v) (hn : ∀ i, i ≤ n → 0 ≤ it L la i v ∧ it L la i v < n) : Round L la n (it L la n v) := by
  obtain ⟨i, j, h1, h2, h3⟩ := pigeon n (fun i => it L la i v) hn
  replace h3 : it L la i v = it L la j v := h3
  have e1 : it L la n v = it L la (n - j) (it L la i v) := by rw [h3, ← it_add]; congr 1; omega
  have e2 : it L la (n - i) (it L la i v) = it L la n v := by rw [← it_add]; congr 1; omega
  have e3 : it L la (j - i) (it L la i v) = it L la i v := by rw [← it_add, h3]; congr 1; omega
  have hgi : Goes L la (n - i) (it L la i v) := ((goes_add L la i (n - i) v).1 (by rw [show i + (n - i) = n from by omega]; exact hg)).2
  have hgj : Goes L la (n - j) (it L la i v) := by rw [h3]; exact ((goes_add L la j (n - j) v).1 (by rw [show j + (n - j) = n from by omega]; exact hg)).2
  have hgd : Goes L la (j - i) (it L la i v) := goes_le hgi (by omega)
  refine ⟨(hn n (Nat.le_refl _)).1, (hn n (Nat.le_refl _)).2, j - i, by omega, ?_, ?_⟩
  · -- from the node at n on: (n - j) steps behind the node i, then (j - i) more
    have : Goes L la ((j - i) + (n - j)) (it L la i v) := by rw [goes_add]; exact ⟨hgd, by rw [e3]; exact hgj⟩
    rw [Nat.add_comm, goes_add, ← e1] at this
    exact this.2
  · rw [e1, ← it_add, Nat.add_comm, it_add, e3]
theorem growP_post {n : Nat} {L : List S39} {src : Int → Prop} (hE : EdgesOk n L) : ∀ (r q : Nat) (s : Sg) (T : Int → Int), q + r = n → 0 < r → Bf n L src ((q : Int) * L.length) 0 s T →
    ∃ s' bad, growP L n r s = some (s', bad) ∧ GrowPost n L src s' bad
  | 0, q, s, T, hq, hr, h => by omega
  | r + 1, q, s, T, hq, hr, h => by
    have hpos : (0 : Int) ≤ (q : Int) * L.length := Int.mul_nonneg (by omega) (by omega)
    obtain ⟨T', h', hc⟩ := pass_bf hE hpos L.length 0 (-1) s T (by omega) (by omega) h (Or.inl rfl)
    rw [show (0 : Int).toNat = 0 from rfl, List.drop_zero] at h' hc
    have hb1 : ((q : Int) + 1) * L.length = (q : Int) * L.length + L.length := by rw [Int.add_mul, Int.one_mul]
    have hb2 : (q : Int) * L.length + L.length ≤ (n : Int) * L.length := by
      rw [← hb1]; exact Int.mul_le_mul_of_nonneg_right (by omega) (by omega)
    unfold growP
    rcases hc with ⟨c1, c2, c3, c4⟩ | hc
    · rw [if_pos (by omega)]
      exact ⟨_, _, rfl, ⟨_, T', hpos, hb2, h'⟩, Or.inl ⟨rfl, fun i a b => by rw [c3]; exact c4 i a b⟩⟩
    · rw [if_neg (by have := hc.1; omega)]
      have hfar := h'.goes_far hE q hc.1 hc.2.1 hc.2.2
      rcases looped_goes L (pass L 0 (-1) s).2.la n (pass L 0 (-1) s).1 with ⟨g1, g2⟩ | ⟨g1, g2⟩
      · have hnode := h'.it_node hE n hc.1 hc.2.1 g1
        rw [if_pos (by rw [g2]; exact hnode.1)]
        refine ⟨_, _, rfl, ⟨_, T', hpos, hb2, h'⟩, Or.inr ⟨by rw [g2]; exact hnode.1, ?_⟩⟩
        rw [g2]
        exact it_round g1 (fun i hi => h'.it_node hE i hc.1 hc.2.1 (goes_le g1 hi))
      · rw [if_neg (by rw [g2]; omega)]
        by_cases hr : r = 0
        · exact absurd (goes_le hfar (by omega)) g1
        · have h'' := h'.next
          rw [← hb1] at h''
          exact growP_post hE r (q + 1) _ T' (by omega) (by omega) (by push_cast; exact h'')
section
variable {n : Int} {L : List S39} {src : Int → Prop} {s : Sg} {bad : Int}
theorem GrowPost.round (h : GrowPost n L src s bad) (hE : EdgesOk n L) {v : Int} (hr : Round L s.la n v) : ∃ c : Nat, ∃ W, 0 < c ∧ Goes L s.la c v ∧ it L s.la c v = v ∧ W < 0 ∧ Wk L v (chain L s.la c v).reverse v W := by
  obtain ⟨b, T, hb, hb2, hB⟩ := h.bf
  obtain ⟨h0, h1, c, hc, hg, he⟩ := hr
  obtain ⟨W, w1, w2⟩ := hB.round hE h0 h1 hg hc he
  exact ⟨c, W, hc, hg, he, w1, w2⟩
theorem GrowPost.no_round (h : GrowPost n L src s bad) (hE : EdgesOk n L) (hp : (∃ x, Pot L x) ∨ Fix L s) {v : Int} (hr : Round L s.la n v) : False := by
  obtain ⟨c, W, hc, hg, he, w1, w2⟩ := h.round hE hr
  rcases hp with ⟨x, hp⟩ | hp
  · have := hp.walk w2; omega
  · obtain ⟨b, T, hb, hb2, hB⟩ := h.bf
    obtain ⟨h0, h1, _⟩ := hr
    have hv : hasN s v := by
      obtain ⟨c', rfl⟩ : ∃ c', c = c' + 1 := ⟨c - 1, by omega⟩
      exact (hB.p v h0 h1 (hB.la_pos h0 h1 hg.1)).2.2.1
    have := (hp.walk hv w2).2
    omega
theorem GrowPost.good (h : GrowPost n L src s bad) (hE : EdgesOk n L) {x : Int → Int} (hp : Pot L x) : bad = -1 ∧ Fix L s := by
  rcases h.res with h1 | h1
  · exact h1
  · exact absurd h1.2 (fun hr => h.no_round hE (Or.inl ⟨x, hp⟩) hr)
theorem GrowPost.all_has (h : GrowPost n L src s bad) (ha : ∀ v, 0 ≤ v → v < n → src v) {v : Int} (h0 : 0 ≤ v) (h1 : v < n) : hasN s v := by
  obtain ⟨b, T, hb, hb2, hB⟩ := h.bf
  have := (hB.t0 v h0 h1).1
  by_cases e : T v = 0
  · exact (hB.z v h0 h1 e).2.2.2 (ha v h0 h1)
  · exact (hB.p v h0 h1 (by omega)).2.2.1
theorem GrowPost.pot (h : GrowPost n L src s bad) (hE : EdgesOk n L) (ha : ∀ v, 0 ≤ v → v < n → src v) (hb : bad = -1) : Pot L (rd s.lo) := fun i h0 h1 => by
  rcases h.res with ⟨_, h2⟩ | h2
  · have hd := hE i h0 h1
    have := (h2.edge h0 h1 (h.all_has ha hd.a hd.b)).2
    omega
  · omega
theorem GrowPost.bad_iff (h : GrowPost n L src s bad) (hE : EdgesOk n L) (ha : ∀ v, 0 ≤ v → v < n → src v) : bad = -1 ↔ ∃ x, Pot L x :=
  ⟨fun e => ⟨_, h.pot hE ha e⟩, fun ⟨x, hx⟩ => (h.good hE hx).1⟩
theorem GrowPost.bounds (h : GrowPost n L src s bad) {v : Int} (h0 : 0 ≤ v) (h1 : v < n) : -(n * L.length) * 1073741824 ≤ rd s.lo v ∧ rd s.lo v ≤ (n * L.length) * 1073741824 := by
  obtain ⟨b, T, hb, hb2, hB⟩ := h.bf
  have := hB.w v h0 h1
  omega
end
/-- The shortest walk to a node, as the way back tells it. -/
structure Tree (n : Int) (L : List S39) (src : Int → Prop) (s : Sg) (v : Int) (c : Nat) : Prop where
  goes : Goes L s.la c v
  root : rd s.la (it L s.la c v) = -1
  zero : rd s.lo (it L s.la c v) = 0
  src : src (it L s.la c v)
  node : ∀ i, i ≤ c → 0 ≤ it L s.la i v ∧ it L s.la i v < n
  has : ∀ i, i ≤ c → hasN s (it L s.la i v)
  walk : Wk L (it L s.la c v) (chain L s.la c v).reverse v (rd s.lo v)
  apart : ∀ i j, i < j → j ≤ c → it L s.la i v ≠ it L s.la j v
  few : (c : Int) < n
section
variable {n : Nat} {L : List S39} {src : Int → Prop} {s : Sg} {bad : Int}
theorem GrowPost.tree (h : GrowPost n L src s bad) (hE : EdgesOk n L) (hf : Fix L s) {v : Int} (h0 : 0 ≤ v) (h1 : v < n) (hv : hasN s v) : ∃ c, Tree n L src s v c := by
  obtain ⟨b, T, hb, hb2, hB⟩ := h.bf
  have hno : ¬ Goes L s.la n v := fun hg => h.no_round hE (Or.inr hf) (it_round hg (fun i hi => hB.it_node hE i h0 h1 (goes_le hg hi)))
  have key : ∀ m : Nat, ¬ Goes L s.la m v → ∃ c, c < m ∧ Goes L s.la c v ∧ rd s.la (it L s.la c v) < 0 := by
    intro m
    induction m with
    | zero => intro hm; exact absurd trivial hm
    | succ m ih =>
      intro hm
      by_cases hg : Goes L s.la m v
      · refine ⟨m, by omega, hg, ?_⟩
        apply Classical.byContradiction
        intro hx
        exact hm ((goes_add L s.la m 1 v).2 ⟨hg, by omega, trivial⟩)
      · obtain ⟨c, a, b⟩ := ih hg
        exact ⟨c, by omega, b⟩
  obtain ⟨c, hc, hg, hla⟩ := key n hno
  have hnode : ∀ i, i ≤ c → 0 ≤ it L s.la i v ∧ it L s.la i v < n := fun i hi => hB.it_node hE i h0 h1 (goes_le hg hi)
  have hnc := hnode c (Nat.le_refl _)
  have hT : T (it L s.la c v) = 0 := by
    have := (hB.t0 _ hnc.1 hnc.2).1
    by_cases e : T (it L s.la c v) = 0
    · exact e
    · have := (hB.p _ hnc.1 hnc.2 (by omega)).1; omega
  have hz := hB.z _ hnc.1 hnc.2 hT
  have hhas : ∀ i, i ≤ c → hasN s (it L s.la i v) := by
    intro i
    induction i with
    | zero => intro _; exact hv
    | succ i ih =>
      intro hi
      have hn := hnode i (by omega)
      have hgi : Goes L s.la 1 (it L s.la i v) := ((goes_add L s.la i 1 v).1 (goes_le hg hi)).2
      have hp := (hB.p _ hn.1 hn.2 (hB.la_pos hn.1 hn.2 hgi.1)).2.2.2.2.1
      rw [it_add]; exact hp
  obtain ⟨W, w1, w2⟩ := hB.back hE c h0 h1 hg
  have hle := (hf.walk (hhas c (Nat.le_refl _)) w1).2
  refine ⟨c, hg, hz.1, hz.2.1, hz.2.2.1 (hhas c (Nat.le_refl _)), hnode, hhas, ?_, fun i j hi hj e => ?_, by omega⟩
  · have e : W = rd s.lo v := by have := hz.2.1; omega
    rw [← e]; exact w1
  · refine h.no_round hE (Or.inr hf) (v := it L s.la i v) ⟨(hnode i (by omega)).1, (hnode i (by omega)).2, j - i, by omega, ?_, ?_⟩
    · exact goes_le ((goes_add L s.la i (c - i) v).1 (by rw [show i + (c - i) = c from by omega]; exact hg)).2 (by omega)
    · rw [← it_add, show i + (j - i) = j from by omega, e]
theorem lenP_growP : ∀ (r r' : Nat) (s s' : Sg), r ≤ r' → growP L n r s = some (s', -1) → lenP L r' s = (s', true)
  | 0, r', s, s', hr, h => by simp [growP] at h
  | r + 1, 0, s, s', hr, h => by omega
  | r + 1, r' + 1, s, s', hr, h => by
    unfold growP at h
    unfold lenP
    by_cases hc : (pass L 0 (-1) s).1 < 0
    · rw [if_pos hc] at h ⊢
      simp only [Option.some.injEq, Prod.mk.injEq] at h
      rw [h.1]
    · rw [if_neg hc] at h ⊢
      by_cases hl : loopedL L (pass L 0 (-1) s).2.la n (pass L 0 (-1) s).1 ≥ 0
      · rw [if_pos hl] at h
        simp only [Option.some.injEq, Prod.mk.injEq] at h
        omega
      · rw [if_neg hl] at h
        exact lenP_growP r r' _ _ (by omega) h
theorem lenP_fix (hE : EdgesOk n L) : ∀ (r : Nat) (b : Int) (s s' : Sg) (T : Int → Int), 0 ≤ b → Bf n L src b 0 s T → lenP L r s = (s', true) → ∃ b' T', 0 ≤ b' ∧ Bf n L src b' L.length s' T' ∧ Fix L s'
  | 0, b, s, s', T, hb, h, hl => by simp [lenP] at hl
  | r + 1, b, s, s', T, hb, h, hl => by
    obtain ⟨T', h', hc⟩ := pass_bf hE hb L.length 0 (-1) s T (by omega) (by omega) h (Or.inl rfl)
    rw [show (0 : Int).toNat = 0 from rfl, List.drop_zero] at h' hc
    unfold lenP at hl
    rcases hc with ⟨c1, c2, c3, c4⟩ | hc
    · rw [if_pos (by omega)] at hl
      simp only [Prod.mk.injEq, and_true] at hl
      subst hl
      exact ⟨b, T', hb, h', fun i a b => by rw [c3]; exact c4 i a b⟩
    · rw [if_neg (by have := hc.1; omega)] at hl
      exact lenP_fix hE r _ _ s' T' (by omega) h'.next hl
end
/-- The start. -/
def sg0 (n : Nat) (from_ : List Int) : Sg := ⟨List.replicate n 0, from_.foldl (fun h i => h.set i.toNat true) (List.replicate n false), List.replicate n (-1)⟩
theorem rd_replicate (n : Nat) (x v : Int) (h0 : 0 ≤ v) (h1 : v < n) : rd (List.replicate n x) v = x := by
  unfold rd
  rw [List.getD_eq_getElem?_getD, List.getElem?_replicate, if_pos (by omega)]; rfl
theorem rdOf_replicate {α : Type} (n : Nat) (d x : α) (v : Int) (h0 : 0 ≤ v) (h1 : v < n) : rdOf d (List.replicate n x) v = x := by
  unfold rdOf
  rw [List.getD_eq_getElem?_getD, List.getElem?_replicate, if_pos (by omega)]; rfl
theorem foldl_has (n : Nat) : ∀ (l : List Int) (h : List Bool), h.length = n → (∀ i ∈ l, 0 ≤ i ∧ i < (n : Int)) → (l.foldl (fun h i => h.set i.toNat true) h).length = n ∧ ∀ v, 0 ≤ v → v < (n : Int) → (rdOf false (l.foldl (fun h i => h.set i.toNat true) h) v = true ↔ v ∈ l ∨ rdOf false h v = true)
  | [], h, hl, _ => ⟨hl, fun v _ _ => by simp⟩
  | i :: l, h, hl, hi => by
    have h1 := hi i (by simp)
    obtain ⟨a, b⟩ := foldl_has n l (h.set i.toNat true) (by simpa using hl) (fun j hj => hi j (by simp [hj]))
    refine ⟨a, fun v h0 hv => ?_⟩
    rw [List.foldl_cons, b v h0 hv, rdOf_set _ _ _ _ _ h1.1 (by omega) h0, List.mem_cons]
    by_cases e : v = i
    · simp [e]
    · simp [e]
theorem sg0_bf {n : Nat} {L : List S39} {from_ : List Int} (hf : ∀ i ∈ from_, 0 ≤ i ∧ i < (n : Int)) : Bf n L (fun v => v ∈ from_) 0 0 (sg0 n from_) (fun _ => 0) := by
  obtain ⟨a, b⟩ := foldl_has n from_ (List.replicate n false) (by simp) hf
  refine ⟨by simp [sg0], by simp only [sg0]; omega, by simp [sg0], fun v h0 h1 => ⟨by simp, by simp⟩, fun v h0 h1 _ => ⟨rd_replicate n _ v h0 h1, rd_replicate n _ v h0 h1, ?_⟩, fun v h0 h1 h => by simp at h, fun i h0 h1 h2 h3 => ?_, fun v h0 h1 => ?_⟩
  · unfold hasN
    show rdOf false (List.foldl _ _ _) v = true ↔ _
    rw [b v h0 h1, rdOf_replicate n _ _ v h0 h1]
    simp
  · rw [if_neg (by omega)] at h3
    omega
  · rw [show rd (sg0 n from_).lo v = 0 from rd_replicate n _ v h0 h1]
    omega
theorem grow_all {n : Nat} {L : List S39} {from_ : List Int} (hn : 0 < n) (hE : EdgesOk n L) (hf : ∀ i ∈ from_, 0 ≤ i ∧ i < (n : Int)) : ∃ s' bad, growP L n n (sg0 n from_) = some (s', bad) ∧ GrowPost n L (fun v => v ∈ from_) s' bad :=
  growP_post hE n 0 _ _ (by omega) hn (by simpa using sg0_bf hf)
end Go.Proofs.Ytpolojoeabmhdaa.A
/- grow and solve answer as the plain passes do. -/
namespace Go.Proofs.Ytpolojoeabmhdaa.A
open Go.RowKit Go.Proofs.YtpolojoeabmhdaaW.PrintWords Go.Proofs.YtpolojoeabmhdaaW.PrintLast Go.Proofs.YtpolojoeabmhdaaW.PrintMore
theorem wrap_id {x : Int} (h0 : -9223372036854775808 ≤ x) (h1 : x < 9223372036854775808) : wrap64 x = x := by
  unfold wrap64
  omega
theorem Ev.shift {α : Type} {g h : Nat → Option α} {r : α} (a : Nat) (hg : ∀ f, g (f + a) = h f) (hh : Ev h r) : Ev g r := by
  obtain ⟨K, hK⟩ := hh
  refine ⟨K + a, fun k hk => ?_⟩
  obtain ⟨f, rfl⟩ : ∃ f, k = f + a := ⟨k - a, by omega⟩
  rw [hg]
  exact hK f (by omega)
theorem Ev.congr' {α : Type} {g h : Nat → Option α} {r : α} (K0 : Nat) (hg : ∀ k, K0 ≤ k → g k = h k) (hh : Ev h r) : Ev g r := by
  obtain ⟨K, hK⟩ := hh
  exact ⟨max K K0, fun k hk => (hg k (by omega)).trans (hK k (by omega))⟩
theorem Ev.pos {α : Type} {c : Prop} [inst : Decidable c] {f g : Nat → Option α} {r : α} (h : c) (k : Ev f r) : Ev (fun n => if c then f n else g n) r :=
  Ev.congr (fun n => if_pos h) k
theorem Ev.neg {α : Type} {c : Prop} [inst : Decidable c] {f g : Nat → Option α} {r : α} (h : ¬ c) (k : Ev g r) : Ev (fun n => if c then f n else g n) r :=
  Ev.congr (fun n => if_neg h) k
section
variable {n : Nat} {L : List S39} {src : Int → Prop}
theorem grow_l2 (hE : EdgesOk n L) {b : Int} (hb : 0 ≤ b) (hbm : b + L.length ≤ 4294967296) : ∀ (q : Nat) (k c : Int) (s : Sg) (T : Int → Int) (f : Nat), (q : Int) + k = L.length → 0 ≤ k → Bf n L src b k s T →
    diffs_grow.l2 (f + 2 * q) L c L L.length k s.lo s.ha s.la = diffs_grow.l2 f L (pass (L.drop k.toNat) k c s).1 L L.length L.length (pass (L.drop k.toNat) k c s).2.lo (pass (L.drop k.toNat) k c s).2.ha (pass (L.drop k.toNat) k c s).2.la
  | 0, k, c, s, T, f, hq, h0, h => by
    have hk : k = L.length := by omega
    rw [List.drop_eq_nil_of_le (by omega), hk]
    rfl
  | q + 1, k, c, s, T, f, hq, h0, h => by
    have hk : k < (L.length : Int) := by omega
    have hd := hE k h0 hk
    have l1 := h.l1
    have l2 := h.l2
    have l3 := h.l3
    rw [rd_T39_drop L k h0 hk, show f + 2 * (q + 1) = (f + 2 * q) + 1 + 1 from by omega]
    have hw := h.w _ hd.a hd.b
    have he := hd.e
    have hf := hd.f
    have hwr : wrap64 (rd s.lo (rd_T39 L k).f0 + (rd_T39 L k).f2) = rd s.lo (rd_T39 L k).f0 + (rd_T39 L k).f2 := wrap_id (by omega) (by omega)
    have hk1 : wrap64 (k + 1) = k + 1 := wrap_id (by omega) (by omega)
    unfold pass
    simp only [diffs_grow.l2]
    rw [if_pos hk, if_pos h0, if_pos hk, if_pos hd.a, if_pos (show (rd_T39 L k).f0 < (s.ha.length : Int) from by rw [l2]; exact hd.b)]
    have hnext : ∀ y, diffs_grow.j3 (f + 2 * q + 1) L c k L L.length k y s.lo s.ha s.la (rd_T39 L k).f0 (rd_T39 L k).f1 (rd_T39 L k).f2 = if y = true then diffs_grow.l2 (f + 2 * q) L (rd_T39 L k).f1 L L.length (k + 1) (s.put (rd_T39 L k) k).lo (s.put (rd_T39 L k) k).ha (s.put (rd_T39 L k) k).la else diffs_grow.l2 (f + 2 * q) L c L L.length (k + 1) s.lo s.ha s.la := by
      intro y
      simp only [diffs_grow.j3]
      rw [if_pos hd.a, if_pos (show (rd_T39 L k).f0 < (s.lo.length : Int) from by rw [l1]; exact hd.b), if_pos hd.c, if_pos (show (rd_T39 L k).f1 < (s.lo.length : Int) from by rw [l1]; exact hd.g), if_pos (show (rd_T39 L k).f1 < (s.ha.length : Int) from by rw [l2]; exact hd.g), if_pos (show (rd_T39 L k).f1 < (s.la.length : Int) from by rw [l3]; exact hd.g), hk1, hwr]
      rfl
    by_cases hu : rdOf false s.ha (rd_T39 L k).f0 = true
    · rw [if_pos hu, if_pos hd.c, if_pos (show (rd_T39 L k).f1 < (s.ha.length : Int) from by rw [l2]; exact hd.g)]
      by_cases hv : rdOf false s.ha (rd_T39 L k).f1 = true
      · rw [if_pos hv, if_pos (show (rd_T39 L k).f0 < (s.lo.length : Int) from by rw [l1]; exact hd.b), if_pos (show (rd_T39 L k).f1 < (s.lo.length : Int) from by rw [l1]; exact hd.g), hnext, hwr]
        by_cases hy : rd s.lo (rd_T39 L k).f0 + (rd_T39 L k).f2 < rd s.lo (rd_T39 L k).f1
        · have hbt : s.better (rd_T39 L k) = true := by rw [better_iff]; exact ⟨hu, Or.inr hy⟩
          rw [if_pos (decide_eq_true hy), if_pos hbt]
          exact grow_l2 hE hb hbm q (k + 1) _ _ _ f (by omega) (by omega) (h.step hE h0 hk hb hbt)
        · have hbt : ¬ s.better (rd_T39 L k) = true := by
            rw [better_iff]; rintro ⟨_, h2 | h2⟩
            · exact h2 hv
            · exact hy h2
          rw [if_neg (by simpa using hy), if_neg hbt]
          exact grow_l2 hE hb hbm q (k + 1) c s T f (by omega) (by omega) (h.skip hE h0 hk hb hbt)
      · have hbt : s.better (rd_T39 L k) = true := by rw [better_iff]; exact ⟨hu, Or.inl hv⟩
        rw [if_neg hv, hnext, if_pos rfl, if_pos hbt]
        exact grow_l2 hE hb hbm q (k + 1) _ _ _ f (by omega) (by omega) (h.step hE h0 hk hb hbt)
    · have hbt : ¬ s.better (rd_T39 L k) = true := by
        rw [better_iff]; rintro ⟨h2, _⟩
        exact hu h2
      rw [if_neg hu, hnext, if_neg (by simp), if_neg hbt]
      exact grow_l2 hE hb hbm q (k + 1) c s T f (by omega) (by omega) (h.skip hE h0 hk hb hbt)
theorem looped_l0 (hE : EdgesOk n L) (hn : n ≤ 65536) {b k : Int} {s : Sg} {T : Int → Int} (h : Bf n L src b k s T) : ∀ (j : Nat) (i v : Int) (f : Nat), (j : Int) + i = n → 0 ≤ i → 0 ≤ v → v < n →
    diffs_tree_looped.l0 (f + j + 1) L v n i s.lo s.ha s.la = some (loopedL L s.la j v)
  | 0, i, v, f, hj, hi, h0, h1 => by
    simp only [diffs_tree_looped.l0]
    rw [if_neg (by omega)]
    rfl
  | j + 1, i, v, f, hj, hi, h0, h1 => by
    rw [show f + (j + 1) + 1 = (f + j + 1) + 1 from by omega]
    have l3 := h.l3
    simp only [diffs_tree_looped.l0]
    rw [if_pos (by omega), if_pos h0, if_pos (by omega)]
    unfold loopedL
    by_cases hl : rd s.la v < 0
    · rw [if_pos hl, if_pos hl]
    · have hp := h.p v h0 h1 (h.la_pos h0 h1 (by omega))
      have hb := h.bk_node hE h0 h1 (by omega)
      rw [if_neg hl, if_neg hl, if_pos (by omega), if_pos hp.2.1, wrap_id (by omega) (by omega)]
      exact looped_l0 hE hn h j (i + 1) _ f (by omega) (by omega) hb.1 hb.2
theorem grow_l1 (hE : EdgesOk n L) (hn : n ≤ 65536) (hm : (n : Int) * L.length ≤ 4294967296) : ∀ (r q : Nat) (s : Sg) (T : Int → Int) (s' : Sg) (bad : Int), q + r = n → Bf n L src ((q : Int) * L.length) 0 s T → growP L n r s = some (s', bad) →
    Ev (fun k => diffs_grow.l1 k L s.lo s.ha s.la) (s'.lo, s'.ha, s'.la, bad)
  | 0, q, s, T, s', bad, hq, h, hg => by simp [growP] at hg
  | r + 1, q, s, T, s', bad, hq, h, hg => by
    have hpos : (0 : Int) ≤ (q : Int) * L.length := Int.mul_nonneg (by omega) (by omega)
    have hb1 : ((q : Int) + 1) * L.length = (q : Int) * L.length + L.length := by rw [Int.add_mul, Int.one_mul]
    have hb2 : (q : Int) * L.length + L.length ≤ (n : Int) * L.length := by
      rw [← hb1]; exact Int.mul_le_mul_of_nonneg_right (by omega) (by omega)
    obtain ⟨T', h', hc⟩ := pass_bf hE hpos L.length 0 (-1) s T (by omega) (by omega) h (Or.inl rfl)
    have e2 := fun f => grow_l2 hE hpos (by omega) L.length 0 (-1) s T f (by omega) (by omega) h
    simp only [show (0 : Int).toNat = 0 from rfl, List.drop_zero] at h' hc e2
    refine Ev.shift (2 * L.length + 2) (h := fun f => if (pass L 0 (-1) s).1 < 0 then some ((pass L 0 (-1) s).2.lo, (pass L 0 (-1) s).2.ha, (pass L 0 (-1) s).2.la, (-1)) else ((diffs_tree_looped.f f (pass L 0 (-1) s).2.lo (pass L 0 (-1) s).2.ha (pass L 0 (-1) s).2.la L (pass L 0 (-1) s).1).bind fun t => if t ≥ 0 then some ((pass L 0 (-1) s).2.lo, (pass L 0 (-1) s).2.ha, (pass L 0 (-1) s).2.la, t) else diffs_grow.l1 f L (pass L 0 (-1) s).2.lo (pass L 0 (-1) s).2.ha (pass L 0 (-1) s).2.la)) (fun f => ?_) ?_
    · rw [show f + (2 * L.length + 2) = ((f + 1) + 2 * L.length) + 1 from by omega]
      simp only [diffs_grow.l1]
      rw [e2 (f + 1)]
      simp only [diffs_grow.l2]
      rw [if_neg (by omega)]
    · unfold growP at hg
      rcases hc with ⟨c1, c2, c3, c4⟩ | hc
      · have hneg : (pass L 0 (-1) s).1 < 0 := by omega
        rw [if_pos hneg] at hg
        simp only [if_pos hneg]
        simp only [Option.some.injEq, Prod.mk.injEq] at hg
        obtain ⟨rfl, rfl⟩ := hg
        exact Ev.now _
      · have hneg : ¬ (pass L 0 (-1) s).1 < 0 := by have := hc.1; omega
        rw [if_neg hneg] at hg
        simp only [if_neg hneg]
        have hl : Ev (fun f => diffs_tree_looped.f f (pass L 0 (-1) s).2.lo (pass L 0 (-1) s).2.ha (pass L 0 (-1) s).2.la L (pass L 0 (-1) s).1) (loopedL L (pass L 0 (-1) s).2.la n (pass L 0 (-1) s).1) := ⟨n + 1, fun k hk => by
          obtain ⟨f, rfl⟩ : ∃ f, k = f + n + 1 := ⟨k - (n + 1), by omega⟩
          have := looped_l0 hE hn h' n 0 _ f (by omega) (by omega) hc.1 hc.2.1
          unfold diffs_tree_looped.f
          rw [h'.l3]
          exact this⟩
        refine hl.bind ?_
        by_cases hlo : loopedL L (pass L 0 (-1) s).2.la n (pass L 0 (-1) s).1 ≥ 0
        · rw [if_pos hlo] at hg
          simp only [if_pos hlo]
          simp only [Option.some.injEq, Prod.mk.injEq] at hg
          obtain ⟨rfl, rfl⟩ := hg
          exact Ev.now _
        · rw [if_neg hlo] at hg
          simp only [if_neg hlo]
          have h'' := h'.next
          rw [← hb1] at h''
          exact grow_l1 hE hn hm r (q + 1) _ T' s' bad (by omega) (by push_cast; exact h'') hg
theorem grow_l0 {L : List S39} (n : Nat) (lo la : List Int) : ∀ (q : Nat) (i : Int) (from_ : List Int) (ha : List Bool) (f : Nat), (q : Int) + i = from_.length → 0 ≤ i → from_.length ≤ 4294967296 → ha.length = n → (∀ x ∈ from_, 0 ≤ x ∧ x < (n : Int)) →
    diffs_grow.l0 (f + q + 1) L from_ from_.length i lo ha la = diffs_grow.l1 f L lo ((from_.drop i.toNat).foldl (fun h x => h.set x.toNat true) ha) la
  | 0, i, from_, ha, f, hq, hi, hl, hh, hf => by
    simp only [diffs_grow.l0]
    rw [if_neg (by omega), List.drop_eq_nil_of_le (by omega)]
    rfl
  | q + 1, i, from_, ha, f, hq, hi, hl, hh, hf => by
    rw [show f + (q + 1) + 1 = (f + q + 1) + 1 from by omega]
    have hlt : i < (from_.length : Int) := by omega
    have hmem : rd from_ i ∈ from_ := by
      unfold rd
      rw [List.getD_eq_getElem?_getD, List.getElem?_eq_getElem (by omega)]; exact List.getElem_mem _
    have hx := hf _ hmem
    rw [diffs_grow.l0, if_pos hlt, if_pos hi, if_pos hlt, if_pos hx.1, if_pos (by rw [hh]; exact hx.2), wrap_id (by omega) (by omega), grow_l0 n lo la q (i + 1) from_ _ f (by omega) (by omega) hl (by simpa using hh) hf]
    congr 1
    have e : from_.drop i.toNat = rd from_ i :: from_.drop (i + 1).toNat := by
      rw [show (i + 1).toNat = i.toNat + 1 from by omega, List.drop_eq_getElem_cons (by omega)]
      congr 1
      unfold rd
      rw [List.getD_eq_getElem?_getD, List.getElem?_eq_getElem (by omega)]; rfl
    rw [e, List.foldl_cons]
/-- What grow answers. -/
theorem grow_ev (hn0 : 0 < n) (hn : n ≤ 65536) (hE : EdgesOk n L) (hm : (n : Int) * L.length ≤ 4294967296) {from_ : List Int} (hl : from_.length ≤ 4294967296) (hf : ∀ i ∈ from_, 0 ≤ i ∧ i < (n : Int)) :
    ∃ s bad, growP L n n (sg0 n from_) = some (s, bad) ∧ GrowPost n L (fun v => v ∈ from_) s bad ∧ Ev (fun k => diffs_grow.f k n L from_) (s.lo, s.ha, s.la, bad) := by
  obtain ⟨s, bad, h1, h2⟩ := grow_all hn0 hE hf
  refine ⟨s, bad, h1, h2, ?_⟩
  have h3 := grow_l1 hE hn hm n 0 (sg0 n from_) (fun _ => 0) s bad (by omega) (by simpa using sg0_bf hf) h1
  refine Ev.shift (from_.length + 1) (h := fun f => diffs_grow.l1 f L (sg0 n from_).lo (sg0 n from_).ha (sg0 n from_).la) (fun f => ?_) h3
  unfold diffs_grow.f diffs_plain_nodes.f slices_Repeat_int_int.f
  simp only [Option.bind_some]
  rw [if_pos (by omega), if_pos (by omega), if_pos (by omega), if_pos (by omega), if_pos (by omega), if_pos (by omega)]
  simp only [Option.bind_some]
  have := grow_l0 (L := L) n (List.replicate n 0) (List.replicate n (-1)) from_.length 0 from_ (List.replicate n false) f (by omega) (by omega) hl (by simp) hf
  simp only [Int.toNat_natCast]
  exact this
end
end Go.Proofs.Ytpolojoeabmhdaa.A
/- solve, Check, asked: what they answer. -/
namespace Go.Proofs.Ytpolojoeabmhdaa.A
open Go.RowKit Go.Proofs.YtpolojoeabmhdaaW.PrintWords Go.Proofs.YtpolojoeabmhdaaW.PrintLast Go.Proofs.YtpolojoeabmhdaaW.PrintMore
def allL (n : Nat) : List Int := (List.range n).map fun (i : Nat) => (i : Int)
theorem mem_allL {n : Nat} {v : Int} : v ∈ allL n ↔ 0 ≤ v ∧ v < (n : Int) := by
  unfold allL
  rw [List.mem_map]
  constructor
  · rintro ⟨i, hi, rfl⟩
    have := List.mem_range.1 hi
    omega
  · intro h
    exact ⟨v.toNat, List.mem_range.2 (by omega), by omega⟩
theorem all_l0 (n : Nat) (hn : n ≤ 65536) : ∀ (q i f : Nat), q + i = n → diffs_all.l0 (f + q + 1) (allL i) n i = some (allL n)
  | 0, i, f, hq => by
    rw [diffs_all.l0, if_neg (by omega), show i = n from by omega]
  | q + 1, i, f, hq => by
    rw [show f + (q + 1) + 1 = (f + q + 1) + 1 from by omega, diffs_all.l0, if_pos (by omega), if_pos (by unfold allL; simp; omega), wrap_id (by omega) (by omega)]
    have := all_l0 n hn q (i + 1) f (by omega)
    rw [show allL (i + 1) = allL i ++ [(i : Int)] from by unfold allL; rw [List.range_succ, List.map_append]; rfl] at this
    exact this
theorem all_ev (n : Nat) (hn : n ≤ 65536) (L : List S39) : Ev (fun k => diffs_all.f k n L) (allL n) :=
  Ev.shift (n + 1) (h := fun _ => some (allL n)) (fun f => by
    unfold diffs_all.f diffs_plain_nodes.f
    simp only [Option.bind_some]
    have := all_l0 n hn n 0 f (by omega)
    rw [show ((0 : Nat) : Int) = 0 from rfl] at this
    exact this) (Ev.now _)
/-- The numbers, moved so that the first one is 0. -/
theorem solve_l0 (lo : List Int) (ha : List Bool) (la : List Int) (hl : ∀ v, 0 ≤ v → v < (lo.length : Int) → -2305843009213693952 ≤ rd lo v ∧ rd lo v ≤ 2305843009213693952) (hl2 : lo.length ≤ 65536) : ∀ (q : Nat) (i : Int) (x : List Int) (f : Nat), (q : Int) + i = lo.length → 0 ≤ i → x.length = lo.length → (∀ v, 0 ≤ v → v < (lo.length : Int) → rd x v = if v < i then rd lo v - rd lo 0 else rd lo v) →
    ∃ y, diffs_solve.l0 (f + q + 1) x lo.length i lo ha la = some (y, lo, ha, la, -1) ∧ y.length = lo.length ∧ ∀ v, 0 ≤ v → v < (lo.length : Int) → rd y v = rd lo v - rd lo 0
  | 0, i, x, f, hq, hi, hx, hv => by
    refine ⟨x, ?_, hx, fun v h0 h1 => by rw [hv v h0 h1, if_pos (by omega)]⟩
    rw [diffs_solve.l0, if_neg (by omega)]
  | q + 1, i, x, f, hq, hi, hx, hv => by
    have hlt : i < (lo.length : Int) := by omega
    have b0 := hl 0 (by omega) (by omega)
    have b1 := hl i hi hlt
    have e : rd x i = rd lo i := by rw [hv i hi hlt, if_neg (by omega)]
    rw [show f + (q + 1) + 1 = (f + q + 1) + 1 from by omega, diffs_solve.l0, if_pos hlt, if_pos hi, if_pos (by rw [hx]; exact hlt), if_pos (by omega), e, wrap_id (by omega) (by omega), wrap_id (by omega) (by omega)]
    refine solve_l0 lo ha la hl hl2 q (i + 1) _ f (by omega) (by omega) (by rw [List.length_set]; exact hx) (fun v h0 h1 => ?_)
    rw [rd_set _ _ _ _ hi (by omega) h0]
    by_cases ev : v = i
    · rw [if_pos ev, if_pos (by omega), ev]
    · rw [if_neg ev, hv v h0 h1]
      by_cases h2 : v < i
      · rw [if_pos h2, if_pos (by omega)]
      · rw [if_neg h2, if_neg (by omega)]
section
variable {n : Nat} {L : List S39}
/-- What solve answers. -/
theorem solve_ev (hn0 : 0 < n) (hn : n ≤ 65536) (hE : EdgesOk n L) (hm : (n : Int) * L.length ≤ 1048576) :
    ∃ x s bad, growP L n n (sg0 n (allL n)) = some (s, bad) ∧ GrowPost n L (fun v => v ∈ allL n) s bad ∧ Ev (fun k => diffs_solve.f k n L) (x, s.lo, s.ha, s.la, bad) ∧ (bad = -1 → (x.length = n ∧ ∀ v, 0 ≤ v → v < (n : Int) → rd x v = rd s.lo v - rd s.lo 0)) ∧ (0 ≤ bad → x = []) := by
  obtain ⟨s, bad, h1, h2, h3⟩ := grow_ev hn0 hn hE (by omega) (from_ := allL n) (by unfold allL; simp; omega) (fun i hi => mem_allL.1 hi)
  obtain ⟨b, T, hb, hb2, hB⟩ := h2.bf
  have hl1 := hB.l1
  have hbd : ∀ v, 0 ≤ v → v < (s.lo.length : Int) → -2305843009213693952 ≤ rd s.lo v ∧ rd s.lo v ≤ 2305843009213693952 := fun v h0 h1 => by
    have := h2.bounds h0 (by omega); omega
  rcases h2.res with ⟨e, _⟩ | ⟨e, _⟩
  · subst e
    obtain ⟨y, hy1, hy2, hy3⟩ : ∃ y, (∀ f, diffs_solve.l0 (f + n + 1) s.lo s.lo.length 0 s.lo s.ha s.la = some (y, s.lo, s.ha, s.la, -1)) ∧ y.length = s.lo.length ∧ ∀ v, 0 ≤ v → v < (s.lo.length : Int) → rd y v = rd s.lo v - rd s.lo 0 := by
      obtain ⟨y, a, b, c⟩ := solve_l0 s.lo s.ha s.la hbd (by omega) n 0 s.lo 0 (by omega) (by omega) rfl (fun v h0 h1 => by rw [if_neg (by omega)])
      refine ⟨y, fun f => ?_, b, c⟩
      obtain ⟨y', a', b', c'⟩ := solve_l0 s.lo s.ha s.la hbd (by omega) n 0 s.lo f (by omega) (by omega) rfl (fun v h0 h1 => by rw [if_neg (by omega)])
      rw [a']
      have e2 : y' = y := List.ext_getElem (by omega) (fun i h1 h2 => by
        have p := c' i (by omega) (by omega)
        have q := c i (by omega) (by omega)
        unfold rd at p q
        rw [List.getD_eq_getElem?_getD, Int.toNat_natCast, List.getElem?_eq_getElem (by omega)] at p q
        simp only [Option.getD_some] at p q
        rw [p, q])
      rw [e2]
    refine ⟨y, s, -1, h1, h2, ?_, fun _ => ⟨by omega, fun v h0 h1 => hy3 v h0 (by omega)⟩, fun h => by omega⟩
    unfold diffs_solve.f
    refine (all_ev n hn L).bind (h3.bind ?_)
    simp only [ge_iff_le, if_neg (show ¬ (0 : Int) ≤ -1 from by omega)]
    unfold slices_Clone_int_int.f
    rw [if_pos (by omega)]
    simp only [Option.bind_some]
    exact Ev.shift (n + 1) (h := fun _ => some _) hy1 (Ev.now _)
  · refine ⟨[], s, bad, h1, h2, ?_, fun h => by omega, fun _ => rfl⟩
    unfold diffs_solve.f
    refine (all_ev n hn L).bind (h3.bind ?_)
    simp only [ge_iff_le, if_pos e]
    exact Ev.now _
end
def edgeB (n : Int) (d : S39) : Bool := decide (0 ≤ d.f0) && decide (d.f0 < n) && decide (0 ≤ d.f1) && decide (d.f1 < n) && decide (-1073741824 ≤ d.f2) && decide (d.f2 ≤ 1073741824)
theorem edgeB_iff {n : Int} {d : S39} : edgeB n d = true ↔ EdgeOk n d := by
  simp only [edgeB, Bool.and_eq_true, decide_eq_true_eq]
  exact ⟨fun h => ⟨h.1.1.1.1.1, h.1.1.1.1.2, h.1.1.1.2, h.1.1.2, h.1.2, h.2⟩, fun h => ⟨⟨⟨⟨⟨h.a, h.b⟩, h.c⟩, h.g⟩, h.e⟩, h.f⟩⟩
def validB (n : Int) (L : List S39) : Bool := decide (1 ≤ n) && decide (n ≤ 256) && decide (L.length ≤ 4096) && L.all (edgeB n)
structure Valid (n : Int) (L : List S39) : Prop where
  n1 : 1 ≤ n
  n2 : n ≤ 256
  l : L.length ≤ 4096
  e : EdgesOk n L
theorem all_edges {n : Int} {L : List S39} : L.all (edgeB n) = true ↔ EdgesOk n L := by
  rw [List.all_eq_true]
  constructor
  · intro h k h0 h1
    refine edgeB_iff.1 (h _ ?_)
    unfold rd_T39
    rw [List.getD_eq_getElem?_getD, List.getElem?_eq_getElem (by omega)]; exact List.getElem_mem _
  · intro h d hd
    obtain ⟨i, hi, rfl⟩ := List.getElem_of_mem hd
    have := h i (by omega) (by omega)
    unfold rd_T39 at this
    rw [List.getD_eq_getElem?_getD, Int.toNat_natCast, List.getElem?_eq_getElem (by omega)] at this
    exact edgeB_iff.2 this
theorem validB_iff {n : Int} {L : List S39} : validB n L = true ↔ Valid n L := by
  simp only [validB, Bool.and_eq_true, decide_eq_true_eq, all_edges]
  exact ⟨fun h => ⟨h.1.1.1, h.1.1.2, h.1.2, h.2⟩, fun h => ⟨⟨⟨h.n1, h.n2⟩, h.l⟩, h.e⟩⟩
theorem in_some (a lo hi : Int) : diffs_in.f a lo hi = some (decide (lo ≤ a) && decide (a ≤ hi)) := by
  unfold diffs_in.f
  by_cases h : a ≥ lo
  · rw [if_pos h]; simp [show lo ≤ a from h]
  · rw [if_neg h]; simp [show ¬ lo ≤ a from h]
theorem right_some (d : S39) (n : Int) (h1 : 1 ≤ n) (h2 : n ≤ 256) : diffs_right.f d.f0 d.f1 d.f2 n = some (edgeB n d) := by
  unfold diffs_right.f
  rw [wrap_id (by omega) (by omega)]
  simp only [in_some, Option.bind_some]
  have ea : decide (d.f0 ≤ n - 1) = decide (d.f0 < n) := by congr 1; exact propext (by omega)
  have eb : decide (d.f1 ≤ n - 1) = decide (d.f1 < n) := by congr 1; exact propext (by omega)
  rw [ea, eb]
  unfold edgeB
  by_cases c1 : (decide (0 ≤ d.f0) && decide (d.f0 < n)) = true
  · rw [if_pos c1, c1]
    by_cases c2 : (decide (0 ≤ d.f1) && decide (d.f1 < n)) = true
    · rw [if_pos c2]
      simp only [Bool.true_and, c2]
    · rw [if_neg c2]
      rw [Bool.not_eq_true] at c2
      simp only [Bool.true_and, c2, Bool.false_and]
  · rw [if_neg c1]
    rw [Bool.not_eq_true] at c1
    simp only [c1, Bool.false_and]
theorem check_l0 (n : Int) (L : List S39) (h1 : 1 ≤ n) (h2 : n ≤ 256) (hl : L.length ≤ 4096) (M : List S39) : ∀ (q : Nat) (i : Int) (f : Nat), (q : Int) + i = L.length → 0 ≤ i →
    diffs_Check.l0 (f + q + 1) L L.length i n M = some (if (L.drop i.toNat).all (edgeB n) = true then 0 else 40)
  | 0, i, f, hq, hi => by
    rw [diffs_Check.l0, if_neg (by omega), List.drop_eq_nil_of_le (by omega)]
    rfl
  | q + 1, i, f, hq, hi => by
    have hlt : i < (L.length : Int) := by omega
    rw [show f + (q + 1) + 1 = (f + q + 1) + 1 from by omega, diffs_Check.l0, if_pos hlt, if_pos hi, if_pos hlt, right_some _ n h1 h2, rd_T39_drop L i hi hlt]
    simp only [Option.bind_some]
    by_cases c : edgeB n (rd_T39 L i) = true
    · have e : (rd_T39 L i :: L.drop (i + 1).toNat).all (edgeB n) = (L.drop (i + 1).toNat).all (edgeB n) := by rw [List.all_cons, c, Bool.true_and]
      rw [if_pos c, e, wrap_id (by omega) (by omega)]
      exact check_l0 n L h1 h2 hl M q (i + 1) f (by omega) (by omega)
    · have e : (rd_T39 L i :: L.drop (i + 1).toNat).all (edgeB n) = false := by
        rw [Bool.not_eq_true] at c
        rw [List.all_cons, c, Bool.false_and]
      rw [if_neg c, e]
      rfl
theorem check_ev (n : Int) (L : List S39) : Ev (fun k => diffs_Check.f k n L) (if validB n L = true then 0 else 40) := by
  unfold diffs_Check.f
  simp only [in_some, Option.bind_some]
  by_cases h : 1 ≤ n ∧ n ≤ 256
  · refine Ev.pos (by simp [h]) ?_
    refine Ev.step (f := fun k => if (decide ((L.length : Int) > 4096)) = true then some 40 else diffs_Check.l0 k L L.length 0 n L) (fun k => by rw [diffs_Check.j0]) ?_
    by_cases hl : L.length ≤ 4096
    · refine Ev.neg (by simp; omega) ?_
      have e : validB n L = L.all (edgeB n) := by
        unfold validB; simp [h, hl]
      rw [e]
      refine Ev.shift (L.length + 1) (h := fun _ => some _) (fun f => ?_) (Ev.now _)
      have := check_l0 n L h.1 h.2 hl L L.length 0 f (by omega) (by omega)
      rw [show (0 : Int).toNat = 0 from rfl, List.drop_zero] at this
      exact this
    · have e : validB n L = false := by unfold validB; simp [hl]
      rw [e]
      exact Ev.pos (by simp; omega) (Ev.now _)
  · have e : validB n L = false := by
      cases hv : validB n L with
      | false => rfl
      | true => have := validB_iff.1 hv; exact absurd ⟨this.n1, this.n2⟩ h
    rw [e]
    refine Ev.neg (by simp only [Bool.and_eq_true, decide_eq_true_eq]; exact h) ?_
    exact Ev.step (f := fun k => some 40) (fun k => by rw [diffs_Check.j0]; rfl) (Ev.now _)
theorem index_l0 (bs : List Bool) (hb : bs.length ≤ 65536) : ∀ (q : Nat) (i : Int) (f : Nat), (q : Int) + i = bs.length → 0 ≤ i →
    ∃ r, slices_Index_bool_bool.l0 (f + q + 1) bs false bs.length i = some r ∧ (0 ≤ r ↔ false ∈ bs.drop i.toNat)
  | 0, i, f, hq, hi => by
    refine ⟨-1, ?_, ?_⟩
    · rw [slices_Index_bool_bool.l0, if_neg (by omega)]
    · rw [List.drop_eq_nil_of_le (by omega)]; simp
  | q + 1, i, f, hq, hi => by
    have hlt : i < (bs.length : Int) := by omega
    have ed : bs.drop i.toNat = rdOf false bs i :: bs.drop (i + 1).toNat := by
      rw [show (i + 1).toNat = i.toNat + 1 from by omega, List.drop_eq_getElem_cons (by omega)]
      congr 1
      unfold rdOf
      rw [List.getD_eq_getElem?_getD, List.getElem?_eq_getElem (by omega)]; rfl
    rw [show f + (q + 1) + 1 = (f + q + 1) + 1 from by omega, slices_Index_bool_bool.l0, if_pos hlt, if_pos hi, if_pos hlt, ed]
    by_cases c : (false == rdOf false bs i) = true
    · rw [if_pos c]
      refine ⟨i, rfl, ?_⟩
      have : rdOf false bs i = false := by simpa using c
      rw [this]; simp [hi]
    · rw [if_neg c, wrap_id (by omega) (by omega)]
      obtain ⟨r, a, b⟩ := index_l0 bs hb q (i + 1) f (by omega) (by omega)
      refine ⟨r, a, b.trans ?_⟩
      have : rdOf false bs i = true := by simpa using c
      rw [this]; simp
theorem contains_ev (bs : List Bool) (hb : bs.length ≤ 65536) : Ev (fun k => slices_Contains_bool_bool.f k bs false) (bs.contains false) := by
  refine Ev.shift (bs.length + 1) (h := fun _ => some (bs.contains false)) (fun f => ?_) (Ev.now _)
  obtain ⟨r, a, b⟩ := index_l0 bs hb bs.length 0 f (by omega) (by omega)
  unfold slices_Contains_bool_bool.f slices_Index_bool_bool.f
  rw [show f + (bs.length + 1) = f + bs.length + 1 from rfl, a]
  simp only [Option.bind_some]
  rw [show (0 : Int).toNat = 0 from rfl, List.drop_zero] at b
  congr 1
  rw [Bool.eq_iff_iff, decide_eq_true_eq, List.contains_iff_mem]
  exact b
theorem asked_ev (n : Int) (L : List S39) (bs : List Bool) (hb : bs.length ≤ 65536) : Ev (fun k => diffs_asked.f k n L bs) (if validB n L = true then (if bs.contains false = true then 1 else 0) else 40) := by
  unfold diffs_asked.f
  refine (check_ev n L).bind ?_
  by_cases hv : validB n L = true
  · rw [if_pos hv, if_pos hv]
    refine Ev.pos rfl ((contains_ev bs hb).bind ?_)
    by_cases hc : bs.contains false = true
    · refine Ev.pos hc ?_; rw [if_pos hc]; exact Ev.now _
    · refine Ev.neg hc ?_; rw [if_neg hc]; exact Ev.now _
  · rw [if_neg hv, if_neg hv]
    exact Ev.neg (by decide) (Ev.now _)
end Go.Proofs.Ytpolojoeabmhdaa.A
/- reach and Apart: what they answer. -/
namespace Go.Proofs.Ytpolojoeabmhdaa.A
open Go.RowKit Go.Proofs.YtpolojoeabmhdaaW.PrintWords Go.Proofs.YtpolojoeabmhdaaW.PrintLast Go.Proofs.YtpolojoeabmhdaaW.PrintMore
/-- There are numbers that fulfil all differences. -/
def Solv (L : List S39) : Prop := ∃ x, Pot L x
section
variable {n : Nat} {L : List S39}
theorem reach_no (hn0 : 0 < n) (hn : n ≤ 65536) (hE : EdgesOk n L) (hm : (n : Int) * L.length ≤ 1048576) (hs : ¬ Solv L) (i : Int) : Ev (fun k => diffs_reach.f k n L i) ([], [], [], 41) := by
  obtain ⟨x, s, bad, h1, h2, h3, h4, h5⟩ := solve_ev hn0 hn hE hm
  unfold diffs_reach.f
  refine h3.bind ?_
  have hb : ¬ bad = -1 := fun e => hs ((h2.bad_iff hE (fun v a b => mem_allL.2 ⟨a, b⟩)).1 e)
  exact Ev.pos (by rcases h2.res with ⟨a, _⟩ | ⟨a, _⟩; exact absurd a hb; exact a) (Ev.now _)
theorem reach_yes (hn0 : 0 < n) (hn : n ≤ 65536) (hE : EdgesOk n L) (hm : (n : Int) * L.length ≤ 1048576) (hs : Solv L) {i : Int} (h0 : 0 ≤ i) (h1 : i < n) : ∃ s, growP L n n (sg0 n [i]) = some (s, -1) ∧ GrowPost n L (fun v => v ∈ [i]) s (-1) ∧ Fix L s ∧ Ev (fun k => diffs_reach.f k n L i) (s.lo, s.ha, s.la, 0) := by
  obtain ⟨x, s0, bad0, g1, g2, g3, g4, g5⟩ := solve_ev hn0 hn hE hm
  obtain ⟨s, bad, k1, k2, k3⟩ := grow_ev hn0 hn hE (by omega) (from_ := [i]) (by simp) (fun v hv => by simp at hv; subst hv; exact ⟨h0, h1⟩)
  obtain ⟨y, hy⟩ := hs
  obtain ⟨e, hf⟩ := k2.good hE hy
  subst e
  refine ⟨s, k1, k2, hf, ?_⟩
  unfold diffs_reach.f
  refine g3.bind ?_
  have hb := (g2.good hE hy).1
  refine Ev.neg (by simp only; omega) ?_
  exact k3.bind (Ev.now _)
/-- The least length of a walk, if there is one. -/
structure Short (L : List S39) (i j : Int) (a : Int) (b : Bool) : Prop where
  yes : b = true → (∃ l, Wk L i l j a) ∧ ∀ l W, Wk L i l j W → a ≤ W
  no : b = false → a = 0 ∧ ∀ l W, ¬ Wk L i l j W
theorem Short.unique {i j a b a' b'} (h : Short L i j a b) (h' : Short L i j a' b') : a = a' ∧ b = b' := by
  cases b with
  | true =>
    obtain ⟨⟨l, hl⟩, hm⟩ := h.yes rfl
    cases b' with
    | true =>
      obtain ⟨⟨l', hl'⟩, hm'⟩ := h'.yes rfl
      have := hm _ _ hl'
      have := hm' _ _ hl
      exact ⟨by omega, rfl⟩
    | false => exact absurd hl ((h'.no rfl).2 _ _)
  | false =>
    cases b' with
    | true =>
      obtain ⟨⟨l', hl'⟩, hm'⟩ := h'.yes rfl
      exact absurd hl' ((h.no rfl).2 _ _)
    | false => exact ⟨by rw [(h.no rfl).1, (h'.no rfl).1], rfl⟩
/-- What the tree from a node tells. -/
theorem tree_short (hE : EdgesOk n L) {i : Int} (h0 : 0 ≤ i) (h1 : i < n) {s : Sg} (h : GrowPost n L (fun v => v ∈ [i]) s (-1)) (hf : Fix L s) {j : Int} (j0 : 0 ≤ j) (j1 : j < n) : Short L i j (rd s.lo j) (rdOf false s.ha j) := by
  obtain ⟨b, T, hb, hb2, hB⟩ := h.bf
  have hsrc : hasN s i ∧ rd s.lo i = 0 := by
    have ht := (hB.t0 i h0 h1).1
    by_cases e : T i = 0
    · have := hB.z i h0 h1 e
      exact ⟨this.2.2.2 (by simp), this.2.1⟩
    · have hv := (hB.p i h0 h1 (by omega)).2.2.1
      obtain ⟨c, hc⟩ := h.tree hE hf h0 h1 hv
      have hr := hc.src
      simp only [List.mem_cons, List.not_mem_nil, or_false] at hr
      cases c with
      | zero =>
        exact ⟨hv, hc.zero⟩
      | succ c =>
        exact absurd hr.symm (hc.apart 0 (c + 1) (by omega) (by omega))
  refine ⟨fun hv => ?_, fun hv => ?_⟩
  · obtain ⟨c, hc⟩ := h.tree hE hf j0 j1 hv
    have hr := hc.src
    simp only [List.mem_cons, List.not_mem_nil, or_false] at hr
    refine ⟨⟨_, by have := hc.walk; rw [hr] at this; exact this⟩, fun l W hw => ?_⟩
    have := (hf.walk hsrc.1 hw).2
    omega
  · refine ⟨?_, fun l W hw => ?_⟩
    · have ht := (hB.t0 j j0 j1).1
      by_cases e : T j = 0
      · exact (hB.z j j0 j1 e).2.1
      · have := (hB.p j j0 j1 (by omega)).2.2.1
        unfold hasN at this
        rw [hv] at this
        exact absurd this (by simp)
    · have := (hf.walk hsrc.1 hw).1
      unfold hasN at this
      rw [hv] at this
      exact absurd this (by simp)
/-- What Apart answers. -/
structure ApartIs (n : Int) (L : List S39) (i j a : Int) (b : Bool) (e : Int) : Prop where
  arg : ¬ (0 ≤ i ∧ i < n ∧ 0 ≤ j ∧ j < n) → a = 0 ∧ b = false ∧ e = 1
  clash : 0 ≤ i ∧ i < n ∧ 0 ≤ j ∧ j < n → ¬ Solv L → a = 0 ∧ b = false ∧ e = 41
  ok : 0 ≤ i ∧ i < n ∧ 0 ≤ j ∧ j < n → Solv L → e = 0 ∧ Short L i j a b
  small : -1125899906842624 ≤ a ∧ a ≤ 1125899906842624
theorem ApartIs.unique {n : Int} {i j a : Int} {b : Bool} {e : Int} {a' : Int} {b' : Bool} {e' : Int} (h : ApartIs n L i j a b e) (h' : ApartIs n L i j a' b' e') : a = a' ∧ b = b' ∧ e = e' := by
  by_cases hn : 0 ≤ i ∧ i < n ∧ 0 ≤ j ∧ j < n
  · by_cases hs : Solv L
    · have := h.ok hn hs
      have := h'.ok hn hs
      have := (h.ok hn hs).2.unique (h'.ok hn hs).2
      exact ⟨this.1, this.2, by omega⟩
    · obtain ⟨rfl, rfl, rfl⟩ := h.clash hn hs
      obtain ⟨rfl, rfl, rfl⟩ := h'.clash hn hs
      exact ⟨rfl, rfl, rfl⟩
  · obtain ⟨rfl, rfl, rfl⟩ := h.arg hn
    obtain ⟨rfl, rfl, rfl⟩ := h'.arg hn
    exact ⟨rfl, rfl, rfl⟩
theorem apart_ev (hV : Valid n L) (hm : (n : Int) * L.length ≤ 1048576) (i j : Int) : ∃ a b e, Ev (fun k => diffs_Apart.f k n L i j) (a, b, e) ∧ ApartIs n L i j a b e := by
  have hn0 : 0 < n := by have := hV.n1; omega
  have hn : n ≤ 65536 := by have := hV.n2; omega
  have hask : ∀ p q : Bool, Ev (fun k => diffs_asked.f k n L [p, q]) (if (p && q) = true then 0 else 1) := fun p q => by
    have := asked_ev n L [p, q] (by simp)
    rw [if_pos (validB_iff.2 hV)] at this
    cases p <;> cases q <;> exact this
  unfold diffs_Apart.f
  simp only [in_some, Option.bind_some, wrap_id (show (-9223372036854775808 : Int) ≤ (n : Int) - 1 by omega) (show (n : Int) - 1 < 9223372036854775808 by omega)]
  by_cases hnode : 0 ≤ i ∧ i < (n : Int) ∧ 0 ≤ j ∧ j < (n : Int)
  · have e1 : (decide (0 ≤ i) && decide (i ≤ (n : Int) - 1)) = true := by simp; omega
    have e2 : (decide (0 ≤ j) && decide (j ≤ (n : Int) - 1)) = true := by simp; omega
    rw [e1, e2]
    have hA := hask true true
    rw [if_pos (by simp)] at hA
    by_cases hs : Solv L
    · obtain ⟨s, k1, k2, hf, k3⟩ := reach_yes hn0 hn hV.e hm hs hnode.1 hnode.2.1
      have hsh := tree_short hV.e hnode.1 hnode.2.1 k2 hf hnode.2.2.1 hnode.2.2.2
      have hbd := k2.bounds hnode.2.2.1 hnode.2.2.2
      obtain ⟨b, T, hb, hb2, hB⟩ := k2.bf
      have l1 := hB.l1
      have l2 := hB.l2
      refine ⟨rd s.lo j, rdOf false s.ha j, 0, hA.bind (Ev.pos rfl (k3.bind (Ev.pos rfl (Ev.pos hnode.2.2.1 (Ev.pos (by simp only; omega) ?_))))), fun h => absurd hnode h, fun _ h => absurd hs h, fun _ _ => ⟨rfl, hsh⟩, by omega⟩
      refine Ev.step (f := fun k => if (!(rdOf false s.ha j)) = true then some (0, false, 0) else if 0 ≤ j then (if j < (s.lo.length : Int) then some (rd s.lo j, true, 0) else none) else none) (fun k => by rw [diffs_Apart.j0]) ?_
      cases hh : rdOf false s.ha j with
      | false =>
        refine Ev.pos rfl ?_
        rw [hh] at hsh
        rw [(hsh.no rfl).1]
        exact Ev.now _
      | true => exact Ev.neg (by simp) (Ev.pos hnode.2.2.1 (Ev.pos (by omega) (Ev.now _)))
    · refine ⟨0, false, 41, hA.bind (Ev.pos rfl ((reach_no hn0 hn hV.e hm hs i).bind (Ev.neg (by decide) ?_))), fun h => absurd hnode h, fun _ _ => ⟨rfl, rfl, rfl⟩, fun _ h => absurd h hs, by omega⟩
      exact Ev.step (f := fun k => some (0, false, 41)) (fun k => by rw [diffs_Apart.j0]; rfl) (Ev.now _)
  · have e : ((decide (0 ≤ i) && decide (i ≤ (n : Int) - 1)) && (decide (0 ≤ j) && decide (j ≤ (n : Int) - 1))) = false := by
      rw [Bool.eq_false_iff]
      simp only [ne_eq, Bool.and_eq_true, decide_eq_true_eq]
      omega
    have hA := hask (decide (0 ≤ i) && decide (i ≤ (n : Int) - 1)) (decide (0 ≤ j) && decide (j ≤ (n : Int) - 1))
    rw [e, if_neg (by simp)] at hA
    exact ⟨0, false, 1, hA.bind (Ev.neg (by decide) (Ev.now _)), fun _ => ⟨rfl, rfl, rfl⟩, fun h => absurd h hnode, fun h => absurd h hnode, by omega⟩
end
end Go.Proofs.Ytpolojoeabmhdaa.A
/- What comes in, opened: a net, a list of numbers. -/
namespace Go.Proofs.Ytpolojoeabmhdaa.A
open Go.ChangeShapes Go.WideShapes Go.ChangeAt Go.RowKit Go.Deep Go.Joins
open Go.Proofs.YtpolojoeabmhdaaW.PrintWords Go.Proofs.YtpolojoeabmhdaaW.PrintLast Go.Proofs.YtpolojoeabmhdaaW.PrintMore
set_option maxRecDepth 100000
section
variable {H : Type} {enc : TypeId × Value → H} {P : Program} {w : World} {base : Nat} {spare : Nat → Bool} {held : Bool}
theorem open_slice_fields {t e : TypeId} {fs : Array Field} {fuel : Nat} {cs : List Value} {x : DataW H × List MemPlace} (ht : P.underlying t = some (.slice e)) (he : P.underlying e = some (.struct fs))
    (hone : oneCellFields P fs = true) (hC : P.cellsOf e = fs.size) (h : DataW.trod enc P w base spare held fuel t cs = some x) :
    (cs = [.slice none 0 0]) ∨
    ∃ (a : Addr) (len cap : Nat), cs = [.slice (some a) len cap] ∧ len ≤ cap ∧ cap ≤ maxLen ∧ (∃ E S, x.1 = .slice E S ∧ E.length = len) ∧
      ∀ i, i < len → ∀ (j : Nat) (f : Field), fs[j]? = some f → ∃ (v : Value) (y : DataW H × List MemPlace) (n : Nat), w.cell? (a.add (i * fs.size + j)) = some v ∧ DataW.trod enc P w base spare held n f.type [v] = some y := by
  rcases open_slice ht h with h0 | ⟨a, len, cap, m, n, D, Pl, hcs, hb, hl, hm, hmm, hx, hi⟩
  · exact .inl h0.1
  refine .inr ⟨a, len, cap, hcs, hl, hm, ⟨_, _, by rw [hx], by simp⟩, fun i him j f hj => ?_⟩; obtain ⟨cs', hc, ht'⟩ := hi i (by rw [hmm]; split <;> omega); rw [hC] at hc; obtain ⟨ys, n', hn', hy, hlen, hyl, hf⟩ := DataW.trod_struct he ht'; obtain ⟨_, hcl, hat⟩ := World.cells?_some hc; obtain ⟨ho, hk⟩ := hone_of hone j f hj; have hjl : j < fs.size := (Array.getElem?_eq_some_iff.1 hj).1; have hcell := hat j hjl; have hv : cs'[j]? = some (cs'[j]'(by omega)) := List.getElem?_eq_getElem (by omega); have h1 := hf j f hj; rw [ho, hk] at h1
  have hone' : (cs'.drop j).take 1 = [cs'[j]'(by omega)] := by
    rw [List.drop_eq_getElem_cons (by omega)]; rfl
  rw [hone'] at h1; have hys : ys[j]? = some (ys[j]'(by omega)) := List.getElem?_eq_getElem (by omega); refine ⟨_, _, _, ?_, h1.trans hys⟩; rw [← Go.Deep.add_add, hcell, hv]
end
section
variable {H : Type} {enc : TypeId × Value → H} {W : World} {base : Nat} {spare : Nat → Bool} {held : Bool}
theorem open_diffs {fuel : Nat} {cs : List Value} {x : DataW H × List MemPlace} (h : DataW.trod enc Try.prog W base spare held fuel 22 cs = some x) : ∃ (A : Option Addr) (l : List S39) (c : Nat), cs = [.slice A l.length c] ∧ Kd.C k39 W A l.length l ∧ l.length ≤ c ∧ (l = [] ∨ ∃ E S, x.1 = .slice E S ∧ E.length = l.length) := by
  rcases open_slice_fields Try.underlying22 Try.underlying39 (by kernel_rfl) (by kernel_rfl) h with rfl | ⟨a, len, cap, rfl, hl, hm, hES, hf⟩
  · exact ⟨none, [], 0, rfl, Kd.C_nil _ _, nR_ _, .inl rfl⟩
  have key : ∀ i : Nat, ∃ d : S39, i < len → ∀ j u, ([.int .i64 d.f0, .int .i64 d.f1, .int .i64 d.f2] : List Value)[j]? = some u → W.cell? (a.add (i * 3 + j)) = some u := by
    intro i; by_cases hi : i < len
    · obtain ⟨v0, y0, n0, c0, t0⟩ := hf i hi 0 _ rfl
      obtain ⟨v1, y1, n1, c1, t1⟩ := hf i hi 1 _ rfl; obtain ⟨v2, y2, n2, c2, t2⟩ := hf i hi 2 _ rfl; obtain ⟨z0, e0, _, _⟩ := DataW.trod_int Try.underlying3 t0; obtain ⟨z1, e1, _, _⟩ := DataW.trod_int Try.underlying3 t1; obtain ⟨z2, e2, _, _⟩ := DataW.trod_int Try.underlying3 t2; simp only [List.cons.injEq, and_true] at e0 e1 e2; subst e0 e1 e2; refine ⟨⟨z0, z1, z2⟩, fun _ j u hu => ?_⟩
      match j, hu with
      | 0, hu => cases hu; exact c0
      | 1, hu => cases hu; exact c1
      | 2, hu => cases hu; exact c2
    exact ⟨z39, fun h => absurd h hi⟩
  obtain ⟨g, hg⟩ := Classical.axiomOfChoice key; refine ⟨some a, (List.range len).map g, cap, by simp, ⟨by simp, by simp only [List.length_map, List.length_range]; unfold maxLen at hm; omega, fun _ => ⟨a, rfl, fun j p hj => ?_⟩⟩, by simpa using hl, .inr (by simpa using hES)⟩; rw [List.getElem?_map] at hj; by_cases hjl : j < len
  · rw [List.getElem?_range hjl] at hj
    simp only [Option.map_some, oJ_] at hj; subst hj; exact ⟨_, rfl, k39_mk W _, fun i u hu => hg j hjl i u hu⟩
  rw [List.getElem?_eq_none (by simpa using hjl)] at hj; simp at hj
theorem open_net {r : Reach} {b0 : Nat} {v : Value} {d : DataW H} {p : List MemPlace} (hv : Value.okWide Try.prog W r b0 24 v) (h : DataW.Trod enc Try.prog W base spare held 24 v d p) :
    ∃ (n : Int) (A : Option Addr) (l : List S39) (c : Nat), v = .agg #[.int .i64 n, .slice A l.length c] ∧ Kd.C k39 W A l.length l ∧ l.length ≤ c ∧ (Lit.int .i64 n).wf = true ∧ (∀ (ts : List TypeId) (ds : List (DataW H)) (j : Nat), (DataW.weightsEach Try.prog ts ds).all (· ≤ reachBytes) = true → ts[j]? = some 24 → ds[j]? = some d → l.length * 24 ≤ 140737488351232) := by
  obtain ⟨v0, v1, y0, y1, m, rfl, rfl, _, t0, t1⟩ := open_agg2 Try.underlying24 (by kernel_rfl) (by kernel_rfl) hv h; obtain ⟨z0, e0, _, wz⟩ := DataW.trod_int Try.underlying3 t0; obtain ⟨A, l, c, e1, hC, hc, hES⟩ := open_diffs t1; simp only [List.cons.injEq, and_true] at e0 e1; subst e0 e1; refine ⟨z0, A, l, c, rfl, hC, hc, wz, fun ts ds j hsz ht hd => ?_⟩; rcases hES with rfl | ⟨E, S, e, hl⟩
  · simp
  have hb : Try.prog.bytesOf 39 = 24 := by kernel_rfl
  have hin : (E.length + S.length) * Try.prog.bytesOf 39 ∈ DataW.weights Try.prog 22 y1.1 := by
    rw [e]; simp [DataW.weights, Try.underlying22]
  have hin2 : (E.length + S.length) * Try.prog.bytesOf 39 ∈ DataW.weights Try.prog 24 (.agg [y0.1, y1.1]) := by
    unfold DataW.weights; rw [Try.underlying24]; exact DataW.weights_mem_each (j := 1) rfl rfl _ hin
  have := List.all_eq_true.1 hsz _ (DataW.weights_mem_each ht hd _ hin2); have := dT_ this; rw [hb] at this; unfold reachBytes at this; omega
theorem open_list {r : Reach} {b0 : Nat} {v : Value} {d : DataW H} {p : List MemPlace} (hv : Value.okWide Try.prog W r b0 29 v) (h : DataW.Trod enc Try.prog W base spare held 29 v d p) :
    ∃ (A : Option Addr) (l : List Int) (c : Nat), v = .slice A l.length c ∧ Kd.C (Kd.int .i64) W A l.length l ∧ l.length ≤ c ∧ ((∀ n ∈ l, (Lit.int .i64 n).wf = true) ∧ (∀ (ts : List TypeId) (ds : List (DataW H)) (j : Nat), (DataW.weightsEach Try.prog ts ds).all (· ≤ reachBytes) = true → ts[j]? = some 29 → ds[j]? = some d → l.length * 8 ≤ 140737488351232)) := by
  obtain ⟨A0, len0, cap0, rfl⟩ := okWide_slice Try.underlying29 hv; obtain ⟨m, hm⟩ := h; rcases open_ints (k := .i64) Try.underlying29 Try.underlying3 (by kernel_rfl) hm with ⟨e, _⟩ | ⟨a, len, cap, zs, e, _, hl, hmx, hz, hd, hc, hwf⟩
  · have e : [Value.slice A0 len0 cap0] = [.slice none 0 0] := e
    simp only [List.cons.injEq, and_true] at e; rw [e]; exact ⟨none, [], 0, rfl, Kd.C_nil _ _, nR_ _, fun n hn => by simp at hn, fun _ _ _ _ _ _ => by simp⟩
  have e : [Value.slice A0 len0 cap0] = [.slice (some a) len cap] := e; simp only [List.cons.injEq, and_true] at e; rw [e]; have hlen : len ≤ zs.length := by rw [hz]; split <;> omega
  have ht : (zs.take len).length = len := by rw [lT_]; omega
  refine ⟨some a, zs.take len, cap, by rw [ht], ⟨by simp, by rw [ht]; unfold maxLen at hmx; omega, fun _ => ⟨a, rfl, fun j x hj => ?_⟩⟩, by rw [ht]; omega, fun n hn => hwf n (List.mem_of_mem_take hn), fun ts ds j hsz ht' hd' => ?_⟩
  · have hjl : j < len := by have := (List.getElem?_eq_some_iff.1 hj).1; omega
    rw [List.getElem?_take, if_pos hjl] at hj; have h1 := hc j (by omega); rw [List.getD_eq_getElem?_getD, hj] at h1; rw [Option.getD_some] at h1; refine ⟨[.int .i64 x], rfl, rfl, fun i u hu => ?_⟩
    match i, hu with
    | 0, hu => cases hu; rw [show j * (Kd.int .i64).sz + 0 = j from Nat.mul_one j]; exact h1
  have hb : Try.prog.bytesOf 3 = 8 := by kernel_rfl
  have hd1 : d = .slice (lits .i64 (zs.take len)) (lits .i64 (zs.drop len)) := (Prod.mk.inj hd).1
  have hin : ((lits (H := H) .i64 (zs.take len)).length + (lits (H := H) .i64 (zs.drop len)).length) * Try.prog.bytesOf 3 ∈ DataW.weights Try.prog 29 d := by
    rw [hd1]; simp [DataW.weights, Try.underlying29]
  have := List.all_eq_true.1 hsz _ (DataW.weights_mem_each ht' hd' _ hin); have := dT_ this; rw [hb] at this; unfold reachBytes lits at this; simp only [List.length_map] at this; omega
end
end Go.Proofs.Ytpolojoeabmhdaa.A
