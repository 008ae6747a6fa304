import Derived.Test.YtpolojoeabmhdaaMZcoreHFacts
import Derived.Test.YtpolojoeabmhdaaMStepwisec
import Derived.Test.YtpolojoeabmhdaaMZcoreh
import Derived.Test.YtpolojoeabmhdaaRows
set_option linter.unusedVariables false
set_option linter.unusedSimpArgs false
/- DiffsStepwise, over numbers and lists alone. -/
namespace Go.Proofs.Ytpolojoeabmhdaa.A
open Go.RowKit Go.Proofs.YtpolojoeabmhdaaW.PrintWords Go.Proofs.YtpolojoeabmhdaaW.PrintLast Go.Proofs.YtpolojoeabmhdaaW.PrintMore
theorem ext_rd {a b : List Int} (hl : a.length = b.length) (h : ∀ v : Int, 0 ≤ v → v < (a.length : Int) → rd a v = rd b v) : a = b :=
  List.ext_getElem hl (fun i h1 h2 => by
    have p := h i (by omega) (by omega)
    unfold rd at p
    rw [List.getD_eq_getElem?_getD, List.getD_eq_getElem?_getD, Int.toNat_natCast, List.getElem?_eq_getElem h1, List.getElem?_eq_getElem h2] at p
    exact p)
theorem ext_rdOf {α : Type} (d : α) {a b : List α} (hl : a.length = b.length) (h : ∀ v : Int, 0 ≤ v → v < (a.length : Int) → rdOf d a v = rdOf d b v) : a = b :=
  List.ext_getElem hl (fun i h1 h2 => by
    have p := h i (by omega) (by omega)
    unfold rdOf at p
    rw [List.getD_eq_getElem?_getD, List.getD_eq_getElem?_getD, Int.toNat_natCast, List.getElem?_eq_getElem h1, List.getElem?_eq_getElem h2] at p
    exact p)
section
variable {n : Nat} {L : List S39}
structure TabIs (n : Nat) (L : List S39) (m : List Int) (h : List Bool) : Prop where
  lm : (m.length : Int) = n * n
  lh : (h.length : Int) = n * n
  s : ∀ i j, 0 ≤ i → i < (n : Int) → 0 ≤ j → j < (n : Int) → Short L i j (At n m i j) (Ht n h i j)
theorem TabIs.ok (hV : Valid n L) (hn : n ≤ 64) (hs : Solv L) {m : List Int} {h : List Bool} (t : TabIs n L m h) : TabOk n m h := by
  refine ⟨hV.n1, by omega, t.lm, t.lh, fun i j i0 i1 j0 j1 => ?_, fun i j k i0 i1 j0 j1 k0 k1 h1 h2 => (t.s i j i0 i1 j0 j1).tri (t.s j k j0 j1 k0 k1) (t.s i k i0 i1 k0 k1) h1 h2⟩
  have hij := t.s i j i0 i1 j0 j1
  have hb := short_bound hV hs i0 i1 j0 j1 hij
  refine ⟨fun e => (hij.no e).1, hb.1, hb.2, fun e => ?_⟩
  rw [← e] at hij ⊢
  exact hij.self hs
theorem rd_append_lo {a b : List Int} {v : Int} (h0 : 0 ≤ v) (h1 : v < a.length) : rd (a ++ b) v = rd a v := by
  unfold rd
  rw [List.getD_eq_getElem?_getD, List.getD_eq_getElem?_getD, List.getElem?_append_left (by omega)]
theorem rd_append_hi {a b : List Int} {v : Int} (h0 : 0 ≤ v) : rd (a ++ b) (a.length + v) = rd b v := by
  unfold rd
  rw [List.getD_eq_getElem?_getD, List.getD_eq_getElem?_getD, List.getElem?_append_right (by omega)]
  congr 2; omega
theorem rdB_append_lo {a b : List Bool} {v : Int} (h0 : 0 ≤ v) (h1 : v < a.length) : rdOf false (a ++ b) v = rdOf false a v := by
  unfold rdOf
  rw [List.getD_eq_getElem?_getD, List.getD_eq_getElem?_getD, List.getElem?_append_left (by omega)]
theorem rdB_append_hi {a b : List Bool} {v : Int} (h0 : 0 ≤ v) : rdOf false (a ++ b) (a.length + v) = rdOf false b v := by
  unfold rdOf
  rw [List.getD_eq_getElem?_getD, List.getD_eq_getElem?_getD, List.getElem?_append_right (by omega)]
  congr 2; omega
theorem close_l0 (hV : Valid n L) (hn : n ≤ 64) (hs : Solv L) : ∀ (q : Nat) (i : Int) (m : List Int) (h : List Bool), (q : Int) + i = n → 0 ≤ i → (m.length : Int) = i * n → (h.length : Int) = i * n → (∀ a b, 0 ≤ a → a < i → 0 ≤ b → b < (n : Int) → Short L a b (At n m a b) (Ht n h a b)) →
    ∃ m' h', Ev (fun k => diffs_Close.l0 k n i n L n m h) ((n : Int), m', h', 0) ∧ TabIs n L m' h' := by
  have hn0 : 0 < n := by have := hV.n1; omega
  have hlim := nn_le (N := n) (by omega) (by omega)
  intro q
  induction q with
  | zero =>
    intro i m h hq i0 lm lh hsh
    obtain rfl : i = n := by omega
    exact ⟨m, h, Ev.step (f := fun _ => some ((n : Int), m, h, 0)) (fun k => by rw [diffs_Close.l0, if_neg (by omega)]) (Ev.now _), lm, lh, fun a b a0 a1 b0 b1 => hsh a b a0 a1 b0 b1⟩
  | succ q ih =>
    intro i m h hq i0 lm lh hsh
    have hm := hmul hV
    obtain ⟨s, bad, k1, k2, k3⟩ := grow_ev hn0 (by omega) hV.e (by omega) (from_ := [i]) (by simp) (fun v hv => by simp at hv; subst hv; exact ⟨i0, by omega⟩)
    obtain ⟨y, hy⟩ := id hs
    obtain ⟨e, hf⟩ := k2.good hV.e hy
    subst e
    obtain ⟨B, T, hb, hb2, hB⟩ := k2.bf
    have l1 := hB.l1
    have l2 := hB.l2
    have hp := pl_ok (N := n) (i := i) (j := 0) i0 (by omega) (by omega) (by omega)
    have hi1 : (i + 1) * (n : Int) = i * n + n := by rw [Int.add_mul, Int.one_mul]
    obtain ⟨m', h', g1, g2⟩ := ih (i + 1) (m ++ s.lo) (h ++ s.ha) (by omega) (by omega) (by rw [List.length_append, hi1]; push_cast; omega) (by rw [List.length_append, hi1]; push_cast; omega) (fun a b a0 a1 b0 b1 => by
      unfold At Ht
      by_cases c : a < i
      · have hq := pl_ok (N := n) a0 (show a < n by omega) b0 b1
        have h1 : (a + 1) * (n : Int) ≤ i * n := Int.mul_le_mul_of_nonneg_right (by omega) (by omega)
        rw [Int.add_mul, Int.one_mul] at h1
        rw [rd_append_lo hq.1 (by omega), rdB_append_lo hq.1 (by omega)]
        exact hsh a b a0 c b0 b1
      · obtain rfl : a = i := by omega
        rw [← lm, rd_append_hi b0, lm, ← lh, rdB_append_hi b0]
        exact tree_short hV.e a0 (by omega) k2 hf b0 b1)
    refine ⟨m', h', Ev.step (f := fun k => (diffs_grow.f k n L [i]).bind fun bt514 => (if m.length + bt514.1.length < 17592186044416 then (if h.length + bt514.2.1.length < 140737488355328 then (diffs_Close.l0 k n (wrap64 (i + 1)) n L n (m ++ bt514.1) (h ++ bt514.2.1)) else (none)) else (none))) (fun k => by rw [diffs_Close.l0, if_pos (by omega)]) (k3.bind (Ev.pos (by simp only; omega) (Ev.pos (by simp only; omega) ?_))), g2⟩
    rw [wrap_id (x := i + 1) (by omega) (by omega)]
    exact g1
theorem close_ev (hV : Valid n L) (hn : n ≤ 64) : (Solv L → ∃ m h, Ev (fun k => diffs_Close.f k n L) ((n : Int), m, h, 0) ∧ TabIs n L m h) ∧ (¬ Solv L → Ev (fun k => diffs_Close.f k n L) (0, [], [], 41)) := by
  have hn0 : 0 < n := by have := hV.n1; omega
  have hc := check_ev n L
  rw [if_pos (validB_iff.2 hV)] at hc
  obtain ⟨x, s, bad, h1, h2, h3, h4, h5⟩ := solve_ev hn0 (by omega) hV.e (hmul hV)
  have hb := h2.bad_iff hV.e (fun v a b => mem_allL.2 ⟨a, b⟩)
  unfold diffs_Close.f
  refine ⟨fun hs => ?_, fun hs => ?_⟩
  · obtain ⟨m, h, g1, g2⟩ := close_l0 hV hn hs n 0 [] [] (by omega) (by omega) (by simp) (by simp) (fun a b a0 a1 => by omega)
    have := hb.2 hs
    exact ⟨m, h, hc.bind (Ev.pos rfl (Ev.neg (by omega) (h3.bind (Ev.neg (by simp only; omega) g1)))), g2⟩
  · have hne : ¬ bad = -1 := fun e => hs (hb.1 e)
    exact hc.bind (Ev.pos rfl (Ev.neg (by omega) (h3.bind (Ev.pos (by rcases h2.res with ⟨a, _⟩ | ⟨a, _⟩; exact absurd a hne; exact a) (Ev.now _)))))
theorem samelists_l0 {a : List Int} (hl : a.length ≤ 65536) : ∀ (q : Nat) (i : Int), (q : Int) + i = a.length → 0 ≤ i → Ev (fun k => snowlineref04_SameLists.l0 k a a i) true := by
  intro q
  induction q with
  | zero =>
    intro i hq h0
    exact Ev.step (f := fun _ => some true) (fun k => by rw [snowlineref04_SameLists.l0, if_neg (by omega)]) (Ev.now _)
  | succ q ih =>
    intro i hq h0
    refine Ev.step (fun k => ?_) (ih (i + 1) (by omega) (by omega))
    rw [snowlineref04_SameLists.l0, if_pos (by omega), if_pos h0, if_pos (by omega), if_pos rfl, wrap_id (x := i + 1) (by omega) (by omega)]
theorem sametables_l0 {N : Int} {m : List Int} {h : List Bool} (hl : h.length ≤ 65536) : ∀ (q : Nat) (i : Int), (q : Int) + i = h.length → 0 ≤ i → Ev (fun k => snowlineref04_SameTables.l0 k i N m h N m h) true := by
  intro q
  induction q with
  | zero =>
    intro i hq h0
    exact Ev.step (f := fun _ => some true) (fun k => by rw [snowlineref04_SameTables.l0, if_neg (by omega)]) (Ev.now _)
  | succ q ih =>
    intro i hq h0
    refine Ev.step (fun k => ?_) (ih (i + 1) (by omega) (by omega))
    rw [snowlineref04_SameTables.l0, if_pos (by omega), if_pos h0, if_pos (by omega), if_neg (by simp), wrap_id (x := i + 1) (by omega) (by omega)]
theorem sametables_ev (N : Int) {m : List Int} {h : List Bool} (hm : m.length ≤ 65536) (hl : h.length ≤ 65536) : Ev (fun k => snowlineref04_SameTables.f k N m h N m h) true := by
  have h1 : Ev (fun k => snowlineref04_SameLists.f k m m) true := by
    unfold snowlineref04_SameLists.f
    exact Ev.pos rfl (samelists_l0 hm m.length 0 (by omega) (by omega))
  unfold snowlineref04_SameTables.f
  refine Ev.pos rfl (h1.bind (Ev.pos rfl ?_))
  simp only [bne_self_eq_false]
  exact Ev.step (f := fun k => snowlineref04_SameTables.l0 k 0 N m h N m h) (fun k => by rw [snowlineref04_SameTables.j0, if_neg (by decide)]) (sametables_l0 hl h.length 0 (by omega) (by omega))
theorem TabIs.unique (hn0 : 0 < n) {m m' : List Int} {h h' : List Bool} (t : TabIs n L m h) (t' : TabIs n L m' h') : m = m' ∧ h = h' := by
  have lm := t.lm
  have lh := t.lh
  have key : ∀ v : Int, 0 ≤ v → v < (n : Int) * n → rd m v = rd m' v ∧ rdOf false h v = rdOf false h' v := fun v v0 v1 => by
    have hN : (0 : Int) < n := by omega
    have e := Int.mul_ediv_add_emod v n
    have j0 := Int.emod_nonneg v (show (n : Int) ≠ 0 by omega)
    have j1 := Int.emod_lt_of_pos v hN
    have i0 := Int.ediv_nonneg v0 (show (0 : Int) ≤ n by omega)
    have i1 : v / n < n := Int.ediv_lt_of_lt_mul hN v1
    have := (t.s (v / n) (v % n) i0 i1 j0 j1).unique (t'.s (v / n) (v % n) i0 i1 j0 j1)
    unfold At Ht at this
    rw [show v / n * (n : Int) + v % n = v from by rw [Int.mul_comm]; exact e] at this
    exact this
  exact ⟨ext_rd (by have := t'.lm; omega) (fun v v0 v1 => (key v v0 (by omega)).1), ext_rdOf false (by have := t'.lh; omega) (fun v v0 v1 => (key v v0 (by omega)).2)⟩
end
/-- The first differences, in the order from c on. -/
def ordL (L : List S39) (c : Int) (i : Nat) : List S39 := (List.range i).map fun (j : Nat) => rd_T39 L (((j : Int) + c) % L.length)
theorem ordL_sub {L : List S39} {c : Int} {i : Nat} (hL : 0 < L.length) : ∀ d ∈ ordL L c i, d ∈ L := fun d hd => by
  obtain ⟨j, _, rfl⟩ := List.mem_map.1 hd
  exact rdT_mem (Int.emod_nonneg _ (by omega)) (Int.emod_lt_of_pos _ (by omega))
theorem ordL_all {L : List S39} {c : Int} : ∀ d ∈ L, d ∈ ordL L c L.length := fun d hd => by
  obtain ⟨k, k0, k1, rfl⟩ := mem_rdT hd
  have hL : (0 : Int) < L.length := by omega
  have j0 := Int.emod_nonneg (k - c) (show (L.length : Int) ≠ 0 by omega)
  have j1 := Int.emod_lt_of_pos (k - c) hL
  refine List.mem_map.2 ⟨((k - c) % L.length).toNat, List.mem_range.2 (by omega), ?_⟩
  rw [show (((k - c) % (L.length : Int)).toNat : Int) = (k - c) % L.length from by omega, Int.emod_add_emod, show k - c + c = k from by omega, Int.emod_eq_of_lt k0 k1]
theorem ordL_succ (L : List S39) (c : Int) (i : Nat) : ordL L c (i + 1) = ordL L c i ++ [rd_T39 L (((i : Int) + c) % L.length)] := by
  unfold ordL
  rw [List.range_succ, List.map_append]; rfl
theorem ordL_valid {n : Nat} {L : List S39} (hV : Valid n L) (hL : 0 < L.length) {c : Int} {i : Nat} (hi : i ≤ L.length) : Valid n (ordL L c i) := by
  refine ⟨hV.n1, hV.n2, by have := hV.l; unfold ordL; simp; omega, fun k k0 k1 => ?_⟩
  exact edges_mem hV.e _ (ordL_sub hL _ (rdT_mem k0 k1))
theorem step_l0 {n : Nat} {L : List S39} (hV : Valid n L) (hn : n ≤ 8) (hL : 0 < L.length) (hl : L.length ≤ 24) (x1 : Int) {c : Int} (hc : c = mn (mx x1 0) 1048576) (c0 : 0 ≤ c) (c1 : c ≤ 1048576) {wN we : Int} {wm : List Int} {wh : List Bool} (hw : (Solv L → we = 0 ∧ wN = n ∧ TabIs n L wm wh) ∧ (¬ Solv L → we = 41)) : ∀ (q i : Nat) (m : List Int) (h : List Bool), q + i = L.length → Solv (ordL L c i) → TabIs n (ordL L c i) m h →
    Ev (fun k => snowlinelaw04_DiffsStepwise.l0 k x1 we L.length L.length i n L wN wm wh n m h) true := by
  have hn0 : 0 < n := by have := hV.n1; omega
  intro q
  induction q with
  | zero =>
    intro i m h hq hs ht
    obtain rfl : i = L.length := by omega
    have hs' : Solv L := hs.sub ordL_all
    have ht' : TabIs n L m h := ⟨ht.lm, ht.lh, fun a b a0 a1 b0 b1 => (ht.s a b a0 a1 b0 b1).same (ordL_sub hL) ordL_all⟩
    obtain ⟨rfl, rfl, hwt⟩ := hw.1 hs'
    obtain ⟨rfl, rfl⟩ := ht'.unique hn0 hwt
    have hlim := nn_le (N := n) (by omega) (by omega)
    have := ht.lm
    have := ht.lh
    refine Ev.step (f := fun k => (snowlineref04_SameTables.f k n m h n m h).bind fun t777 => (some t777)) (fun k => by rw [snowlinelaw04_DiffsStepwise.l0, if_neg (by omega), if_pos rfl]) ((sametables_ev n (by omega) (by omega)).bind (Ev.now _))
  | succ q ih =>
    intro i m h hq hs ht
    have hVi := ordL_valid hV hL (c := c) (i := i) (by omega)
    have hT := ht.ok hVi (by omega) hs
    have k0 := Int.emod_nonneg ((i : Int) + c) (show (L.length : Int) ≠ 0 by omega)
    have k1 := Int.emod_lt_of_pos ((i : Int) + c) (show (0 : Int) < L.length by omega)
    have hd := hV.e _ k0 k1
    have hk : Int.tmod (wrap64 ((i : Int) + mn (mx x1 0) 1048576)) L.length = ((i : Int) + c) % L.length := by
      rw [← hc, wrap_id (by omega) (by omega), Int.tmod_eq_emod_of_nonneg (by omega)]
    have hin : ∀ {r}, Ev (fun k => (diffs_Narrow.f k n m h (rd_T39 L (((i : Int) + c) % L.length)).f0 (rd_T39 L (((i : Int) + c) % L.length)).f1 (rd_T39 L (((i : Int) + c) % L.length)).f2).bind fun bt769 => (if bt769.2.2.2 = 0 then (snowlinelaw04_DiffsStepwise.l0 k x1 we L.length L.length (wrap64 ((i : Int) + 1)) n L wN wm wh bt769.1 bt769.2.1 bt769.2.2.1) else (if bt769.2.2.2 = 41 then (some (we == 41)) else (some false)))) r → Ev (fun k => snowlinelaw04_DiffsStepwise.l0 k x1 we L.length L.length i n L wN wm wh n m h) r := fun hh =>
      Ev.step (fun k => by rw [snowlinelaw04_DiffsStepwise.l0, if_pos (by omega), if_neg (by omega), hk, if_pos k0, if_pos k1]) hh
    have hAB : ∀ a b, 0 ≤ a → a < (n : Int) → 0 ≤ b → b < (n : Int) → Short (ordL L c i) a b (At n m a b) (Ht n h a b) := ht.s
    obtain ⟨nv1, nv2⟩ := narrow_ev hT hd
    by_cases hcl : Ht n h (rd_T39 L (((i : Int) + c) % L.length)).f1 (rd_T39 L (((i : Int) + c) % L.length)).f0 = true ∧ At n m (rd_T39 L (((i : Int) + c) % L.length)).f1 (rd_T39 L (((i : Int) + c) % L.length)).f0 + (rd_T39 L (((i : Int) + c) % L.length)).f2 < 0
    · have hno : ¬ Solv L := fun hsL => narrow_clash hd (hAB _ _ hd.c hd.g hd.a hd.b) hcl (by
        rw [← ordL_succ]
        exact hsL.sub (ordL_sub hL))
      obtain rfl := hw.2 hno
      exact hin ((nv1 hcl).bind (Ev.neg (by decide) (Ev.pos rfl (Ev.now _))))
    · obtain ⟨m', h', e1, e2, e3, e4⟩ := nv2 hcl
      have hs2 := narrow_solv hn0 hVi.e hd hs hAB hcl
      rw [← ordL_succ] at hs2
      have g := ih (i + 1) m' h' (by omega) hs2.2 ⟨e2, e3, fun a b a0 a1 b0 b1 => by
        have := narrow_short hVi.e hd hs hAB hcl a0 a1 b0 b1
        rw [(e4 a b a0 a1 b0 b1).1, (e4 a b a0 a1 b0 b1).2, ordL_succ]
        exact this⟩
      refine hin (e1.bind (Ev.pos rfl ?_))
      rw [wrap_id (x := (i : Int) + 1) (by omega) (by omega)]
      exact g
theorem mx_is' (x : Int) : 0 ≤ mn (mx x 0) 1048576 ∧ mn (mx x 0) 1048576 ≤ 1048576 := by
  unfold mn mx
  split <;> split <;> omega
theorem stepwise_ev (n : Int) (L : List S39) (x1 : Int) : Ev (fun k => snowlinelaw04_DiffsStepwise.f k n L x1) true := by
  unfold snowlinelaw04_DiffsStepwise.f snowlinelaw04_sane.f
  simp only [Option.bind_some, if_true]
  refine (check_ev n L).bind ?_
  have hquit : Ev (fun k => snowlinelaw04_DiffsStepwise.j0 k x1 true n L) true :=
    Ev.step (f := fun _ => some true) (fun q => by rw [snowlinelaw04_DiffsStepwise.j0]; rfl) (Ev.now _)
  by_cases hv : validB n L = true
  case neg =>
    rw [if_neg hv]
    exact Ev.neg (by decide) hquit
  rw [if_pos hv]
  refine Ev.pos rfl ?_
  by_cases c1 : n > 8
  · exact Ev.pos c1 hquit
  refine Ev.neg c1 ?_
  by_cases c2 : (L.length : Int) > 24
  · simp only [decide_eq_true c2]; exact hquit
  simp only [decide_eq_false c2]
  have hV := validB_iff.1 hv
  obtain ⟨N, rfl⟩ : ∃ N : Nat, n = N := ⟨n.toNat, by have := hV.n1; omega⟩
  have hn0 : 0 < N := by have := hV.n1; omega
  have hV0 : Valid N ([] : List S39) := ⟨hV.n1, hV.n2, by simp, fun k k0 k1 => by simp at k1; omega⟩
  have hs0 : Solv ([] : List S39) := ⟨fun _ => 0, fun k k0 k1 => by simp at k1; omega⟩
  obtain ⟨m0, h0, z1, z2⟩ := (close_ev hV0 (by omega)).1 hs0
  obtain ⟨w1, w2⟩ := close_ev hV (by omega)
  refine Ev.step (f := fun q => _) (fun q => by rw [snowlinelaw04_DiffsStepwise.j0, if_neg (by decide)]) ?_
  have hm := mx_is' x1
  have main : ∀ {wN we : Int} {wm : List Int} {wh : List Bool}, ((Solv L → we = 0 ∧ wN = N ∧ TabIs N L wm wh) ∧ (¬ Solv L → we = 41)) → Ev (fun k => snowlinelaw04_DiffsStepwise.l0 k x1 we L.length L.length 0 N L wN wm wh N m0 h0) true := fun {wN we wm wh} hw => by
    by_cases hL : 0 < L.length
    · exact step_l0 hV (by omega) hL (by omega) x1 rfl hm.1 hm.2 hw L.length 0 m0 h0 (by omega) hs0 z2
    · have hnil : L = [] := List.eq_nil_of_length_eq_zero (by omega)
      subst hnil
      obtain ⟨rfl, rfl, hwt⟩ := hw.1 hs0
      obtain ⟨rfl, rfl⟩ := z2.unique hn0 hwt
      have hlim := nn_le (N := N) (by omega) (by omega)
      have := z2.lm
      have := z2.lh
      exact Ev.step (f := fun k => (snowlineref04_SameTables.f k N m0 h0 N m0 h0).bind fun t777 => (some t777)) (fun k => by rw [snowlinelaw04_DiffsStepwise.l0, if_neg (by simp), if_pos rfl]) ((sametables_ev N (by omega) (by omega)).bind (Ev.now _))
  by_cases hs : Solv L
  · obtain ⟨m, h, g1, g2⟩ := w1 hs
    exact g1.bind (z1.bind (Ev.pos rfl (main ⟨fun _ => ⟨rfl, rfl, g2⟩, fun hh => absurd hs hh⟩)))
  · exact (w2 hs).bind (z1.bind (Ev.pos rfl (main ⟨fun hh => absurd hh hs, fun _ => rfl⟩)))
end Go.Proofs.Ytpolojoeabmhdaa.A
/- DiffsStepwise: for every input the law answers true, and what came in reads as it did. No conditions. -/
namespace Go.Proofs.Ytpolojoeabmhdaa.diffsStepwise
open Go.ChangeShapes Go.WideShapes Go.ChangeAt Go.RowKit
open Go.Proofs.Ytpolojoeabmhdaa.A
open Go.Proofs.YtpolojoeabmhdaaW.PrintWords
set_option maxRecDepth 100000 in
theorem lifted (os : Os) (started : os.Started) (H : Type) (enc : TypeId × Value → H) :
    ReturnsInHanded {} Try.checked os 9 .any (Rows.diffsStepwiseSpec.pre6 enc Try.prog Try.f9 Rows.diffsStepwiseRow.domain false) (Rows.diffsStepwiseSpec.post enc Try.prog Try.f9 false true false false) := by
  refine returnsInHanded_of_change_sized (C := Try.checked) own started (by kernel_rfl) Try.func9
    (ChangeSpec.witness6 (enc := enc) (C := Try.checked) false ⟨#[], #[.agg #[.int .i64 0, .slice none 0 0], .int .i64 0], []⟩ 8 (by kernel_rfl) (by kernel_rfl) (by kernel_rfl) (by kernel_rfl)) ?_
  intro W base args ds gs before hval0 hW hcnd hsz0 _
  have hsz : (DataW.weightsEach Try.prog (Try.f9.params.toList ++ Rows.diffsStepwiseSpec.plain.varTypes Try.prog) (ds ++ gs)).all (· ≤ reachBytes) = true := hsz0
  have hval : ∀ (j : Nat) t v, Try.f9.params[j]? = some t → args[j]? = some v → Value.okWide Try.prog W .any base t v := hval0
  have hW' := hW
  obtain ⟨p, q, hA0, hV, rfl, hfz, hnd⟩ := hW
  have hA : DataW.TrodAll enc Try.prog W 0 (fun _ => true) true Try.f9.params.toList args.toList ds p := hA0
  rw [Try.params9] at hA hval hsz
  obtain ⟨v0, vs0, d0, ds0, p0, q0, hargs, rfl, rfl, h0, r0⟩ := trodAll_cons hA
  obtain ⟨v1, vs1, d1, ds1, p1, q1, rfl, rfl, rfl, h1, r1⟩ := trodAll_cons r0
  obtain ⟨rfl, rfl, rfl⟩ := trodAll_nil r1
  obtain rfl : args = #[v0, v1] := by cases args; simp_all
  obtain ⟨rfl, rfl⟩ := trodVars_none hV
  have k0 := h0
  have lt0 : ∀ x ∈ p0, x.block < W.heap.size := by obtain ⟨m, hm⟩ := k0; exact DataW.trod_lt m _ _ _ hm
  obtain ⟨n0, A0, l0, c0, rfl, hC0, hc0, wz0, sz0⟩ := open_net (hval 0 24 v0 rfl rfl) h0
  obtain ⟨a1, rfl, rfl, rfl, wz1⟩ := open_int Try.underlying3 (hval 1 3 v1 rfl rfl) h1
  obtain ⟨rk, hk⟩ := Ev.rounds (stepwise_ev n0 l0 a1)
  clear hA0 hval0 hsz0 hsz
  refine (snowlinelaw04_DiffsStepwise.calls rk n0 A0 c0 l0 a1 true W hC0 hc0 hk).mono fun e W' ⟨he, bel⟩ => ?_
  subst he
  exact ⟨_, rfl, _, _, _, [], _, [], hW', trodAll_mk1 (shut_bool Try.underlying4 _), (trodAll_cons_mk (Below.trod laidOut (by kernel_rfl) (of_decide_eq_true (by kernel_rfl)) k0 bel lt0) (trodAll_cons_mk (shut_int Try.underlying3 wz1) trodAll_mk0)), rfl, bel.frame _, fun h => by cases h⟩
theorem joined : joinedFacts Try.prog 9 Try.f9 Rows.diffsStepwiseSpec Rows.diffsStepwiseRow = true := (andB (andB (andB (andB (andB (andB (andB (andB (andB (andB (andB (andB (andB (andB (andB (andB (andB (andB (andB (andB (andB (andB (andB (andB (andB (andB (andB (andB (andB (andB (andB (by kernel_rfl) laidOut) pMapsRowed) (by kernel_rfl)) (by kernel_rfl)) (by kernel_rfl)) pStops) (by kernel_rfl)) pKnobs) (by kernel_rfl)) (by kernel_rfl)) (by kernel_rfl)) (by kernel_rfl)) (by kernel_rfl)) (by kernel_rfl)) (by kernel_rfl)) (by kernel_rfl)) (by kernel_rfl)) (by kernel_rfl)) (by kernel_rfl)) (by kernel_rfl)) (by kernel_rfl)) pPlain) (by kernel_rfl)) pHeard) pEnter) pLifted) pMake) (by kernel_rfl)) (by kernel_rfl)) (by kernel_rfl)) (by kernel_rfl))
theorem over : Rows.diffsStepwiseRow.holds Try.pinned (OpenSpec.ofChange Rows.diffsStepwiseSpec) :=
  OpenClaim.holds_of_wide 9 Try.f9 rfl rfl rfl rfl rfl rfl rfl ⟨rfl, rfl, rfl, rfl, rfl⟩ rfl rfl rfl rfl rfl (by kernel_rfl) Try.func9 joined
    (of_decide_eq_true (by kernel_rfl)) (by unfold Func.isWrapper; first | (rw [if_pos (by decide +kernel)]; kernel_rfl) | (rw [if_neg (by decide +kernel)]; exact ⟨rfl, rfl⟩))
    (fun os started H enc _ => lifted os started H enc)
theorem proved : Rows.DiffsStepwiseSaid := over
#print axioms proved
end Go.Proofs.Ytpolojoeabmhdaa.diffsStepwise
namespace Go.Proofs.Ytpolojoeabmhdaa
/-- The row, under a short name, for the claim. -/
theorem diffsStepwise_holds : Rows.DiffsStepwiseSaid := diffsStepwise.proved
end Go.Proofs.Ytpolojoeabmhdaa
