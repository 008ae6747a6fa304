/- What comes in, opened: a net, a list of numbers. -/
import Derived.Test.YtpolojoeabmhdaaA0
import Derived.WalkKit
import Derived.ProofKit
import Derived.OpenShut
import Derived.ShutString
import Derived.ChangeOld
import Derived.Below
import Derived.SizedLaws
import Derived.Deep.Slices
import Derived.Deep.Fields
import Derived.ChangeSame
import Derived.Lib.SmallJoins
namespace Go.Proofs.Ytpolojoeabmhdaa.A
open Go.ChangeShapes Go.WideShapes Go.ChangeAt Go.RowKit Go.Deep Go.Joins
open Go.Proofs.YtpolojoeabmhdaaW.PrintWords Go.Proofs.YtpolojoeabmhdaaW.PrintLast Go.Proofs.YtpolojoeabmhdaaW.PrintMore
set_option maxRecDepth 100000
set_option linter.unusedVariables false
section
variable {H : Type} {enc : TypeId × Value → H} {P : Program} {w : World} {base : Nat} {spare : Nat → Bool} {held : Bool}
theorem open_slice_fields {t e : TypeId} {fs : Array Field} {fuel : Nat} {cs : List Value} {x : DataW H × List MemPlace} (ht : P.underlying t = some (.slice e)) (he : P.underlying e = some (.struct fs))
    (hone : oneCellFields P fs = true) (hC : P.cellsOf e = fs.size) (h : DataW.trod enc P w base spare held fuel t cs = some x) :
    (cs = [.slice none 0 0]) ∨
    ∃ (a : Addr) (len cap : Nat), cs = [.slice (some a) len cap] ∧ len ≤ cap ∧ cap ≤ maxLen ∧ (∃ E S, x.1 = .slice E S ∧ E.length = len) ∧
      ∀ i, i < len → ∀ (j : Nat) (f : Field), fs[j]? = some f → ∃ (v : Value) (y : DataW H × List MemPlace) (n : Nat), w.cell? (a.add (i * fs.size + j)) = some v ∧ DataW.trod enc P w base spare held n f.type [v] = some y := by
  rcases open_slice ht h with h0 | ⟨a, len, cap, m, n, D, Pl, hcs, hb, hl, hm, hmm, hx, hi⟩
  · exact .inl h0.1
  · refine .inr ⟨a, len, cap, hcs, hl, hm, ⟨_, _, by rw [hx], by simp⟩, fun i him j f hj => ?_⟩
    obtain ⟨cs', hc, ht'⟩ := hi i (by rw [hmm]; split <;> omega)
    rw [hC] at hc
    obtain ⟨ys, n', hn', hy, hlen, hyl, hf⟩ := DataW.trod_struct he ht'
    obtain ⟨_, hcl, hat⟩ := World.cells?_some hc
    obtain ⟨ho, hk⟩ := hone_of hone j f hj
    have hjl : j < fs.size := (Array.getElem?_eq_some_iff.1 hj).1
    have hcell := hat j hjl
    have hv : cs'[j]? = some (cs'[j]'(by omega)) := List.getElem?_eq_getElem (by omega)
    have h1 := hf j f hj
    rw [ho, hk] at h1
    have hone' : (cs'.drop j).take 1 = [cs'[j]'(by omega)] := by
      rw [List.drop_eq_getElem_cons (by omega)]
      rfl
    rw [hone'] at h1
    have hys : ys[j]? = some (ys[j]'(by omega)) := List.getElem?_eq_getElem (by omega)
    refine ⟨_, _, _, ?_, h1.trans hys⟩
    rw [← Go.Deep.add_add, hcell, hv]
end
section
variable {H : Type} {enc : TypeId × Value → H} {W : World} {base : Nat} {spare : Nat → Bool} {held : Bool}
theorem open_diffs {fuel : Nat} {cs : List Value} {x : DataW H × List MemPlace} (h : DataW.trod enc Try.prog W base spare held fuel 22 cs = some x) : ∃ (A : Option Addr) (l : List S39) (c : Nat), cs = [.slice A l.length c] ∧ Kd.C k39 W A l.length l ∧ l.length ≤ c ∧ (l = [] ∨ ∃ E S, x.1 = .slice E S ∧ E.length = l.length) := by
  rcases open_slice_fields Try.underlying22 Try.underlying39 (by kernel_rfl) (by kernel_rfl) h with rfl | ⟨a, len, cap, rfl, hl, hm, hES, hf⟩
  · exact ⟨none, [], 0, rfl, Kd.C_nil _ _, Nat.le_refl _, .inl rfl⟩
  · have key : ∀ i : Nat, ∃ d : S39, i < len → ∀ j u, ([.int .i64 d.f0, .int .i64 d.f1, .int .i64 d.f2] : List Value)[j]? = some u → W.cell? (a.add (i * 3 + j)) = some u := by
      intro i
      by_cases hi : i < len
      · obtain ⟨v0, y0, n0, c0, t0⟩ := hf i hi 0 _ rfl
        obtain ⟨v1, y1, n1, c1, t1⟩ := hf i hi 1 _ rfl
        obtain ⟨v2, y2, n2, c2, t2⟩ := hf i hi 2 _ rfl
        obtain ⟨z0, e0, _, _⟩ := DataW.trod_int Try.underlying3 t0
        obtain ⟨z1, e1, _, _⟩ := DataW.trod_int Try.underlying3 t1
        obtain ⟨z2, e2, _, _⟩ := DataW.trod_int Try.underlying3 t2
        simp only [List.cons.injEq, and_true] at e0 e1 e2
        subst e0 e1 e2
        refine ⟨⟨z0, z1, z2⟩, fun _ j u hu => ?_⟩
        match j, hu with
        | 0, hu => cases hu; exact c0
        | 1, hu => cases hu; exact c1
        | 2, hu => cases hu; exact c2
      · exact ⟨z39, fun h => absurd h hi⟩
    obtain ⟨g, hg⟩ := Classical.axiomOfChoice key
    refine ⟨some a, (List.range len).map g, cap, by simp, ⟨by simp, by simp only [List.length_map, List.length_range]; unfold maxLen at hm; omega, fun _ => ⟨a, rfl, fun j p hj => ?_⟩⟩, by simpa using hl, .inr (by simpa using hES)⟩
    rw [List.getElem?_map] at hj
    by_cases hjl : j < len
    · rw [List.getElem?_range hjl] at hj
      simp only [Option.map_some, Option.some.injEq] at hj
      subst hj
      exact ⟨_, rfl, k39_mk W _, fun i u hu => hg j hjl i u hu⟩
    · rw [List.getElem?_eq_none (by simpa using hjl)] at hj
      simp at hj
theorem open_net {r : Reach} {b0 : Nat} {v : Value} {d : DataW H} {p : List MemPlace} (hv : Value.okWide Try.prog W r b0 24 v) (h : DataW.Trod enc Try.prog W base spare held 24 v d p) :
    ∃ (n : Int) (A : Option Addr) (l : List S39) (c : Nat), v = .agg #[.int .i64 n, .slice A l.length c] ∧ Kd.C k39 W A l.length l ∧ l.length ≤ c ∧ (Lit.int .i64 n).wf = true ∧ (∀ (ts : List TypeId) (ds : List (DataW H)) (j : Nat), (DataW.weightsEach Try.prog ts ds).all (· ≤ reachBytes) = true → ts[j]? = some 24 → ds[j]? = some d → l.length * 24 ≤ 140737488351232) := by
  obtain ⟨v0, v1, y0, y1, m, rfl, rfl, _, t0, t1⟩ := open_agg2 Try.underlying24 (by kernel_rfl) (by kernel_rfl) hv h
  obtain ⟨z0, e0, _, wz⟩ := DataW.trod_int Try.underlying3 t0
  obtain ⟨A, l, c, e1, hC, hc, hES⟩ := open_diffs t1
  simp only [List.cons.injEq, and_true] at e0 e1
  subst e0 e1
  refine ⟨z0, A, l, c, rfl, hC, hc, wz, fun ts ds j hsz ht hd => ?_⟩
  rcases hES with rfl | ⟨E, S, e, hl⟩
  · simp
  · have hb : Try.prog.bytesOf 39 = 24 := by kernel_rfl
    have hin : (E.length + S.length) * Try.prog.bytesOf 39 ∈ DataW.weights Try.prog 22 y1.1 := by
      rw [e]; simp [DataW.weights, Try.underlying22]
    have hin2 : (E.length + S.length) * Try.prog.bytesOf 39 ∈ DataW.weights Try.prog 24 (.agg [y0.1, y1.1]) := by
      unfold DataW.weights
      rw [Try.underlying24]
      exact DataW.weights_mem_each (j := 1) rfl rfl _ hin
    have := List.all_eq_true.1 hsz _ (DataW.weights_mem_each ht hd _ hin2)
    have := of_decide_eq_true this
    rw [hb] at this
    unfold reachBytes at this
    omega
end
end Go.Proofs.Ytpolojoeabmhdaa.A
