/- slices.Clone at the three element types: the walks. -/
import Derived.Test.YtpolojoeabmhdaaA0
import Derived.WalkSpells
import Derived.Lib.SliceRun
namespace Go.Proofs.Ytpolojoeabmhdaa.A
open Go.RowKit Go.Proofs.YtpolojoeabmhdaaW.PrintWords Go.Proofs.YtpolojoeabmhdaaW.PrintLast Go.Proofs.YtpolojoeabmhdaaW.PrintMore
set_option linter.unusedVariables false
set_option linter.unusedSimpArgs false
/-- An empty row of the call's own. -/
theorem R_empty {α : Type} (d : Kd α) (e : Nat) (w : World) (base : Nat) (hb : base ≤ w.heap.size) (ok : Nat → Prop) (hk : ok w.heap.size) : d.R e (w.alloc (.cells #[] e)) base ok (.slice (some ⟨w.heap.size, 0, none⟩) 0 0) [] :=
 ⟨fun k hk' => by simp only [Value.ownBlock, Option.some.injEq] at hk'; subst hk'; exact hk, [], World.ownsRow_made w #[] 0 hb (by unfold maxLen; omega) (by simp), Reps.none _ _⟩
theorem nil_of_none {α : Type} {d : Kd α} {w : World} {l : List α} (h : d.C w none l.length l) : l = [] := by
 have h2 := h.2.2
 cases l with
 | nil => rfl
 | cons x xs => obtain ⟨ad, h, _⟩ := h2 (by simp); cases h
def slices_Clone_int_int.f (l0 : List Int) : Option (List Int) := if l0.length ≤ 65536 then some l0 else none
set_option maxHeartbeats 400000 in
theorem slices_Clone_int_int.calls (A0 : Option Addr) (c0 : Nat) (l0 : List Int) (r : List Int) (w : World) (hr0 : Kd.C (Kd.int .i64) w A0 l0.length l0) (hc0 : l0.length ≤ c0) (h : slices_Clone_int_int.f l0 = some r) :
  Calls Try.prog 99 #[.slice A0 l0.length c0] w fun e w' => ∃ v0_ : Value, e = .returned (v0_) ∧ Kd.R (Kd.int .i64) 3 w' w.heap.size (fun _ => True) v0_ r ∧ Below w.heap.size w w' := by
 have HR0 := Aside0.mk hr0
 clear hr0
 unfold slices_Clone_int_int.f at h
 by_cases hl : l0.length ≤ 65536
 ·rw [if_pos hl] at h
  obtain rfl := Option.some.inj h
  have qT : ∀ (w : World) (a : Option Addr) (n c n' c' : Nat), (binOp .eql 29 (.slice a n c) (.slice none n' c')).run Try.prog w = .ok (.bool a.isNone) w := fun w a n c n' c' => Lib.run_eql_slice_nil w _ _ a n c n' c' Try.underlying29
  have HL := Aside0.mk hl
  clear hl h
  cases A0 with
  | none =>
   obtain rfl := nil_of_none HR0.out
   have hz : (none : Option Addr).isNone = true := rfl
   go_enter Try.func99, Try.ntmps99
   go_wp2
   go_ret
   exact ⟨_, rfl, Kd.R_nil _ _ _ _ _, Below.refl _ _⟩
  | some ad =>
   have hz : (some ad : Option Addr).isNone = false := rfl
   go_enter Try.func99, Try.ntmps99
   go_wp2_with (at_builtin; refine Kd.R_append_row (Value.int .i64) (0 : Int) (h1 := fun _ => rfl) (w0 := w) w.heap.size rfl (.tmp 5) (.tmp 6) 29 3 (.int .i64 0) 8 rfl Try.underlying29 info3 rfl (by omega) (.slice (some ⟨w.heap.size, 0, none⟩) 0 0) [] l0 (some ad) l0.length c0 (fun _ => True) rfl rfl (fun _ _ => trivial) (R_empty (Kd.int .i64) 3 w _ (Nat.le_refl _) _ trivial) (Kd.C_alloc HR0.out _) (below_alloc (Below.refl _ _) _) (by simp) (by have := HL.out; simp only [List.length_nil]; omega) ?_; intro v1 w1 ho hb hg hat)
   go_ret
   rw [List.nil_append] at ho
   exact ⟨_, rfl, ho, hb⟩
 ·rw [if_neg hl] at h
  cases h
def slices_Clone_bool_bool.f (l0 : List Bool) : Option (List Bool) := if l0.length ≤ 65536 then some l0 else none
set_option maxHeartbeats 400000 in
theorem slices_Clone_bool_bool.calls (A0 : Option Addr) (c0 : Nat) (l0 : List Bool) (r : List Bool) (w : World) (hr0 : Kd.C Kd.bool w A0 l0.length l0) (hc0 : l0.length ≤ c0) (h : slices_Clone_bool_bool.f l0 = some r) :
  Calls Try.prog 114 #[.slice A0 l0.length c0] w fun e w' => ∃ v0_ : Value, e = .returned (v0_) ∧ Kd.R Kd.bool 4 w' w.heap.size (fun _ => True) v0_ r ∧ Below w.heap.size w w' := by
 have HR0 := Aside0.mk hr0
 clear hr0
 unfold slices_Clone_bool_bool.f at h
 by_cases hl : l0.length ≤ 65536
 ·rw [if_pos hl] at h
  obtain rfl := Option.some.inj h
  have qT : ∀ (w : World) (a : Option Addr) (n c n' c' : Nat), (binOp .eql 41 (.slice a n c) (.slice none n' c')).run Try.prog w = .ok (.bool a.isNone) w := fun w a n c n' c' => Lib.run_eql_slice_nil w _ _ a n c n' c' Try.underlying41
  have HL := Aside0.mk hl
  clear hl h
  cases A0 with
  | none =>
   obtain rfl := nil_of_none HR0.out
   have hz : (none : Option Addr).isNone = true := rfl
   go_enter Try.func114, Try.ntmps114
   go_wp2
   go_ret
   exact ⟨_, rfl, Kd.R_nil _ _ _ _ _, Below.refl _ _⟩
  | some ad =>
   have hz : (some ad : Option Addr).isNone = false := rfl
   go_enter Try.func114, Try.ntmps114
   go_wp2_with (at_builtin; refine Kd.R_append_row Value.bool false (h1 := fun _ => rfl) (w0 := w) w.heap.size rfl (.tmp 5) (.tmp 6) 41 4 (.bool false) 1 rfl Try.underlying41 info4 rfl (by omega) (.slice (some ⟨w.heap.size, 0, none⟩) 0 0) [] l0 (some ad) l0.length c0 (fun _ => True) rfl rfl (fun _ _ => trivial) (R_empty Kd.bool 4 w _ (Nat.le_refl _) _ trivial) (Kd.C_alloc HR0.out _) (below_alloc (Below.refl _ _) _) (by simp) (by have := HL.out; simp only [List.length_nil]; omega) ?_; intro v1 w1 ho hb hg hat)
   go_ret
   rw [List.nil_append] at ho
   exact ⟨_, rfl, ho, hb⟩
 ·rw [if_neg hl] at h
  cases h
def api_Diff_62.f (l0 : List (S39)) : Option (List (S39)) := if l0.length ≤ 65536 then some l0 else none
set_option maxHeartbeats 400000 in
theorem api_Diff_62.calls (A0 : Option Addr) (c0 : Nat) (l0 : List (S39)) (r : List (S39)) (w : World) (hr0 : Kd.C k39 w A0 l0.length l0) (hc0 : l0.length ≤ c0) (h : api_Diff_62.f l0 = some r) :
  Calls Try.prog 62 #[.slice A0 l0.length c0] w fun e w' => ∃ v0_ : Value, e = .returned (v0_) ∧ Kd.R k39 39 w' w.heap.size (fun _ => True) v0_ r ∧ Below w.heap.size w w' := by
 have HR0 := Aside0.mk hr0
 clear hr0
 unfold api_Diff_62.f at h
 by_cases hl : l0.length ≤ 65536
 ·rw [if_pos hl] at h
  obtain rfl := Option.some.inj h
  have qT : ∀ (w : World) (a : Option Addr) (n c n' c' : Nat), (binOp .eql 22 (.slice a n c) (.slice none n' c')).run Try.prog w = .ok (.bool a.isNone) w := fun w a n c n' c' => Lib.run_eql_slice_nil w _ _ a n c n' c' Try.underlying22
  have HL := Aside0.mk hl
  clear hl h
  cases A0 with
  | none =>
   obtain rfl := nil_of_none HR0.out
   have hz : (none : Option Addr).isNone = true := rfl
   go_enter Try.func62, Try.ntmps62
   go_wp2
   go_ret
   exact ⟨_, rfl, Kd.R_nil _ _ _ _ _, Below.refl _ _⟩
  | some ad =>
   have hz : (some ad : Option Addr).isNone = false := rfl
   go_enter Try.func62, Try.ntmps62
   go_wp2_with (at_builtin; refine Kd.R_append_rows k39 (Rr := k39.K (w.alloc (.cells #[] 39))) (okp := fun _ => False) (w0 := w) w.heap.size rfl (.tmp 5) (.tmp 6) 22 39 (.agg #[(.int .i64 0), (.int .i64 0), (.int .i64 0)]) 24 rfl Try.underlying22 info39 rfl (by decide) (by omega) (.slice (some ⟨w.heap.size, 0, none⟩) 0 0) [] l0 (some ad) l0.length c0 (fun _ => True) rfl rfl (R_empty k39 39 w _ (Nat.le_refl _) _ trivial) (Kd.C_alloc HR0.out _) (fun x cs h => by obtain rfl := k39_open h; exact k39_mkM _ _ _ _) (fun _ h => h.elim) (fun _ _ => trivial) (below_alloc (Below.refl _ _) _) (by simp) (by have := HL.out; simp only [List.length_nil]; omega) ?_; intro v1 w1 ho hb hg hat)
   go_ret
   rw [List.nil_append] at ho
   exact ⟨_, rfl, ho, hb⟩
 ·rw [if_neg hl] at h
  cases h
end Go.Proofs.Ytpolojoeabmhdaa.A
