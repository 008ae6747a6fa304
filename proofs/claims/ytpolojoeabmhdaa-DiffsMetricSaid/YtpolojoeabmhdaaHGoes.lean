import Derived.Test.YtpolojoeabmhdaaA0
import Derived.WalkSpells
import Derived.WalkMore
import Derived.ScopeJumps
namespace Go.Proofs.Ytpolojoeabmhdaa.A
open Go.RowKit Go.Proofs.YtpolojoeabmhdaaW.PrintWords Go.Proofs.YtpolojoeabmhdaaW.PrintLast Go.Proofs.YtpolojoeabmhdaaW.PrintMore
set_option linter.unusedVariables false
set_option linter.unusedSimpArgs false

section
variable {P : Program} {ops : Array Oper} {Q : Exit → Act → World → Prop}
/-- A method's call on an interface value, in a plain region. -/
theorem goesIL_ {rest : List Oper} {oi : Oper} {a : Act} {w : World} (N : Option Tmp) (hd : oi.dst = N) (hg : oi.guard = none) {recv : Operand} {name : String} {ts : Array TypeId}
    (hop : oi.op = .call { callee := .invoke recv name, args := #[], argTypes := ts }) {T : TypeId} {v : Value} (hv : a.eval recv = .iface T v) {f : FuncId} {r : Value}
    (hm : (method (P.types.size + Made.depth) T v name).run P w = .ok (f, r) w) {fn : Func} (hf : P.funcs[f]? = some fn) (hname : (fn.name == "runtime.NumGoroutine") = false) (hb : fn.body.isSome = true)
    (h : Calls P f #[r] w fun e w' => ∃ v, e = .returned v ∧ wpList P ops Q rest (a.put N v) w') : wpList P ops Q (oi :: rest) a w := by
  refine wpList_plain hg fun K hK => ?_
  have he := enters_ hf hname hb #[r] w
  have hrun : (execOp a.eval oi).run P w = .ok (.enter f #[r]) w := by
    unfold execOp
    simp [hop, resolve, invoke, callMethod, hv, hm, he]
  unfold Oper.wp
  rw [hrun, Oper.upon_enter]
  refine h.mono fun e w'' hh => ?_
  obtain ⟨v, rfl, hk⟩ := hh
  subst hd
  exact hK _ _ hk
/-- The same in a region that draws its order. -/
theorem goesI_ {oi : Oper} {N : Option Tmp} {a : Act} {w : World} {K : Act → World → Prop} {recv : Operand} {name : String} {ts : Array TypeId} {T : TypeId} {v : Value} {f : FuncId} {r : Value} {fn : Func}
    (hf : P.funcs[f]? = some fn) (hname : (fn.name == "runtime.NumGoroutine") = false) (hb : fn.body.isSome = true)
    (hw : Region.wanted oi (yielded ops a.tmps) = true) (hN : oi.dst = N) (hop : oi.op = .call { callee := .invoke recv name, args := #[], argTypes := ts }) (hv : a.eval recv = .iface T v)
    (hm : (method (P.types.size + Made.depth) T v name).run P w = .ok (f, r) w)
    (h : Calls P f #[r] w fun e w' => ∃ v, e = .returned v ∧ K (a.put N v) w') : if Region.wanted oi (yielded ops a.tmps) = true then Oper.wp P oi a w K Q else K (a.put N undef) w := by
  refine call_ f #[r] hw hN ?_ h
  have he := enters_ hf hname hb #[r] w
  unfold execOp
  simp [hop, resolve, invoke, callMethod, hv, hm, he]
end

theorem least_ {p : Nat → Prop} (h : ∃ n, p n) : ∃ n, p n ∧ ∀ m, p m → n ≤ m := by
  obtain ⟨n, hn⟩ := h
  induction n using Nat.strongRecOn with
  | _ n ih =>
    by_cases hm : ∃ m, m < n ∧ p m
    · obtain ⟨m, hlt, hp⟩ := hm
      exact ih m hlt hp
    · exact ⟨n, hn, fun m hp => Nat.le_of_not_lt fun hlt => hm ⟨m, hlt, hp⟩⟩
/-- A scope with one label, jumped back to: what holds at a jump, with a number that goes down. -/
theorem wp_scope_ghost {P : Program} {a : Act} {w : World} {Q : Exit → Act → World → Prop} {c rest : Code} (l : Nat) (J : Nat → Act → World → Prop) (hf : findLabel c l = some (Code.skip.seq rest))
    (pass : ∀ n a w, J n a w → rest.wp P (Exit.jump l (fun a' w' => ∃ m, m < n ∧ J m a' w') Q) a w)
    (first : (∀ n a w, J n a w → rest.wp P (Exit.jump l (fun a' w' => ∃ m, J m a' w') Q) a w) → c.wp P (Exit.jump l (fun a' w' => ∃ m, J m a' w') Q) a w) : (Code.scope c).wp P Q a w := by
  refine wp_scope_jumps l (fun a w => ∃ m, J m a w) (fun a w => @Classical.epsilon Nat ⟨0⟩ fun n => J n a w ∧ ∀ m, J m a w → n ≤ m) hf (first fun n a w h => ?_) ?_
  · refine wp_mono (pass n a w h) ?_
    intro e a' w' hq
    cases e with
    | goto l' => obtain ⟨h1, m, _, h2⟩ := hq; exact ⟨h1, m, h2⟩
    | _ => exact hq
  · intro a w h
    have e1 := @Classical.epsilon_spec Nat (fun n => J n a w ∧ ∀ m, J m a w → n ≤ m) (least_ h)
    refine wp_seq (wp_skip ?_)
    show rest.wp P _ a w
    refine wp_mono (pass _ a w e1.1) ?_
    intro e a' w' hq
    cases e with
    | goto l' =>
      obtain ⟨h1, m, hm, h2⟩ := hq
      have e2 := @Classical.epsilon_spec Nat (fun n => J n a' w' ∧ ∀ m, J m a' w' → n ≤ m) (least_ ⟨m, h2⟩)
      exact ⟨h1, ⟨m, h2⟩, Nat.lt_of_le_of_lt (e2.2 m h2) hm⟩
    | _ => exact hq
theorem m_plain_lines (v : Value) (w : World) : (method (Try.prog.types.size + Made.depth) 100 v "snowline/diffs.lines").run Try.prog w = .ok (150, v) w := by kernel_rfl
theorem m_plain_nodes (v : Value) (w : World) : (method (Try.prog.types.size + Made.depth) 100 v "snowline/diffs.nodes").run Try.prog w = .ok (151, v) w := by kernel_rfl
theorem m_use_lines (a : Addr) (w : World) : (method (Try.prog.types.size + Made.depth) 91 (.pointer (some a)) "snowline/diffs.lines").run Try.prog w = .ok (130, .pointer (some a)) w := by kernel_rfl
theorem m_use_nodes (a : Addr) (w : World) : (method (Try.prog.types.size + Made.depth) 91 (.pointer (some a)) "snowline/diffs.nodes").run Try.prog w = .ok (149, .pointer (some a)) w := by kernel_rfl
end Go.Proofs.Ytpolojoeabmhdaa.A
