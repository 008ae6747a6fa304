/- slices.ContainsFunc over whole numbers, and the function literals that are handed to it. -/
import Derived.Test.YtpolojoeabmhdaaHGoes
import Derived.Test.YtpolojoeabmhdaaAf75
namespace Go.Proofs.Ytpolojoeabmhdaa.A
open Go.RowKit Go.Proofs.YtpolojoeabmhdaaW.PrintWords Go.Proofs.YtpolojoeabmhdaaW.PrintLast Go.Proofs.YtpolojoeabmhdaaW.PrintMore
set_option linter.unusedVariables false
set_option linter.unusedSimpArgs false
section
variable {P : Program} {ops : Array Oper} {Q : Exit → Act → World → Prop}
/-- A call of a function value, in a plain region. -/
theorem goesFL_ {rest : List Oper} {oi : Oper} {a : Act} {w : World} (N : Option Tmp) (hd : oi.dst = N) (hg : oi.guard = none) {x : Operand} {aa : Array Operand} {ts : Array TypeId}
  (hop : oi.op = .call { callee := .value x, args := aa, argTypes := ts }) {f : FuncId} {caps : Array Value} (hx : a.eval x = .func (.func f) #[] caps) {args : Array Value} (hargs : aa.map a.eval = args)
  {fn : Func} (hf : P.funcs[f]? = some fn) (hname : (fn.name == "runtime.NumGoroutine") = false) (hb : fn.body.isSome = true)
  (h : Calls P f (args ++ caps) w fun e w' => ∃ v, e = .returned v ∧ wpList P ops Q rest (a.put N v) w') : wpList P ops Q (oi :: rest) a w := by
 refine wpList_plain hg fun K hK => ?_
 have he := enters_ hf hname hb (args ++ caps) w
 have hrun : (execOp a.eval oi).run P w = .ok (.enter f (args ++ caps)) w := by
  unfold execOp
  simp [hop, resolve, Deferred.ofValue, invoke, hx, hargs, he]
 unfold Oper.wp
 rw [hrun, Oper.upon_enter]
 refine h.mono fun e w'' hh => ?_
 obtain ⟨v, rfl, hk⟩ := hh
 subst hd
 exact hK _ _ hk
end
def ixf (p : Int → Bool) : List Int → Int → Int
 | [], _ => -1
 | x :: xs, i => if p x = true then i else ixf p xs (i + 1)
theorem ixf_any (p : Int → Bool) : ∀ (l : List Int) (i : Int), 0 ≤ i → (decide (0 ≤ ixf p l i)) = l.any p
 | [], i, _ => by simp [ixf]
 | x :: xs, i, h => by
  unfold ixf
  by_cases hp : p x = true
  ·rw [if_pos hp]; simp [hp, h]
  ·rw [if_neg hp, ixf_any p xs (i + 1) (by omega)]; simp [hp]
set_option maxHeartbeats 1000000 in
set_option maxRecDepth 100000 in
theorem index_any (p : Int → Bool) (fl : FuncId) (caps : Array Value) (gf : Func) (A0 : Option Addr) (c0 : Nat) (l0 : List Int) (w : World) (hr0 : Kd.C (Kd.int .i64) w A0 l0.length l0) (hc0 : l0.length ≤ c0)
  (hf : Aside0 (Try.prog.funcs[fl]? = some gf ∧ (gf.name == "runtime.NumGoroutine") = false ∧ gf.body.isSome = true))
  (hp : Aside0 (∀ (x : Int) (W : World), Below w.heap.size w W → Calls Try.prog fl (#[.int .i64 x] ++ caps) W fun e W' => e = .returned (.bool (p x)) ∧ Below W.heap.size W W')) :
  Calls Try.prog 106 #[.slice A0 l0.length c0, .func (.func fl) #[] caps] w fun e w' => e = .returned (.int .i64 (ixf p l0 0)) ∧ Below w.heap.size w w' := by
 have HM := Aside0.mk hr0.2.1
 have HR0 := Aside0.mk hr0
 have HB := Aside0.mk (Below.refl w.heap.size w)
 clear hr0 hc0
 go_enter Try.func106, Try.ntmps106
 go_wp2
 go_loopg [8] l0.length (fun kq v8 w' => ∃ i : Int, v8 = .int .i64 i ∧ Aside0 (0 ≤ i ∧ (kq : Int) + i = l0.length ∧ ixf p (l0.drop i.toNat) i = ixf p l0 0) ∧ Aside0 (Below w.heap.size w w'))
 case atStart => exact ⟨0, rfl, ⟨by omega, by omega, by simp⟩, HB⟩
 case round =>
  obtain ⟨i, rfl, HI, HB⟩ := hrel
  have hM := HM.out
  by_cases hlt : i < (l0.length : Int)
  ·have h0 := HI.out.1
   have hk := HI.out.2.1
   obtain ⟨ad, e1, hx⟩ := Kd.at_int HR0.out i h0 hlt
   cases e1
   have hx1 := (HB.out.cell (World.block_lt_of_cell? w _ hx)).trans hx
   clear hx
   have hstep : ixf p (l0.drop i.toNat) i = if p (rd l0 i) = true then i else ixf p (l0.drop (i + 1).toNat) (i + 1) := by
    have e2 : l0.drop i.toNat = rd l0 i :: l0.drop (i + 1).toNat := by
     rw [show (i + 1).toNat = i.toNat + 1 from by omega]
     rw [List.drop_eq_getElem_cons (by omega)]
     congr 1
     unfold rd
     rw [List.getD_eq_getElem?_getD, List.getElem?_eq_getElem (by omega)]; rfl
    rw [e2]; rfl
   have HS := Aside0.mk hstep
   clear hstep
   have hw64 : i + 1 ≤ 9223372036854775807 := by omega
   by_cases hb : p (rd l0 i) = true
   ·have HP := Aside0.mk hb
    clear hb
    go_wp2_with (refine goesFL_ (some 16) rfl rfl rfl (x := .tmp 11) rfl (args := #[.int .i64 (rd l0 i)]) (by (try simp only [List.map_toArray, List.map_cons, List.map_nil]); first | done | rfl) hf.out.1 hf.out.2.1 hf.out.2.2 ?_; refine (hp.out (rd l0 i) _ HB.out).mono ?_; rintro e w1 ⟨rfl, hb1⟩; refine ⟨_, rfl, ?_⟩; rw [HP.out])
    go_ret
    exact ⟨by rw [← HI.out.2.2, HS.out, if_pos HP.out]; rfl, below_step HB.out hb1⟩
   ·have hb' : p (rd l0 i) = false := by simpa using hb
    have HP := Aside0.mk hb'
    clear hb hb'
    go_wp2_with (refine goesFL_ (some 16) rfl rfl rfl (x := .tmp 11) rfl (args := #[.int .i64 (rd l0 i)]) (by (try simp only [List.map_toArray, List.map_cons, List.map_nil]); first | done | rfl) hf.out.1 hf.out.2.1 hf.out.2.2 ?_; refine (hp.out (rd l0 i) _ HB.out).mono ?_; rintro e w1 ⟨rfl, hb1⟩; refine ⟨_, rfl, ?_⟩; rw [HP.out])
    go_roundg (gk - 1)
    case measure => omega
    case rel => exact ⟨i + 1, rfl, ⟨by omega, by omega, by rw [← HI.out.2.2, HS.out, if_neg (by rw [HP.out]; decide)]⟩, ⟨below_step HB.out hb1⟩⟩
  ·have h0 := HI.out.1
   have hk := HI.out.2.1
   go_wp2
   go_ret
   exact ⟨by rw [← HI.out.2.2, List.drop_eq_nil_of_le (by omega)]; rfl, HB.out⟩

set_option maxHeartbeats 1000000 in
/-- slices.ContainsFunc: whether some element is met by the function. -/
theorem contains_any (p : Int → Bool) (fl : FuncId) (caps : Array Value) (gf : Func) (A0 : Option Addr) (c0 : Nat) (l0 : List Int) (w : World) (hr0 : Kd.C (Kd.int .i64) w A0 l0.length l0) (hc0 : l0.length ≤ c0)
  (hf : Aside0 (Try.prog.funcs[fl]? = some gf ∧ (gf.name == "runtime.NumGoroutine") = false ∧ gf.body.isSome = true))
  (hp : Aside0 (∀ (x : Int) (W : World), Below w.heap.size w W → Calls Try.prog fl (#[.int .i64 x] ++ caps) W fun e W' => e = .returned (.bool (p x)) ∧ Below W.heap.size W W')) :
  Calls Try.prog 57 #[.slice A0 l0.length c0, .func (.func fl) #[] caps] w fun e w' => e = .returned (.bool (l0.any p)) ∧ Below w.heap.size w w' := by
 have HR0 := Aside0.mk hr0
 have HC0 := Aside0.mk hc0
 clear hr0 hc0
 go_enter Try.func57, Try.ntmps57
 go_wp2_with ((with_reducible refine gate_callee (f := 106) rfl ?_); refine goesL_ (some 7) rfl rfl Try.func106 (by kernel_rfl) rfl #[.slice A0 l0.length c0, .func (.func fl) #[] caps] rfl (by (try simp only [List.map_toArray, List.map_cons, List.map_nil]); first | done | rfl) ?_; (refine (index_any p fl caps gf _ _ l0 _ HR0.out HC0.out hf hp).mono ?_); rintro e w1 ⟨rfl, hb⟩; refine ⟨_, rfl, ?_⟩)
 go_ret
 exact ⟨by rw [← ixf_any p l0 0 (by omega)]; rfl, hb⟩

def in_ (a lo hi : Int) : Bool := decide (lo ≤ a) && decide (a ≤ hi)
theorem in_f (a lo hi : Int) : diffs_in.f a lo hi = some (in_ a lo hi) := by
 unfold diffs_in.f in_
 by_cases h : a ≥ lo
 ·rw [if_pos h]; simp [h]
 ·rw [if_neg h]; simp [show ¬ lo ≤ a from h]

set_option maxHeartbeats 1000000 in
theorem lit118 (x : Int) (W : World) : Calls Try.prog 118 (#[.int .i64 x] ++ #[]) W fun e W' => e = .returned (.bool (!in_ x (-4096) 4096)) ∧ Below W.heap.size W W' := by
 have hin := Aside0.mk (in_f x (-4096) 4096)
 show Calls Try.prog 118 #[.int .i64 x] W _
 go_enter Try.func118, Try.ntmps118
 go_wp2_with ((with_reducible refine gate_callee (f := 75) rfl ?_); refine goesL_ (some 4) rfl rfl Try.func75 (by kernel_rfl) rfl #[.int .i64 x, .int .i64 (-4096), .int .i64 4096] rfl (by (try simp only [List.map_toArray, List.map_cons, List.map_nil]); first | done | rfl) ?_; (with_reducible refine (diffs_in.calls x (-4096) 4096 _ _ hin.out).mono ?_); rintro e w1 ⟨rfl, hd⟩; have hb := hd.below; clear hd; refine ⟨_, rfl, ?_⟩)
 go_ret
 exact ⟨rfl, hb⟩
def cf118.f (l : List Int) : Option Bool := some (l.any fun x => !in_ x (-4096) 4096)
theorem cf118.calls (A0 : Option Addr) (c0 : Nat) (l0 : List Int) (r : Bool) (w : World) (hr0 : Kd.C (Kd.int .i64) w A0 l0.length l0) (hc0 : l0.length ≤ c0) (h : cf118.f l0 = some r) :
  Calls Try.prog 57 #[.slice A0 l0.length c0, .func (.func 118) #[] #[]] w fun e w' => e = .returned (.bool r) ∧ Below w.heap.size w w' := by
 obtain rfl := Option.some.inj h
 exact contains_any _ 118 #[] Try.f118 A0 c0 l0 w hr0 hc0 ⟨Try.func118, by kernel_rfl, rfl⟩ ⟨fun x W _ => lit118 x W⟩

set_option maxHeartbeats 1000000 in
theorem lit122 (x : Int) (W : World) : Calls Try.prog 122 (#[.int .i64 x] ++ #[]) W fun e W' => e = .returned (.bool (!in_ x (-1099511627776) 1099511627776)) ∧ Below W.heap.size W W' := by
 have hin := Aside0.mk (in_f x (-1099511627776) 1099511627776)
 show Calls Try.prog 122 #[.int .i64 x] W _
 go_enter Try.func122, Try.ntmps122
 go_wp2_with ((with_reducible refine gate_callee (f := 75) rfl ?_); refine goesL_ (some 4) rfl rfl Try.func75 (by kernel_rfl) rfl #[.int .i64 x, .int .i64 (-1099511627776), .int .i64 1099511627776] rfl (by (try simp only [List.map_toArray, List.map_cons, List.map_nil]); first | done | rfl) ?_; (with_reducible refine (diffs_in.calls x (-1099511627776) 1099511627776 _ _ hin.out).mono ?_); rintro e w1 ⟨rfl, hd⟩; have hb := hd.below; clear hd; refine ⟨_, rfl, ?_⟩)
 go_ret
 exact ⟨rfl, hb⟩
def cf122.f (l : List Int) : Option Bool := some (l.any fun x => !in_ x (-1099511627776) 1099511627776)
theorem cf122.calls (A0 : Option Addr) (c0 : Nat) (l0 : List Int) (r : Bool) (w : World) (hr0 : Kd.C (Kd.int .i64) w A0 l0.length l0) (hc0 : l0.length ≤ c0) (h : cf122.f l0 = some r) :
  Calls Try.prog 57 #[.slice A0 l0.length c0, .func (.func 122) #[] #[]] w fun e w' => e = .returned (.bool r) ∧ Below w.heap.size w w' := by
 obtain rfl := Option.some.inj h
 exact contains_any _ 122 #[] Try.f122 A0 c0 l0 w hr0 hc0 ⟨Try.func122, by kernel_rfl, rfl⟩ ⟨fun x W _ => lit122 x W⟩

set_option maxHeartbeats 1000000 in
theorem lit97 (x : Int) (W : World) : Calls Try.prog 97 (#[.int .i64 x] ++ #[]) W fun e W' => e = .returned (.bool (!in_ x 0 1048576)) ∧ Below W.heap.size W W' := by
 have hin := Aside0.mk (in_f x 0 1048576)
 show Calls Try.prog 97 #[.int .i64 x] W _
 go_enter Try.func97, Try.ntmps97
 go_wp2_with ((with_reducible refine gate_callee (f := 75) rfl ?_); refine goesL_ (some 4) rfl rfl Try.func75 (by kernel_rfl) rfl #[.int .i64 x, .int .i64 0, .int .i64 1048576] rfl (by (try simp only [List.map_toArray, List.map_cons, List.map_nil]); first | done | rfl) ?_; (with_reducible refine (diffs_in.calls x 0 1048576 _ _ hin.out).mono ?_); rintro e w1 ⟨rfl, hd⟩; have hb := hd.below; clear hd; refine ⟨_, rfl, ?_⟩)
 go_ret
 exact ⟨rfl, hb⟩
def cf97.f (l : List Int) : Option Bool := some (l.any fun x => !in_ x 0 1048576)
theorem cf97.calls (A0 : Option Addr) (c0 : Nat) (l0 : List Int) (r : Bool) (w : World) (hr0 : Kd.C (Kd.int .i64) w A0 l0.length l0) (hc0 : l0.length ≤ c0) (h : cf97.f l0 = some r) :
  Calls Try.prog 57 #[.slice A0 l0.length c0, .func (.func 97) #[] #[]] w fun e w' => e = .returned (.bool r) ∧ Below w.heap.size w w' := by
 obtain rfl := Option.some.inj h
 exact contains_any _ 97 #[] Try.f97 A0 c0 l0 w hr0 hc0 ⟨Try.func97, by kernel_rfl, rfl⟩ ⟨fun x W _ => lit97 x W⟩

set_option maxHeartbeats 1000000 in
theorem lit100 (x : Int) (W : World) : Calls Try.prog 100 (#[.int .i64 x] ++ #[]) W fun e W' => e = .returned (.bool (x != 0)) ∧ Below W.heap.size W W' := by
 show Calls Try.prog 100 #[.int .i64 x] W _
 go_enter Try.func100, Try.ntmps100
 go_wp2
 go_ret
 exact ⟨by first | rfl | (simp; done), Below.refl _ _⟩
def cf100.f (l : List Int) : Option Bool := some (l.any fun x => x != 0)
theorem cf100.calls (A0 : Option Addr) (c0 : Nat) (l0 : List Int) (r : Bool) (w : World) (hr0 : Kd.C (Kd.int .i64) w A0 l0.length l0) (hc0 : l0.length ≤ c0) (h : cf100.f l0 = some r) :
  Calls Try.prog 57 #[.slice A0 l0.length c0, .func (.func 100) #[] #[]] w fun e w' => e = .returned (.bool r) ∧ Below w.heap.size w w' := by
 obtain rfl := Option.some.inj h
 exact contains_any _ 100 #[] Try.f100 A0 c0 l0 w hr0 hc0 ⟨Try.func100, by kernel_rfl, rfl⟩ ⟨fun x W _ => lit100 x W⟩
set_option maxHeartbeats 1000000 in
theorem lit58 (x : Int) (W : World) : Calls Try.prog 58 (#[.int .i64 x] ++ #[]) W fun e W' => e = .returned (.bool (decide (x < -1048576) || decide (1048576 < x))) ∧ Below W.heap.size W W' := by
 show Calls Try.prog 58 #[.int .i64 x] W _
 by_cases h1 : x < -1048576
 ·have h1b : decide (x < -1048576) = true := decide_eq_true h1
  go_enter Try.func58, Try.ntmps58
  go_wp2
  go_ret
  exact ⟨by first | rfl | (rw [h1b]; rfl), Below.refl _ _⟩
 ·have h1b : decide (x < -1048576) = false := decide_eq_false h1
  go_enter Try.func58, Try.ntmps58
  go_wp2
  go_ret
  exact ⟨by first | rfl | (rw [h1b, Bool.false_or]; rfl), Below.refl _ _⟩
def cf58.f (l : List Int) : Option Bool := some (l.any fun x => decide (x < -1048576) || decide (1048576 < x))
theorem cf58.calls (A0 : Option Addr) (c0 : Nat) (l0 : List Int) (r : Bool) (w : World) (hr0 : Kd.C (Kd.int .i64) w A0 l0.length l0) (hc0 : l0.length ≤ c0) (h : cf58.f l0 = some r) :
  Calls Try.prog 57 #[.slice A0 l0.length c0, .func (.func 58) #[] #[]] w fun e w' => e = .returned (.bool r) ∧ Below w.heap.size w w' := by
 obtain rfl := Option.some.inj h
 exact contains_any _ 58 #[] Try.f58 A0 c0 l0 w hr0 hc0 ⟨Try.func58, by kernel_rfl, rfl⟩ ⟨fun x W _ => lit58 x W⟩
end Go.Proofs.Ytpolojoeabmhdaa.A
