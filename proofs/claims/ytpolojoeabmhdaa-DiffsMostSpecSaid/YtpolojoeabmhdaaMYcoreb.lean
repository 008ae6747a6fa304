import Derived.Test.YtpolojoeabmhdaaMYcorea
import Derived.Test.YtpolojoeabmhdaaProg
import Derived.ArgAppend
import Derived.Below
import Derived.BigQuiet
import Derived.BigRegion
import Derived.Deep.AppendLies
import Derived.Deep.CutBlock
import Derived.Deep.DeepCutAuto
import Derived.Deep.Draws
import Derived.Deep.LoopGhost
import Derived.Deep.OwnRows
import Derived.Deep.QuietTactic
import Derived.Deep.RegionHeld3
import Derived.Deep.RegionLaw
import Derived.KernelRfl
import Derived.Laws.BitsLemmas
import Derived.Laws.BytesArg
import Derived.Laws.CopyOwn
import Derived.Laws.IdiomCopy
import Derived.Laws.MakeOwn
import Derived.Laws.OwnMore
import Derived.Laws.Rows
import Derived.Laws.Slices
import Derived.Lib.AppendStr
import Derived.Lib.ConvBytes
import Derived.Lib.SliceRun
import Derived.Maps.AppendAt
import Derived.OrdersHeld
import Derived.OwnWalk
import Derived.RowKit
import Derived.RowKit3
import Derived.ScopeJumps
import Derived.Tactics
import Derived.WalkKit
import Derived.WalkMore
import Derived.WalkSpells
import Derived.WideLaws
set_option linter.unusedVariables false
set_option linter.unusedSimpArgs false
set_option linter.defProp false
namespace Go.Proofs.Ytpolojoeabmhdaa.A
open Go.RowKit Go.Proofs.YtpolojoeabmhdaaW.PrintWords Go.Proofs.YtpolojoeabmhdaaW.PrintLast Go.Proofs.YtpolojoeabmhdaaW.PrintMore
attribute [local go_sem] max2_int min2_int max_two min_two max_three min_three max_four min_four
def errW : Option Int -> Value
 | none => .nilIface
 | some c => .iface 0 (.int .i64 c)
theorem Z_ {p : Prop} (h : p) : Aside0 p := ⟨h⟩
theorem sT_ {α : Type _} (l : List α) (i : Nat) (a : α) : l.toArray.setIfInBounds i a = (l.set i a).toArray := List.setIfInBounds_toArray l i a
theorem sZ_ {α : Type _} (x a : α) (l : List α) : (x :: l).set 0 a = a :: l := rfl
theorem sS_ {α : Type _} (x a : α) (l : List α) (n : Nat) : (x :: l).set (n + 1) a = x :: l.set n a := rfl
def mB_ (n b : Nat) : Array Bool := ((List.range n).map b.testBit).toArray
def bN_ := @blk_drewN
def bA_ := @blk_alloc
def rA_ := @Kd.R_alloc
def bD_ := @blk_drew
def bC_ := @blk_cell
def bF_ := @blk_frozen
def bB_ := @blk_below
def rN_ := @Kd.R_drewN
def rD_ := @Kd.R_drew
def rB_ := @Kd.R_below
def rF_ := @Kd.R_far
def rM_ := @Kd.R_mono
def rR_ := @Kd.R_reads'
def rL_ := @Kd.R_lower
def rS_ := @Kd.R_slice
def cB_ := @Kd.C_below
def oS_ := @Option.bind_eq_some_iff
def oB_ := @Option.bind_some
def oI_ := @Option.some.inj
def oJ_ := @Option.some.injEq
def dT_ := @of_decide_eq_true
def eT_ := @decide_eq_true
def eF_ := @decide_eq_false
def mT_ := @List.map_toArray
def mC_ := @List.map_cons
def mN_ := @List.map_nil
def lT_ := @List.length_take
def lD_ := @List.length_drop
def pB_ := @pw_below_drewN
def fS_ := @below_step
def fZ_ := @below_size
def fE_ := @below_set
def fD_ := @below_drew1
def fA_ := @below_alloc
def bE_ := @Bool.eq_false_iff
def xE_ := @Exists.elim
def nR_ := @Nat.le_refl
def pI_ := @Prod.mk.injEq
theorem errW_none : errW none = .nilIface := rfl
theorem errW_some (c : Int) : errW (some c) = .iface 0 (.int .i64 c) := rfl
theorem info3 : (Try.prog.info? 3).map (fun i => (i.zero, i.size, i.bytes)) = some (some (.int .i64 0), 1, 8) := by kernel_rfl
theorem info4 : (Try.prog.info? 4).map (fun i => (i.zero, i.size, i.bytes)) = some (some (.bool false), 1, 1) := by kernel_rfl
theorem info39 : (Try.prog.info? 39).map (fun i => (i.zero, i.size, i.bytes)) = some (some (.agg #[(.int .i64 0), (.int .i64 0), (.int .i64 0)]), 3, 24) := by kernel_rfl
structure S39 where
 f0 : Int
 f1 : Int
 f2 : Int
def z39 : S39 := ⟨(0 : Int), (0 : Int), (0 : Int)⟩
def k39 : Kd S39 := Kd.iso (Kd.pair (Kd.int .i64) (Kd.pair (Kd.int .i64) (Kd.int .i64))) (fun x : S39 => (x.f0, x.f1, x.f2))
theorem k39_open {w : World} {x : S39} {cs : List Value} (h : k39.K w x cs) : cs = [.int .i64 x.f0, .int .i64 x.f1, .int .i64 x.f2] := by
 obtain ⟨_, _, rfl, rfl, ⟨_, _, rfl, rfl, rfl⟩⟩ := h
 exact rfl
theorem k39_mk (w : World) (x : S39)  : k39.K w x [.int .i64 x.f0, .int .i64 x.f1, .int .i64 x.f2] := ⟨[.int .i64 x.f0], [.int .i64 x.f1, .int .i64 x.f2], rfl, rfl, ⟨[.int .i64 x.f1], [.int .i64 x.f2], rfl, rfl, rfl⟩⟩
theorem k39_mkM (w : World) (base : Nat) (ok : Nat -> Prop) (x : S39)  : k39.M w base ok x [.int .i64 x.f0, .int .i64 x.f1, .int .i64 x.f2] := ⟨[.int .i64 x.f0], [.int .i64 x.f1, .int .i64 x.f2], rfl, rfl, ⟨[.int .i64 x.f1], [.int .i64 x.f2], rfl, rfl, rfl⟩⟩
def rT39 (xs : List S39) (i : Int) : S39 := xs.getD i.toNat z39
theorem at_T39 {w : World} {A : Option Addr} {n : Nat} {xs : List S39} (h : Kd.C k39 w A n xs) (i : Int) (h0 : 0 <= i) (h1 : i < n) : ∃ ad , A = some ad /\ w.cell? (ad.add (i.toNat * 3)) = some (.int .i64 (rT39 xs i).f0) /\ w.cell? ⟨(ad.add (i.toNat * 3)).block, (ad.add (i.toNat * 3)).off + 1, none⟩ = some (.int .i64 (rT39 xs i).f1) /\ w.cell? ⟨(ad.add (i.toNat * 3)).block, (ad.add (i.toNat * 3)).off + 2, none⟩ = some (.int .i64 (rT39 xs i).f2) := by
 obtain ⟨ad, c, e, _, hK, hc0⟩ := Kd.C_get h z39 i h0 h1
 have hc : ∀ j u, c[j]? = some u -> w.cell? (ad.add (i.toNat * 3 + j)) = some u := hc0
 obtain rfl := k39_open hK
 exact ⟨ad, e, hc 0 _ rfl, by rw [<- add_field _ _ 1 (by omega)]; exact hc 1 _ rfl, by rw [<- add_field _ _ 2 (by omega)]; exact hc 2 _ rfl⟩
section
variable {P : Program} {ops : Array Oper} {Q : Exit -> Act -> World -> Prop} {md : Region.Mode} {S : World -> Prop} {ds : List Nat}
theorem pP_ (i N : Nat) {oi : Oper} {v : Value} {fuel : Nat} {l : Array Bool} {a a' : Act} {w : World} (h : wpAnyLast P md ops Q S ds fuel (l.setIfInBounds i true) a' w) (hi : ops[i]? = some oi := by exact rfl) (hN : oi.dst = some N := by exact rfl) (hc : anyB md ops l (l.setIfInBounds i true) i = true := by first | exact any_of HT_.out (by kernel_rfl) | kernel_rfl)
  (hQ : ∀ c a w, Q (.panic c) (a.put oi.dst v) w -> Q (.panic c) a w := by exact fun _ _ _ h => h) (hy : Yields P ops oi v a := by refine Or.inl ⟨by rfl, ?_⟩; intro w'; go_simp; with_reducible rfl) (ha : a.put (some N) v = a' := by simp only [Act.put, List.setIfInBounds_toArray, List.set_cons_zero, List.set_cons_succ, i64_w, i32_w]; rfl) :
  wpAnyLast P md ops Q S ds (fuel + 1) l a w := pure_ _ hi hN hc hQ hy ha h
theorem pU_ (i N : Nat) {oi : Oper} {fuel : Nat} {l : Array Bool} {a a' : Act} {w : World} (h : wpAnyLast P md ops Q S ds fuel (l.setIfInBounds i true) a' w) (hi : ops[i]? = some oi := by exact rfl) (hN : oi.dst = some N := by exact rfl) (hc : anyB md ops l (l.setIfInBounds i true) i = true := by first | exact any_of HT_.out (by kernel_rfl) | kernel_rfl)
  (hQ : ∀ c a w, Q (.panic c) (a.put oi.dst undef) w -> Q (.panic c) a w := by exact fun _ _ _ h => h) (hy : Yields P ops oi undef a := by exact Or.inr ⟨by rfl, rfl⟩) (ha : a.put (some N) undef = a' := by simp only [Act.put, List.setIfInBounds_toArray, List.set_cons_zero, List.set_cons_succ, i64_w, i32_w]; rfl) :
  wpAnyLast P md ops Q S ds (fuel + 1) l a w := pure_ _ hi hN hc hQ hy ha h
theorem pT_ (i N : Nat) {oi : Oper} {v : Value} {fuel : Nat} {l : Array Bool} {a a' : Act} {w : World} (h : wpAnyLast P md ops Q S ds fuel (l.setIfInBounds i true) a' w) (hi : ops[i]? = some oi := by exact rfl) (hN : oi.dst = some N := by exact rfl) (hc : takeB md ops ds l (l.setIfInBounds i true) i = true := by first | exact take_ofW HT_.out HW_.out (by kernel_rfl) | kernel_rfl)
  (hQ : ∀ c a w, Q (.panic c) (a.put oi.dst v) w -> Q (.panic c) a w := by exact fun _ _ _ h => h) (hy : YieldsIf P ops S oi v a := by refine Or.inl ⟨by rfl, ?_⟩; intro w' hS; (try dsimp only at hS); go_simp; with_reducible rfl) (hS : S w := by exact hHeld) (ha : a.put (some N) v = a' := by simp only [Act.put, List.setIfInBounds_toArray, List.set_cons_zero, List.set_cons_succ, i64_w, i32_w]; rfl) :
  wpAnyLast P md ops Q S ds (fuel + 1) l a w := take_ _ hi hN hc hQ hy hS ha h
theorem nP_ (N : Nat) {fuel : Nat} {l : Array Bool} {a a' : Act} {v : Value} {w : World} (h : wpAnyLast P md ops Q S ds fuel l a' w) (ha : a.put (some N) v = a' := by simp only [Act.put, List.setIfInBounds_toArray, List.set_cons_zero, List.set_cons_succ, i64_w, i32_w]; rfl) :
  wpAnyLast P md ops Q S ds fuel l (a.put (some N) v) w := norm_ ha h
theorem oN_ (i : Nat) (N : Option Tmp) {oi : Oper} {fuel : Nat} {l : Array Bool} {a : Act} {w : World}
  (h : ∀ K : Act -> World -> Prop, Shut (∀ a' w', S w' -> (S w' -> wpAnyLast P md ops Q S ds fuel (l.setIfInBounds i true) a' w') -> K a' w') -> if Region.wanted oi (yielded ops a.tmps) = true then Oper.wp P oi a w K Q else K (a.put N undef) w)
  (hi : ops[i]? = some oi := by exact rfl) (hN : oi.dst = N := by exact rfl) (hc : readyB md ops l (l.setIfInBounds i true) i = true := by first | exact one_of HT_.out (by kernel_rfl) | kernel_rfl) (hd : i ∉ ds := by decide) :
  wpAnyLast P md ops Q S ds (fuel + 1) l a w := one_ _ hi hN hc hd h
theorem lN_ (i : Nat) (N : Option Tmp) {oi : Oper} {fuel : Nat} {l : Array Bool} {a : Act} {w : World}
  (h : ∀ K : Act -> World -> Prop, Shut (∀ a' w', wpAnyLast P md ops Q S ds fuel (l.setIfInBounds i true) a' w' -> K a' w') -> if Region.wanted oi (yielded ops a.tmps) = true then Oper.wp P oi a w K Q else K (a.put N undef) w)
  (hi : ops[i]? = some oi := by exact rfl) (hN : oi.dst = N := by exact rfl) (hc : readyB md ops l (l.setIfInBounds i true) i = true := by first | exact one_of HT_.out (by kernel_rfl) | kernel_rfl) (hd : i ∈ ds := by decide) :
  wpAnyLast P md ops Q S ds (fuel + 1) l a w := last_ _ hi hN hc hd h
theorem dN_ {l : Array Bool} {a : Act} {w : World} {n : Nat} (h : Q .normal a w) (hr : (Region.ready md ops l == []) = true := by first | exact done_of HT_.out (by kernel_rfl) | kernel_rfl) : wpAnyLast P md ops Q S ds n l a w := done_ hr h
theorem gO_ {oi : Oper} {N : Option Tmp} {a : Act} {w : World} {K : Act -> World -> Prop} {f : FuncId} {fn : Func} {ar : Array Operand} {ts : Array TypeId} (hf : P.funcs[f]? = some fn) (args : Array Value)
  (h : Calls P f args w fun e w' => ∃ v, e = .returned v /\ K (a.put N v) w')
  (hname : (fn.name == "runtime.NumGoroutine") = false := by kernel_rfl) (hb : fn.body.isSome = true := by exact rfl)
  (hw : Region.wanted oi (yielded ops a.tmps) = true := by rfl) (hN : oi.dst = N := by exact rfl) (hop : oi.op = .call { callee := .value (.func f), args := ar, argTypes := ts } := by exact rfl) (hargs : ar.map a.eval = args := by (try simp only [List.map_toArray, List.map_cons, List.map_nil]); first | done | rfl | (simp only [List.length_drop, List.length_take]; rfl)) :
  if Region.wanted oi (yielded ops a.tmps) = true then Oper.wp P oi a w K Q else K (a.put N undef) w := goes_ hf hname hb args hw hN hop hargs h
theorem gL_ {rest : List Oper} {oi : Oper} {a : Act} {w : World} (N : Option Tmp) {f : FuncId} {fn : Func} {ar : Array Operand} {ts : Array TypeId} (hf : P.funcs[f]? = some fn) (args : Array Value)
  (h : Calls P f args w fun e w' => ∃ v, e = .returned v /\ wpList P ops Q rest (a.put N v) w')
  (hd : oi.dst = N := by exact rfl) (hg : oi.guard = none := by exact rfl) (hname : (fn.name == "runtime.NumGoroutine") = false := by kernel_rfl) (hb : fn.body.isSome = true := by exact rfl)
  (hop : oi.op = .call { callee := .value (.func f), args := ar, argTypes := ts } := by exact rfl) (hargs : ar.map a.eval = args := by (try simp only [List.map_toArray, List.map_cons, List.map_nil]); first | done | rfl | (simp only [List.length_drop, List.length_take]; rfl)) : wpList P ops Q (oi :: rest) a w := goesL_ N hd hg hf hname hb args hop hargs h
end
theorem hB_ {p : Prop} (h : p := by repeat (first | (with_reducible first | exact HB.out | apply below_alloc | apply pw_below_drewN | apply below_drew1 | refine below_set ?_ (Aside0.out (by assumption))) | exact HB.out)) : p := h
theorem bR_ {p q : Prop} (h : p) (f : p -> q := by intro h; (with_reducible repeat (first | refine blk_drewN ?_ _ | refine blk_drew ?_ | refine blk_alloc ?_ _)); exact h) : q := f h
theorem rK_ {p q : Prop} (h : p) (f : p -> q := by intro h; (with_reducible repeat (first | apply Kd.R_alloc | apply Kd.R_drewN | apply Kd.R_drew)); exact h) : q := f h
theorem cS_ {p q : Prop} (h : p) (f : p -> q := by intro h; repeat (first | exact h | (with_reducible refine Kd.C_alloc ?_ _) | (with_reducible refine Kd.C_drewN ?_ _) | (with_reducible refine Kd.C_drew ?_))) : q := f h
theorem rf_ {p : Prop} (h : p := by first | rfl | (simp; done) | (simp [*]; done)) : p := h
theorem eW_ {p : Prop} (h : p := by first | rfl | (simp [errW_none, errW_some] <;> rfl) | (simp [*, errW_none, errW_some] <;> rfl)) : p := h
theorem oL_ {p : Prop} (h : p := by first | omega | exact Nat.le_refl _) : p := h
theorem as_ {p : Prop} (h : p := by first | (with_reducible assumption) | assumption) : p := h
theorem be_ {α : Type} [BEq α] [LawfulBEq α] {a b : α} (h : a = b) : (a == b) = true /\ (a != b) = false := ⟨beq_iff_eq.mpr h, bne_eq_false_iff_eq.mpr h⟩
theorem bn_ {α : Type} [BEq α] [LawfulBEq α] {a b : α} (h : ¬ a = b) : (a == b) = false /\ (a != b) = true := ⟨beq_eq_false_iff_ne.mpr h, bne_iff_ne.mpr h⟩
theorem ck_ {W : World} {g : Nat} {t : TypeId} {cs : Array Value} (h : W.heap[g]? = some (.cells cs t (0, 0))) (i : Nat) {v : Value} (hv : cs[i]? = some v := by exact rfl) : W.cell? ⟨g, i, none⟩ = some v := (blk_cell h i).trans hv
theorem c1_ {W : World} {g : Nat} {t : TypeId} {x0 : Value} (h : W.heap[g]? = some (.cells #[x0] t (0, 0))) : W.cell? ⟨g, 0, none⟩ = some x0 := ck_ h 0
theorem f1_ {W : World} {g : Nat} {t : TypeId} {x0 : Value} (h : W.heap[g]? = some (.cells #[x0] t (0, 0))) : (W.cell? ⟨g, 0, none⟩ = some x0) /\ W.frozen? ⟨g, 0, none⟩ = false := ⟨c1_ h, blk_frozen h 0⟩
theorem c2_ {W : World} {g : Nat} {t : TypeId} {x0 x1 : Value} (h : W.heap[g]? = some (.cells #[x0, x1] t (0, 0))) : W.cell? ⟨g, 0, none⟩ = some x0 /\ W.cell? ⟨g, 1, none⟩ = some x1 := ⟨ck_ h 0, ck_ h 1⟩
theorem f2_ {W : World} {g : Nat} {t : TypeId} {x0 x1 : Value} (h : W.heap[g]? = some (.cells #[x0, x1] t (0, 0))) : (W.cell? ⟨g, 0, none⟩ = some x0 /\ W.cell? ⟨g, 1, none⟩ = some x1) /\ W.frozen? ⟨g, 0, none⟩ = false /\ W.frozen? ⟨g, 1, none⟩ = false := ⟨c2_ h, blk_frozen h 0, blk_frozen h 1⟩
theorem c3_ {W : World} {g : Nat} {t : TypeId} {x0 x1 x2 : Value} (h : W.heap[g]? = some (.cells #[x0, x1, x2] t (0, 0))) : W.cell? ⟨g, 0, none⟩ = some x0 /\ W.cell? ⟨g, 1, none⟩ = some x1 /\ W.cell? ⟨g, 2, none⟩ = some x2 := ⟨ck_ h 0, ck_ h 1, ck_ h 2⟩
theorem f3_ {W : World} {g : Nat} {t : TypeId} {x0 x1 x2 : Value} (h : W.heap[g]? = some (.cells #[x0, x1, x2] t (0, 0))) : (W.cell? ⟨g, 0, none⟩ = some x0 /\ W.cell? ⟨g, 1, none⟩ = some x1 /\ W.cell? ⟨g, 2, none⟩ = some x2) /\ W.frozen? ⟨g, 0, none⟩ = false /\ W.frozen? ⟨g, 1, none⟩ = false /\ W.frozen? ⟨g, 2, none⟩ = false := ⟨c3_ h, blk_frozen h 0, blk_frozen h 1, blk_frozen h 2⟩
theorem c4_ {W : World} {g : Nat} {t : TypeId} {x0 x1 x2 x3 : Value} (h : W.heap[g]? = some (.cells #[x0, x1, x2, x3] t (0, 0))) : W.cell? ⟨g, 0, none⟩ = some x0 /\ W.cell? ⟨g, 1, none⟩ = some x1 /\ W.cell? ⟨g, 2, none⟩ = some x2 /\ W.cell? ⟨g, 3, none⟩ = some x3 := ⟨ck_ h 0, ck_ h 1, ck_ h 2, ck_ h 3⟩
theorem f4_ {W : World} {g : Nat} {t : TypeId} {x0 x1 x2 x3 : Value} (h : W.heap[g]? = some (.cells #[x0, x1, x2, x3] t (0, 0))) : (W.cell? ⟨g, 0, none⟩ = some x0 /\ W.cell? ⟨g, 1, none⟩ = some x1 /\ W.cell? ⟨g, 2, none⟩ = some x2 /\ W.cell? ⟨g, 3, none⟩ = some x3) /\ W.frozen? ⟨g, 0, none⟩ = false /\ W.frozen? ⟨g, 1, none⟩ = false /\ W.frozen? ⟨g, 2, none⟩ = false /\ W.frozen? ⟨g, 3, none⟩ = false := ⟨c4_ h, blk_frozen h 0, blk_frozen h 1, blk_frozen h 2, blk_frozen h 3⟩
theorem c5_ {W : World} {g : Nat} {t : TypeId} {x0 x1 x2 x3 x4 : Value} (h : W.heap[g]? = some (.cells #[x0, x1, x2, x3, x4] t (0, 0))) : W.cell? ⟨g, 0, none⟩ = some x0 /\ W.cell? ⟨g, 1, none⟩ = some x1 /\ W.cell? ⟨g, 2, none⟩ = some x2 /\ W.cell? ⟨g, 3, none⟩ = some x3 /\ W.cell? ⟨g, 4, none⟩ = some x4 := ⟨ck_ h 0, ck_ h 1, ck_ h 2, ck_ h 3, ck_ h 4⟩
theorem f5_ {W : World} {g : Nat} {t : TypeId} {x0 x1 x2 x3 x4 : Value} (h : W.heap[g]? = some (.cells #[x0, x1, x2, x3, x4] t (0, 0))) : (W.cell? ⟨g, 0, none⟩ = some x0 /\ W.cell? ⟨g, 1, none⟩ = some x1 /\ W.cell? ⟨g, 2, none⟩ = some x2 /\ W.cell? ⟨g, 3, none⟩ = some x3 /\ W.cell? ⟨g, 4, none⟩ = some x4) /\ W.frozen? ⟨g, 0, none⟩ = false /\ W.frozen? ⟨g, 1, none⟩ = false /\ W.frozen? ⟨g, 2, none⟩ = false /\ W.frozen? ⟨g, 3, none⟩ = false /\ W.frozen? ⟨g, 4, none⟩ = false := ⟨c5_ h, blk_frozen h 0, blk_frozen h 1, blk_frozen h 2, blk_frozen h 3, blk_frozen h 4⟩
section
variable {P : Program} {ops : Array Oper} {rest : List Oper} {o : Oper} {a : Act} {Q : Exit -> Act -> World -> Prop}
theorem bX_ {W : World} (N : Tmp) (cs : Array Value) (t : TypeId) (h : ∀ g, g = W.heap.size -> ∀ w1, w1.heap[g]? = some (.cells cs t (0, 0)) -> Below W.heap.size W w1 -> wpList P ops Q rest (a.put o.dst (.pointer (some ⟨g, 0, none⟩))) w1) (hd : o.dst = some N := by exact rfl) (hgd : o.guard = none := by exact rfl)
  (hrun : (execOp a.eval o).run P W = .ok (.value (.pointer (some ⟨W.heap.size, 0, none⟩))) (W.alloc (.cells cs t (0, 0))) := by first | (go_simp; done) | (go_simp; rfl)) : wpList P ops Q (o :: rest) a W := box_event hgd hd hrun h
end
theorem nB_ {g k : Nat} {W W' : World} {o : Obj} (hk : k = W.heap.size) (h : W'.heap[g]? = some o) (f : W'.heap[g]? = some o -> W.heap[g]? = some o := by intro h; (with_reducible repeat (first | refine blk_drewN ?_ _ | refine blk_drew ?_ | refine blk_alloc ?_ _)); exact h) : g ≠ k := by
 rw [hk]; exact Nat.ne_of_lt (blk_lt (f h))
theorem bS_ {g : Nat} {W W' W2 : World} {o : Obj} (h : W.heap[g]? = some o) (hb : Below W'.heap.size W' W2) (f : W.heap[g]? = some o -> W'.heap[g]? = some o := by intro h; (with_reducible repeat (first | refine blk_drewN ?_ _ | refine blk_drew ?_ | refine blk_alloc ?_ _)); exact h) : W2.heap[g]? = some o := blk_below (f h) hb
theorem bQ_ {p q : Prop} (h : p) (f : p -> q := by intro h; repeat (first | exact h | (with_reducible first | refine blk_drewN ?_ _ | refine blk_drew ?_ | refine blk_alloc ?_ _) | refine blk_far ?_ (Aside0.out (by assumption)) _)) : q := f h
theorem nN_ {c : Prop} [Decidable c] {α : Type} {x : Option α} {r : α} {Q : Prop} (h : ¬ c) (H : (if c then x else none) = some r) : Q := by
 rw [if_neg h] at H; exact absurd H (by simp)
theorem oZ_ {α β : Type} {o : Option α} {f : α -> Option β} {b : β} (h : o.bind f = some b) : ∃ a, Aside0 (o = some a) /\ f a = some b := by
 obtain ⟨a, h1, h2⟩ := Option.bind_eq_some_iff.mp h; exact ⟨a, ⟨h1⟩, h2⟩
theorem bM_ {p q : Prop} (h : p) (f : p -> q := by intro h; (with_reducible repeat (first | refine bN_ ?_ _ | refine bD_ ?_)); exact h) : q := f h
end Go.Proofs.Ytpolojoeabmhdaa.A
/- slices.Clone at the three element types: the walks. -/
namespace Go.Proofs.Ytpolojoeabmhdaa.A
open Go.RowKit Go.Proofs.YtpolojoeabmhdaaW.PrintWords Go.Proofs.YtpolojoeabmhdaaW.PrintLast Go.Proofs.YtpolojoeabmhdaaW.PrintMore
/-- An empty row of the call's own. -/
theorem R_empty {α : Type} (d : Kd α) (e : Nat) (w : World) (base : Nat) (hb : base <= w.heap.size) (ok : Nat -> Prop) (hk : ok w.heap.size) : d.R e (w.alloc (.cells #[] e)) base ok (.slice (some ⟨w.heap.size, 0, none⟩) 0 0) [] :=
 ⟨fun k hk' => by simp only [Value.ownBlock, oJ_] at hk'; subst hk'; exact hk, [], World.ownsRow_made w #[] 0 hb (by unfold maxLen; omega) (by simp), Reps.none _ _⟩
theorem nil_of_none {α : Type} {d : Kd α} {w : World} {l : List α} (h : d.C w none l.length l) : l = [] := by
 have h2 := h.2.2
 cases l with
 | nil => rfl
 | cons x xs => obtain ⟨ad, h, _⟩ := h2 (by simp); cases h
def s_Clone_int_int.f (l0 : List Int) : Option (List Int) := if l0.length <= 65536 then some l0 else none
set_option maxHeartbeats 8000000
theorem s_Clone_int_int.calls (A0 : Option Addr) (c0 : Nat) (l0 : List Int) (r : List Int) (w : World) (hr0 : Kd.C (Kd.int .i64) w A0 l0.length l0) (hc0 : l0.length <= c0) (h : s_Clone_int_int.f l0 = some r) :
  Calls Try.prog 99 #[.slice A0 l0.length c0] w fun e w' => ∃ v0_ : Value, e = .returned (v0_) /\ Kd.R (Kd.int .i64) 3 w' w.heap.size (fun _ => True) v0_ r /\ Below w.heap.size w w' := by
 have HR0 := Z_ hr0; clear hr0; unfold s_Clone_int_int.f at h; by_cases hl : l0.length <= 65536
 .rw [if_pos hl] at h
  obtain rfl := oI_ h; have qT : ∀ (w : World) (a : Option Addr) (n c n' c' : Nat), (binOp .eql 29 (.slice a n c) (.slice none n' c')).run Try.prog w = .ok (.bool a.isNone) w := fun w a n c n' c' => Lib.run_eql_slice_nil w _ _ a n c n' c' Try.underlying29
  have HL := Z_ hl; clear hl h
  cases A0 with
  | none =>
   obtain rfl := nil_of_none HR0.out; have hz : (none : Option Addr).isNone = true := rfl; go_enter Try.func99, Try.ntmps99; go_wp2; go_ret; exact ⟨_, rfl, Kd.R_nil _ _ _ _ _, Below.refl _ _⟩
  | some ad =>
   have hz : (some ad : Option Addr).isNone = false := rfl; go_enter Try.func99, Try.ntmps99; go_wp2_with (at_builtin; refine Kd.R_append_row (Value.int .i64) (0 : Int) (h1 := fun _ => rfl) (w0 := w) w.heap.size rfl (.tmp 5) (.tmp 6) 29 3 (.int .i64 0) 8 rfl Try.underlying29 info3 rfl (by omega) (.slice (some ⟨w.heap.size, 0, none⟩) 0 0) [] l0 (some ad) l0.length c0 (fun _ => True) rfl rfl (fun _ _ => trivial) (R_empty (Kd.int .i64) 3 w _ (nR_ _) _ trivial) (Kd.C_alloc HR0.out _) (fA_ (Below.refl _ _) _) (by simp) (by have := HL.out; simp only [List.length_nil]; omega) ?_; intro v1 w1 ho hb hg hat); go_ret; rw [List.nil_append] at ho; exact ⟨_, rfl, ho, hb⟩
 rw [if_neg hl] at h; cases h
def s_Clone_bool_bool.f (l0 : List Bool) : Option (List Bool) := if l0.length <= 65536 then some l0 else none
theorem s_Clone_bool_bool.calls (A0 : Option Addr) (c0 : Nat) (l0 : List Bool) (r : List Bool) (w : World) (hr0 : Kd.C Kd.bool w A0 l0.length l0) (hc0 : l0.length <= c0) (h : s_Clone_bool_bool.f l0 = some r) :
  Calls Try.prog 114 #[.slice A0 l0.length c0] w fun e w' => ∃ v0_ : Value, e = .returned (v0_) /\ Kd.R Kd.bool 4 w' w.heap.size (fun _ => True) v0_ r /\ Below w.heap.size w w' := by
 have HR0 := Z_ hr0; clear hr0; unfold s_Clone_bool_bool.f at h; by_cases hl : l0.length <= 65536
 .rw [if_pos hl] at h
  obtain rfl := oI_ h; have qT : ∀ (w : World) (a : Option Addr) (n c n' c' : Nat), (binOp .eql 41 (.slice a n c) (.slice none n' c')).run Try.prog w = .ok (.bool a.isNone) w := fun w a n c n' c' => Lib.run_eql_slice_nil w _ _ a n c n' c' Try.underlying41
  have HL := Z_ hl; clear hl h
  cases A0 with
  | none =>
   obtain rfl := nil_of_none HR0.out; have hz : (none : Option Addr).isNone = true := rfl; go_enter Try.func114, Try.ntmps114; go_wp2; go_ret; exact ⟨_, rfl, Kd.R_nil _ _ _ _ _, Below.refl _ _⟩
  | some ad =>
   have hz : (some ad : Option Addr).isNone = false := rfl; go_enter Try.func114, Try.ntmps114; go_wp2_with (at_builtin; refine Kd.R_append_row Value.bool false (h1 := fun _ => rfl) (w0 := w) w.heap.size rfl (.tmp 5) (.tmp 6) 41 4 (.bool false) 1 rfl Try.underlying41 info4 rfl (by omega) (.slice (some ⟨w.heap.size, 0, none⟩) 0 0) [] l0 (some ad) l0.length c0 (fun _ => True) rfl rfl (fun _ _ => trivial) (R_empty Kd.bool 4 w _ (nR_ _) _ trivial) (Kd.C_alloc HR0.out _) (fA_ (Below.refl _ _) _) (by simp) (by have := HL.out; simp only [List.length_nil]; omega) ?_; intro v1 w1 ho hb hg hat); go_ret; rw [List.nil_append] at ho; exact ⟨_, rfl, ho, hb⟩
 rw [if_neg hl] at h; cases h
def y_62.f (l0 : List (S39)) : Option (List (S39)) := if l0.length <= 65536 then some l0 else none
theorem y_62.calls (A0 : Option Addr) (c0 : Nat) (l0 : List (S39)) (r : List (S39)) (w : World) (hr0 : Kd.C k39 w A0 l0.length l0) (hc0 : l0.length <= c0) (h : y_62.f l0 = some r) :
  Calls Try.prog 62 #[.slice A0 l0.length c0] w fun e w' => ∃ v0_ : Value, e = .returned (v0_) /\ Kd.R k39 39 w' w.heap.size (fun _ => True) v0_ r /\ Below w.heap.size w w' := by
 have HR0 := Z_ hr0; clear hr0; unfold y_62.f at h; by_cases hl : l0.length <= 65536
 .rw [if_pos hl] at h
  obtain rfl := oI_ h; have qT : ∀ (w : World) (a : Option Addr) (n c n' c' : Nat), (binOp .eql 22 (.slice a n c) (.slice none n' c')).run Try.prog w = .ok (.bool a.isNone) w := fun w a n c n' c' => Lib.run_eql_slice_nil w _ _ a n c n' c' Try.underlying22
  have HL := Z_ hl; clear hl h
  cases A0 with
  | none =>
   obtain rfl := nil_of_none HR0.out; have hz : (none : Option Addr).isNone = true := rfl; go_enter Try.func62, Try.ntmps62; go_wp2; go_ret; exact ⟨_, rfl, Kd.R_nil _ _ _ _ _, Below.refl _ _⟩
  | some ad =>
   have hz : (some ad : Option Addr).isNone = false := rfl; go_enter Try.func62, Try.ntmps62; go_wp2_with (at_builtin; refine Kd.R_append_rows k39 (Rr := k39.K (w.alloc (.cells #[] 39))) (okp := fun _ => False) (w0 := w) w.heap.size rfl (.tmp 5) (.tmp 6) 22 39 (.agg #[(.int .i64 0), (.int .i64 0), (.int .i64 0)]) 24 rfl Try.underlying22 info39 rfl (by decide) (by omega) (.slice (some ⟨w.heap.size, 0, none⟩) 0 0) [] l0 (some ad) l0.length c0 (fun _ => True) rfl rfl (R_empty k39 39 w _ (nR_ _) _ trivial) (Kd.C_alloc HR0.out _) (fun x cs h => by obtain rfl := k39_open h; exact k39_mkM _ _ _ _) (fun _ h => h.elim) (fun _ _ => trivial) (fA_ (Below.refl _ _) _) (by simp) (by have := HL.out; simp only [List.length_nil]; omega) ?_; intro v1 w1 ho hb hg hat); go_ret; rw [List.nil_append] at ho; exact ⟨_, rfl, ho, hb⟩
 rw [if_neg hl] at h; cases h
end Go.Proofs.Ytpolojoeabmhdaa.A
namespace Go.Proofs.Ytpolojoeabmhdaa.A
open Go.RowKit Go.Proofs.YtpolojoeabmhdaaW.PrintWords Go.Proofs.YtpolojoeabmhdaaW.PrintLast Go.Proofs.YtpolojoeabmhdaaW.PrintMore
attribute [local go_sem] max2_int min2_int max_two min_two max_three min_three max_four min_four
def d_tree_looped.l0 : Nat -> List (S39) -> Int -> Int -> Int -> List Int -> List Bool -> List Int -> Option (Int)
 | 0, _, _, _, _, _, _, _ => none
 | k + 1, x1, x2, x9, x10, ayo, ayn, Kp => if x10 < x9 then (if 0 <= x2 then (if x2 < (Kp.length : Int) then (if (rd Kp x2) < 0 then (some (-1)) else (if 0 <= (rd Kp x2) then (if (rd Kp x2) < (x1.length : Int) then (d_tree_looped.l0 k x1 ((rT39 x1 (rd Kp x2)).f0) x9 (wrap64 (x10 + 1)) ayo ayn Kp) else (none)) else (none))) else (none)) else (none)) else (some x2)
def d_tree_looped.f (k : Nat) (UO : List Int) (ac : List Bool) (ak : List Int) (l1 : List (S39)) (a2 : Int) : Option (Int) := d_tree_looped.l0 k l1 a2 (ak.length : Int) 0 UO ac ak
theorem d_tree_looped.mono_l : ∀ k, (∀ y0 y1 y2 y3 y4 y5 y6, LeO (d_tree_looped.l0 k y0 y1 y2 y3 y4 y5 y6) (d_tree_looped.l0 (k + 1) y0 y1 y2 y3 y4 y5 y6))
 | 0 => fun _ _ _ _ _ _ _ r h => by simp [d_tree_looped.l0] at h
 | k + 1 => by
  have ih0 := d_tree_looped.mono_l k; intro y0 y1 y2 y3 y4 y5 y6; unfold d_tree_looped.l0; repeat' first | (with_reducible first | exact ih0 _ _ _ _ _ _ _ | exact LeO.refl _ | exact LeO.none _ | refine LeO.ite ?_ ?_ | refine LeO.bind ?_ (fun _ => ?_))
theorem d_tree_looped.mono : ∀ a0 a1 a2 a3 a4 k, LeO (d_tree_looped.f k a0 a1 a2 a3 a4) (d_tree_looped.f (k + 1) a0 a1 a2 a3 a4) := by
 intro a0 a1 a2 a3 a4 k; have ih0 := d_tree_looped.mono_l k; unfold d_tree_looped.f; repeat' first | (with_reducible first | exact ih0 _ _ _ _ _ _ _ | exact LeO.refl _ | exact LeO.none _ | refine LeO.ite ?_ ?_ | refine LeO.bind ?_ (fun _ => ?_))
set_option maxHeartbeats 8000000
set_option maxRecDepth 100000
theorem d_tree_looped.calls (k : Nat) (aBj : Option Addr) (aA6 : Nat) (UO : List Int) (ag : Option Addr) (af : Nat) (ac : List Bool) (b5 : Option Addr) (bP : Nat) (ak : List Int) (A1 : Option Addr) (c1 : Nat) (l1 : List (S39)) (a2 : Int) (r : Int) (w : World) (aBI : Kd.C (Kd.int .i64) w aBj UO.length UO) (aCq : UO.length <= aA6) (aA : Kd.C Kd.bool w ag ac.length ac) (aC : ac.length <= af) (yi : Kd.C (Kd.int .i64) w b5 ak.length ak) (yj : ak.length <= bP) (hr1 : Kd.C k39 w A1 l1.length l1) (hc1 : l1.length <= c1) (h : d_tree_looped.f k UO ac ak l1 a2 = some r) :
  Calls Try.prog 113 #[.agg #[.slice aBj UO.length aA6, .slice ag ac.length af, .slice b5 ak.length bP], .slice A1 l1.length c1, .int .i64 a2] w fun e w' => e = .returned (.int .i64 r) /\ Below w.heap.size w w' := by
 have Vj := Try.underlying88; have bci := Z_ aBI; have bcl := Z_ aCq; clear aBI aCq; have ah := Z_ aA; have ai := Z_ aC; clear aA aC; have jf := Z_ yi; have yE := Z_ yj; clear yi yj; have HR1 := Z_ hr1; have HC1 := Z_ hc1; clear hr1 hc1; have HB := Z_ (Below.refl w.heap.size w); have H : (d_tree_looped.l0 k l1 a2 (ak.length : Int) 0 UO ac ak) = some r := h; clear h; have H' := Z_ H; clear H; go_enter Try.func113, Try.ntmps113; go_wp2_with (first | ((with_reducible refine gate_dst (N := 3) rfl ?_); refine bX_ 3 #[.slice aBj UO.length aA6, .slice ag ac.length af, .slice b5 ak.length bP] 88 ?_; intro au2 hg w4 hbox hb; have Y5 := Z_ (hbox); have bdH := Z_ ((by rw [hg]; exact (fZ_ hB_) : w.heap.size <= au2)); have beQ := Z_ ((by rw [hg]; exact (fZ_ hB_) : w.heap.size <= au2)); replace HB := Z_ (fS_ hB_ hb); clear hb hbox hg; obtain ⟨⟨qe, qd, Jv⟩, qc, qb, Ju⟩ := f3_ Y5.out)); go_loopg [2, 10] k (fun kq v2 v10 w' => ∃ (qz : Int) (i8 : Int), v2 = .int .i64 qz /\ v10 = .int .i64 i8 /\ Aside0 (d_tree_looped.l0 kq l1 qz (ak.length : Int) i8 UO ac ak = some r) /\ Aside0 (kq <= k) /\ Aside0 (w'.heap[au2]? = some (.cells #[(.slice aBj UO.length aA6), (.slice ag ac.length af), (.slice b5 ak.length bP)] 88 (0, 0))) /\ Aside0 (Below w.heap.size w w'))
 case atStart => exact ⟨(a2), (0), rf_, rf_, H', ⟨nR_ _⟩, ⟨bR_ Y5.out⟩, ⟨hB_⟩⟩
 case round =>
  clear H'; obtain ⟨qz, i8, rfl, rfl, HA, HK1, Y5, HB⟩ := hrel
  cases gk with
  | zero => exact absurd HA.out (by simp [d_tree_looped.l0])
  | succ k1 =>
   have H := HA.out; clear HA; simp only [d_tree_looped.l0] at H; by_cases c6 : i8 < (ak.length : Int)
   .rw [if_pos c6] at H
    replace c6 := eT_ c6; by_cases c7 : 0 <= qz
    .rw [if_pos c7] at H
     replace c7 := eT_ c7; by_cases c8 : qz < (ak.length : Int)
     .rw [if_pos c8] at H
      replace c8 := eT_ c8; by_cases c9 : (rd ak qz) < 0
      .rw [if_pos c9] at H
       replace c9 := eT_ c9; obtain rfl := oI_ H; obtain ⟨⟨gP, gO, pa⟩, gM, gK, o9⟩ := f3_ Y5.out; have aij : 0 <= (qz : Int) := dT_ as_; have ahV : qz < (ak.length : Int) := dT_ as_; obtain ⟨aDc, aJk, Nz⟩ := Kd.at_int jf.out qz aij ahV; cases aJk
       replace Nz := pw_cell_below HB.out Nz; replace aij := eq_true aij; replace ahV := eq_true ahV; go_wp2; go_ret; exact ⟨eW_, hB_⟩
      rw [if_neg c9] at H; replace c9 := eF_ c9; by_cases c11 : 0 <= (rd ak qz)
      .rw [if_pos c11] at H
       replace c11 := eT_ c11; by_cases c12 : (rd ak qz) < (l1.length : Int)
       .rw [if_pos c12] at H
        replace c12 := eT_ c12; have H' := Z_ H; clear H; obtain ⟨⟨vK, vJ, FA⟩, vI, vH, Ft⟩ := f3_ Y5.out; have aij : 0 <= (qz : Int) := dT_ as_; have ahV : qz < (ak.length : Int) := dT_ as_; obtain ⟨aDc, aJk, Nz⟩ := Kd.at_int jf.out qz aij ahV; cases aJk
        replace Nz := pw_cell_below HB.out Nz; replace aij := eq_true aij; replace ahV := eq_true ahV; have aHr : 0 <= (qz : Int) := dT_ as_; have aGm : qz < (ak.length : Int) := dT_ as_; obtain ⟨aV7, a8E, alx⟩ := Kd.at_int jf.out qz aHr aGm; obtain rfl : aDc = aV7 := (by injection a8E); replace alx := pw_cell_below HB.out alx; replace aHr := eq_true aHr; replace aGm := eq_true aGm; have aHq : 0 <= ((rd ak qz) : Int) := dT_ as_; have aGl : (rd ak qz) < (l1.length : Int) := dT_ as_; obtain ⟨bch, a8D, alw, alv, alu⟩ := at_T39 HR1.out (rd ak qz) aHq aGl; cases a8D
        replace alw := pw_cell_below HB.out alw; replace alv := pw_cell_below HB.out alv; replace alu := pw_cell_below HB.out alu; replace aHq := eq_true aHq; replace aGl := eq_true aGl; go_wp2; go_roundg k1
        case measure => have := HK1.out; omega
        case rel => exact ⟨((rT39 l1 (rd ak qz)).f0), (wrap64 (i8 + 1)), rf_, rf_, H', ⟨by have := HK1.out; omega⟩, ⟨bR_ Y5.out⟩, ⟨hB_⟩⟩
       exact nN_ c12 H
      exact nN_ c11 H
     exact nN_ c8 H
    exact nN_ c7 H
   rw [if_neg c6] at H; replace c6 := eF_ c6; obtain rfl := oI_ H; go_wp2; go_ret; exact ⟨eW_, hB_⟩
end Go.Proofs.Ytpolojoeabmhdaa.A
namespace Go.Proofs.Ytpolojoeabmhdaa.A
open Go.RowKit Go.Proofs.YtpolojoeabmhdaaW.PrintWords Go.Proofs.YtpolojoeabmhdaaW.PrintLast Go.Proofs.YtpolojoeabmhdaaW.PrintMore
section
variable {P : Program} {ops : Array Oper} {Q : Exit -> Act -> World -> Prop}
/-- A method's call on an interface value, in a plain region. -/
theorem goesIL_ {rest : List Oper} {oi : Oper} {a : Act} {w : World} (N : Option Tmp) (hd : oi.dst = N) (hg : oi.guard = none) {recv : Operand} {name : String} {ts : Array TypeId}
  (hop : oi.op = .call { callee := .invoke recv name, args := #[], argTypes := ts }) {T : TypeId} {v : Value} (hv : a.eval recv = .iface T v) {f : FuncId} {r : Value}
  (hm : (method (P.types.size + Made.depth) T v name).run P w = .ok (f, r) w) {fn : Func} (hf : P.funcs[f]? = some fn) (hname : (fn.name == "runtime.NumGoroutine") = false) (hb : fn.body.isSome = true)
  (h : Calls P f #[r] w fun e w' => ∃ v, e = .returned v /\ wpList P ops Q rest (a.put N v) w') : wpList P ops Q (oi :: rest) a w := by
 refine wpList_plain hg fun K hK => ?_
 have he := enters_ hf hname hb #[r] w
 have hrun : (execOp a.eval oi).run P w = .ok (.enter f #[r]) w := by
  unfold execOp; simp [hop, resolve, invoke, callMethod, hv, hm, he]
 unfold Oper.wp; rw [hrun, Oper.upon_enter]; refine h.mono fun e w'' hh => ?_
 obtain ⟨v, rfl, hk⟩ := hh; subst hd; exact hK _ _ hk
/-- The same in a region that draws its order. -/
theorem goesI_ {oi : Oper} {N : Option Tmp} {a : Act} {w : World} {K : Act -> World -> Prop} {recv : Operand} {name : String} {ts : Array TypeId} {T : TypeId} {v : Value} {f : FuncId} {r : Value} {fn : Func}
  (hf : P.funcs[f]? = some fn) (hname : (fn.name == "runtime.NumGoroutine") = false) (hb : fn.body.isSome = true)
  (hw : Region.wanted oi (yielded ops a.tmps) = true) (hN : oi.dst = N) (hop : oi.op = .call { callee := .invoke recv name, args := #[], argTypes := ts }) (hv : a.eval recv = .iface T v)
  (hm : (method (P.types.size + Made.depth) T v name).run P w = .ok (f, r) w)
  (h : Calls P f #[r] w fun e w' => ∃ v, e = .returned v /\ K (a.put N v) w') : if Region.wanted oi (yielded ops a.tmps) = true then Oper.wp P oi a w K Q else K (a.put N undef) w := by
 refine call_ f #[r] hw hN ?_ h; have he := enters_ hf hname hb #[r] w; unfold execOp; simp [hop, resolve, invoke, callMethod, hv, hm, he]
end
theorem least_ {p : Nat -> Prop} (h : ∃ n, p n) : ∃ n, p n /\ ∀ m, p m -> n <= m := by
 obtain ⟨n, hn⟩ := h
 induction n using Nat.strongRecOn with
 | _ n ih =>
  by_cases hm : ∃ m, m < n /\ p m
  .obtain ⟨m, hlt, hp⟩ := hm
   exact ih m hlt hp
  exact ⟨n, hn, fun m hp => Nat.le_of_not_lt fun hlt => hm ⟨m, hlt, hp⟩⟩
/-- A scope with one label, jumped back to: what holds at a jump, with a number that goes down. -/
theorem wp_scope_ghost {P : Program} {a : Act} {w : World} {Q : Exit -> Act -> World -> Prop} {c rest : Code} (l : Nat) (J : Nat -> Act -> World -> Prop) (hf : findLabel c l = some (Code.skip.seq rest))
  (pass : ∀ n a w, J n a w -> rest.wp P (Exit.jump l (fun a' w' => ∃ m, m < n /\ J m a' w') Q) a w)
  (first : (∀ n a w, J n a w -> rest.wp P (Exit.jump l (fun a' w' => ∃ m, J m a' w') Q) a w) -> c.wp P (Exit.jump l (fun a' w' => ∃ m, J m a' w') Q) a w) : (Code.scope c).wp P Q a w := by
 refine wp_scope_jumps l (fun a w => ∃ m, J m a w) (fun a w => @Classical.epsilon Nat ⟨0⟩ fun n => J n a w /\ ∀ m, J m a w -> n <= m) hf (first fun n a w h => ?_) ?_
 .refine wp_mono (pass n a w h) ?_
  intro e a' w' hq
  cases e with
  | goto l' => obtain ⟨h1, m, _, h2⟩ := hq; exact ⟨h1, m, h2⟩
  | _ => exact hq
 intro a w h; have e1 := @Classical.epsilon_spec Nat (fun n => J n a w /\ ∀ m, J m a w -> n <= m) (least_ h); refine wp_seq (wp_skip ?_); show rest.wp P _ a w
 refine wp_mono (pass _ a w e1.1) ?_; intro e a' w' hq
 cases e with
 | goto l' =>
  obtain ⟨h1, m, hm, h2⟩ := hq; have e2 := @Classical.epsilon_spec Nat (fun n => J n a' w' /\ ∀ m, J m a' w' -> n <= m) (least_ ⟨m, h2⟩); exact ⟨h1, ⟨m, h2⟩, Nat.lt_of_le_of_lt (e2.2 m h2) hm⟩
 | _ => exact hq
theorem m_plain_lines (v : Value) (w : World) : (method (Try.prog.types.size + Made.depth) 100 v "snowline/diffs.lines").run Try.prog w = .ok (150, v) w := by kernel_rfl
theorem m_plain_nodes (v : Value) (w : World) : (method (Try.prog.types.size + Made.depth) 100 v "snowline/diffs.nodes").run Try.prog w = .ok (151, v) w := by kernel_rfl
theorem m_use_lines (a : Addr) (w : World) : (method (Try.prog.types.size + Made.depth) 91 (.pointer (some a)) "snowline/diffs.lines").run Try.prog w = .ok (130, .pointer (some a)) w := by kernel_rfl
theorem m_use_nodes (a : Addr) (w : World) : (method (Try.prog.types.size + Made.depth) 91 (.pointer (some a)) "snowline/diffs.nodes").run Try.prog w = .ok (149, .pointer (some a)) w := by kernel_rfl
end Go.Proofs.Ytpolojoeabmhdaa.A
namespace Go.Proofs.Ytpolojoeabmhdaa.A
open Go.RowKit Go.Proofs.YtpolojoeabmhdaaW.PrintWords Go.Proofs.YtpolojoeabmhdaaW.PrintLast Go.Proofs.YtpolojoeabmhdaaW.PrintMore
attribute [local go_sem] max2_int min2_int max_two min_two max_three min_three max_four min_four
def bits_Mul64.f (a0 : Int) (a1 : Int) : Option (Int × Int) := some (IntKind.u64.wrap ((IntKind.u64.wrap ((IntKind.u64.wrap ((a0 / 4294967296) * (a1 / 4294967296))) + ((IntKind.u64.wrap ((IntKind.u64.wrap ((a0 / 4294967296) * (Go.bits .and .u64 a1 4294967295))) + ((IntKind.u64.wrap ((Go.bits .and .u64 a0 4294967295) * (Go.bits .and .u64 a1 4294967295))) / 4294967296))) / 4294967296))) + ((IntKind.u64.wrap ((Go.bits .and .u64 (IntKind.u64.wrap ((IntKind.u64.wrap ((a0 / 4294967296) * (Go.bits .and .u64 a1 4294967295))) + ((IntKind.u64.wrap ((Go.bits .and .u64 a0 4294967295) * (Go.bits .and .u64 a1 4294967295))) / 4294967296))) 4294967295) + (IntKind.u64.wrap ((Go.bits .and .u64 a0 4294967295) * (a1 / 4294967296))))) / 4294967296)), IntKind.u64.wrap (a0 * a1))
set_option maxHeartbeats 8000000
set_option maxRecDepth 100000
theorem bits_Mul64.calls (a0 : Int) (a1 : Int) (r1 : Int) (r2 : Int) (w : World) (h : bits_Mul64.f a0 a1 = some (r1, r2)) :
  Calls Try.prog 133 #[.int .u64 a0, .int .u64 a1] w fun e w' => e = .returned (.tuple #[.int .u64 r1, .int .u64 r2]) /\ Drawn0 w w' := by
 have H : (some (IntKind.u64.wrap ((IntKind.u64.wrap ((IntKind.u64.wrap ((a0 / 4294967296) * (a1 / 4294967296))) + ((IntKind.u64.wrap ((IntKind.u64.wrap ((a0 / 4294967296) * (Go.bits .and .u64 a1 4294967295))) + ((IntKind.u64.wrap ((Go.bits .and .u64 a0 4294967295) * (Go.bits .and .u64 a1 4294967295))) / 4294967296))) / 4294967296))) + ((IntKind.u64.wrap ((Go.bits .and .u64 (IntKind.u64.wrap ((IntKind.u64.wrap ((a0 / 4294967296) * (Go.bits .and .u64 a1 4294967295))) + ((IntKind.u64.wrap ((Go.bits .and .u64 a0 4294967295) * (Go.bits .and .u64 a1 4294967295))) / 4294967296))) 4294967295) + (IntKind.u64.wrap ((Go.bits .and .u64 a0 4294967295) * (a1 / 4294967296))))) / 4294967296)), IntKind.u64.wrap (a0 * a1))) = some (r1, r2) := h; clear h; simp only [oJ_, pI_] at H; obtain ⟨rfl, rfl⟩ := H; go_enter Try.func133, Try.ntmps133; go_wp2; go_ret2; exact ⟨rf_, by repeat (first | exact Drawn0.refl _ | apply Drawn0.step)⟩
def bits_Mul.f (a0 : Int) (a1 : Int) : Option (Int × Int) := (bits_Mul64.f a0 a1).bind fun agm => (some (agm.1, agm.2))
theorem bits_Mul.calls (a0 : Int) (a1 : Int) (r1 : Int) (r2 : Int) (w : World) (h : bits_Mul.f a0 a1 = some (r1, r2)) :
  Calls Try.prog 128 #[.int .u64 a0, .int .u64 a1] w fun e w' => e = .returned (.tuple #[.int .u64 r1, .int .u64 r2]) /\ Drawn0 w w' := by
 have H : ((bits_Mul64.f a0 a1).bind fun agm => (some (agm.1, agm.2))) = some (r1, r2) := h; clear h; replace H := oS_.mp H; obtain ⟨⟨a3n, a3m⟩, A30, H⟩ := H; have A3 := Z_ A30; clear A30; simp only [oJ_, pI_] at H; obtain ⟨rfl, rfl⟩ := H; go_enter Try.func128, Try.ntmps128; go_wp2_with (first | ((with_reducible refine gate_callee (f := 133) rfl ?_); refine gL_ (some 25) Try.func133 #[.int .u64 a0, .int .u64 a1] ?_; (with_reducible refine (bits_Mul64.calls a0 a1 a3n a3m _ A3.out).mono ?_); rintro e w' ⟨rfl, ⟨nd, rfl⟩⟩; refine ⟨_, rfl, ?_⟩)); go_ret2; exact ⟨rf_, by repeat (first | exact Drawn0.refl _ | apply Drawn0.step)⟩
end Go.Proofs.Ytpolojoeabmhdaa.A
/- slices.Repeat of one number. -/
namespace Go.Proofs.Ytpolojoeabmhdaa.A
open Go.RowKit Go.Proofs.YtpolojoeabmhdaaW.PrintWords Go.Proofs.YtpolojoeabmhdaaW.PrintLast Go.Proofs.YtpolojoeabmhdaaW.PrintMore
theorem u64_wrap (n : Int) (h0 : 0 <= n) (h1 : n < 18446744073709551616) : IntKind.u64.wrap n = n := by
 have e : IntKind.u64.bits = 64 := rfl; have s : IntKind.u64.signed = false := rfl; unfold IntKind.wrap; simp only [e, s, Bool.false_and]; show n % 2 ^ 64 = n
 omega
theorem mask32 (n : Int) (h0 : 0 <= n) (h1 : n < 4294967296) : Go.bits .and .u64 n 4294967295 = n := by
 obtain ⟨m, rfl⟩ := Int.eq_ofNat_of_zero_le h0; unfold Go.bits; have e : IntKind.u64.bits = 64 := rfl
 have h2 : (BitVec.ofInt IntKind.u64.bits (m : Int) &&& BitVec.ofInt IntKind.u64.bits 4294967295).toNat = m := by
  rw [BitVec.toNat_and, BitVec.toNat_ofInt, BitVec.toNat_ofInt, e]; have e1 : ((m : Int) % ((2 ^ 64 : Nat) : Int)).toNat = m := by omega
  have e2 : ((4294967295 : Int) % ((2 ^ 64 : Nat) : Int)).toNat = 2 ^ 32 - 1 := by decide
  rw [e1, e2, Nat.and_two_pow_sub_one_eq_mod]; omega
 simp only [h2]; exact u64_wrap _ h0 (by omega)
theorem bits_Mul_one (n : Int) (h0 : 0 <= n) (h1 : n <= 65536) : bits_Mul.f 1 n = some (0, n) := by
 unfold bits_Mul.f bits_Mul64.f; have e1 : (1 : Int) / 4294967296 = 0 := by decide
 have e2 : n / 4294967296 = 0 := by omega
 have e3 : (n % 4294967296) = n := by omega
 rw [e1, e2, mask32 1 (by decide) (by decide), mask32 n h0 (by omega)]; simp only [Int.zero_mul, Int.mul_zero, Int.one_mul, Int.zero_add, Int.add_zero]; rw [u64_wrap 0 (by decide) (by decide), u64_wrap n h0 (by omega)]; simp only [e2]; have z : Go.bits .and .u64 0 4294967295 = 0 := mask32 0 (by decide) (by decide); have e0 : (0 : Int) / 4294967296 = 0 := by decide
 simp [u64_wrap 0 (by decide) (by decide), z, e0]
theorem fill_step {v : Value} {n m : Nat} (cur : List Value) (h : ∀ j, j < n -> cur[j]? = some v) (hl : n + m <= cur.length) :
  (∀ j, j < n + m -> (splice cur n (List.replicate m v))[j]? = some v) /\ (splice cur n (List.replicate m v)).length = cur.length := by
 unfold splice; refine ⟨fun j hj => ?_, by simp; omega⟩; rcases Nat.lt_or_ge j n with h1 | h1
 .rw [List.getElem?_append_left (by simp; omega), List.getElem?_take_of_lt h1]
  exact h j h1
 rw [List.getElem?_append_right (by simp; omega), lT_, Nat.min_eq_left (by omega), List.getElem?_append_left (by simp; omega), List.getElem?_replicate, if_pos (by omega)]
def s_Repeat_int_int.f (l0 : List Int) (a1 : Int) : Option (List Int) :=
 match l0 with
 | [x] => if 0 <= a1 then (if a1 <= 65536 then some (List.replicate a1.toNat x) else none) else none
 | _ => none
set_option maxHeartbeats 8000000
set_option maxRecDepth 100000
theorem s_Repeat_int_int.calls (A0 : Option Addr) (c0 : Nat) (l0 : List Int) (a1 : Int) (r : List Int) (w : World) (hr0 : Kd.C (Kd.int .i64) w A0 l0.length l0) (hc0 : l0.length <= c0) (h : s_Repeat_int_int.f l0 a1 = some r) :
  Calls Try.prog 112 #[.slice A0 l0.length c0, .int .i64 a1] w fun e w' => ∃ v0_ : Value, e = .returned (v0_) /\ Kd.R (Kd.int .i64) 3 w' w.heap.size (fun _ => True) v0_ r /\ Below w.heap.size w w' := by
 match l0, hr0, hc0, h with
 | [], _, _, h => exact absurd h (by simp [s_Repeat_int_int.f])
 | _ :: _ :: _, _, _, h => exact absurd h (by simp [s_Repeat_int_int.f])
 | [x], hr0, hc0, h =>
  simp only [s_Repeat_int_int.f] at h; by_cases h0 : 0 <= a1
  .rw [if_pos h0] at h
   by_cases h1 : a1 <= 65536
   .rw [if_pos h1] at h
    obtain rfl := oI_ h; clear h; have HMul := Z_ (bits_Mul_one a1 h0 h1); have q0 : decide (a1 < 0) = false := eF_ (by omega); have q1 : decide (a1 > 9223372036854775807) = false := eF_ (by omega); have q2 : IntKind.u64.wrap a1 = a1 := u64_wrap a1 h0 (by omega); have q3 : IntKind.i64.wrap a1 = a1 := by rw [IntKind.wrap_i64]; omega
    have HR0 := Z_ hr0; obtain ⟨ad, e1, hx⟩ := Kd.at_int hr0 0 (by omega) (by simp); rw [show (0 : Int).toNat = 0 from rfl, Addr.add_zero'] at hx; have HX := Z_ (show w.cell? ad = some (.int .i64 x) from hx); cases e1
    have H0 := Z_ h0; have H1 := Z_ h1; clear hr0 hx; show Calls Try.prog 112 #[.slice (some ad) 1 c0, .int .i64 a1] w _
    by_cases hz : a1 = 0
    .have HZ := Z_ hz
     clear hz; go_enter Try.func112, Try.ntmps112; go_wp2_with (first | ((with_reducible refine gate_callee (f := 128) rfl ?_); refine gL_ (some 18) Try.func128 #[.int .u64 1, .int .u64 a1] ?_; (with_reducible refine (bits_Mul.calls 1 a1 0 a1 _ HMul.out).mono ?_); rintro e w' ⟨rfl, ⟨nd, rfl⟩⟩; refine ⟨_, rfl, ?_⟩) | ((with_reducible refine gate_dst (N := 30) rfl ?_); refine Kd.R_make (Kd.int .i64) (w0 := w) w.heap.size 3 rfl (N := 30) rfl 29 _ _ rfl a1 rfl rfl Try.underlying29 (.int .i64 0) 8 info3 rfl (by decide) (by omega) 0 (ok := fun _ => True) (okp := fun _ => True) rfl (fun _ hk => hk) trivial H0.out (by have := H1.out; omega) (pB_ (Below.refl _ _) _) (nR_ _) ?_; intro v1 w1 hown hb hg hat; rw [show List.replicate a1.toNat (0 : Int) = [] from by rw [HZ.out]; rfl] at hown; (obtain ⟨A1, c1, rfl⟩ := own_slice (Kd.own_of_R hown)); have HO := Z_ hown; have HB := Z_ hb; clear hown hb hg hat) | ((with_reducible refine gate_dst (N := 33) rfl ?_); refine Kd.R_copy (0 : Int) w.heap.size rfl (.tmp 31) (.tmp 32) 29 29 3 rfl Try.underlying29 (by rfl) _ _ [x] (some ad) 1 c0 (fun _ => True) rfl rfl HO.out (cB_ HR0.out HB.out) HB.out HB.out.size ?_; intro w2 ho2 hb2 hg2; clear HO HB; have HO := Z_ ho2; have HB := Z_ hb2; clear ho2 hb2 hg2; rw [show ((min 1 ([] : List Int).length : Nat) : Int) = 0 from rfl])); go_loopg [8] 0 (fun kq v8 w' => v8 = .int .i64 0 /\ Aside0 ((Kd.int .i64).R 3 w' w.heap.size (fun _ => True) (.slice A1 0 c1) ([] : List Int)) /\ Aside0 (Below w.heap.size w w'))
     case atStart => exact ⟨rfl, HO, HB⟩
     case round =>
      obtain ⟨rfl, HO, HB⟩ := hrel; go_wp2; go_ret; exact ⟨_, rfl, by rw [HZ.out]; exact HO.out, HB.out⟩
    have HZ := Z_ hz; clear hz; go_enter Try.func112, Try.ntmps112; go_wp2_with (first | ((with_reducible refine gate_callee (f := 128) rfl ?_); refine gL_ (some 18) Try.func128 #[.int .u64 1, .int .u64 a1] ?_; (with_reducible refine (bits_Mul.calls 1 a1 0 a1 _ HMul.out).mono ?_); rintro e w' ⟨rfl, ⟨nd, rfl⟩⟩; refine ⟨_, rfl, ?_⟩) | ((with_reducible refine gate_dst (N := 30) rfl ?_); refine Kd.R_make (Kd.int .i64) (w0 := w) w.heap.size 3 rfl (N := 30) rfl 29 _ _ rfl a1 rfl rfl Try.underlying29 (.int .i64 0) 8 info3 rfl (by decide) (by omega) 0 (ok := fun _ => True) (okp := fun _ => True) rfl (fun _ hk => hk) trivial H0.out (by have := H1.out; omega) (pB_ (Below.refl _ _) _) (nR_ _) ?_; intro v1 w1 hown hb hg hat; rcases (Kd.own_of_R hown).2 with ⟨_, hx0⟩ | ⟨g, cap, cur, hv, hbg, hh, hnc, hcm, hcs, htake⟩; (exact absurd hx0 (by rw [List.length_replicate]; have := HZ.out; have := H0.out; omega)); rw [List.length_replicate] at hv hnc htake; subst hv; (have HG := Z_ hbg); (have HH := Z_ (show w1.heap[g]? = some (.cells cur.toList.toArray 3 (0, 0)) from hh)); (have HN := Z_ (show cap <= maxLen /\ a1.toNat <= cap /\ cur.toList.length = cap from ⟨hcm, hnc, by rw [Array.length_toList, hcs, Nat.mul_one]⟩)); (have HB := Z_ hb); clear hown hb hg hat hbg hh hnc hcm hcs htake; (generalize cur.toList = cu at HH HN); clear cur) | ((with_reducible refine gate_dst (N := 33) rfl ?_); go_must (refine wpList_copy_splice rfl (.tmp 31) (.tmp 32) 29 29 rfl 3 Try.underlying29 (by rfl) _ _ a1.toNat cap 1 c0 rfl rfl g 0 cu 3 HH.out [.int .i64 x] (by have := HZ.out; have := H0.out; exact (Nat.min_eq_left (a := 1) (by omega)).symm) (fun _ => ⟨rfl, ad, rfl, fun j v hj => ?_⟩) ?_ ?_ w.heap.size w HB.out HG.out ?_); (match j, hj with | 0, hj => (rw [Addr.add_zero']; exact (HB.out.cell (World.block_lt_of_cell? w _ HX.out)).trans (HX.out.trans hj)) | _ + 1, hj => exact absurd hj (by simp)); (have := HN.out; have := HZ.out; have := H0.out; simp only [List.length_cons, List.length_nil]; omega); (intro v hv; rcases List.mem_singleton.1 hv with rfl; rfl); intro w2 hh2 hb2; clear HH HB; have HH := Z_ hh2.out; have HB := Z_ hb2; clear hh2 hb2; rw [show goInt ([Value.int .i64 x].length) = .int .i64 ((1 : Nat) : Int) from rfl])); have HF := Z_ (fill_step (v := Value.int .i64 x) (n := 0) (m := 1) cu (fun j hj => absurd hj (by omega)) (by have := HN.out; have := HZ.out; have := H0.out; omega)); go_loopg [8] a1.toNat (fun kq v8 w' => ∃ (n : Nat) (cur : List Value), v8 = .int .i64 (n : Int) /\ Aside0 (1 <= n /\ (kq + n = a1.toNat + 1 /\ n <= a1.toNat) /\ cur.length = cap /\ ∀ j, j < n -> cur[j]? = some (Value.int .i64 x)) /\ Aside0 (w'.heap[g]? = some (.cells cur.toArray 3 (0, 0))) /\ Aside0 (Below w.heap.size w w'))
    case atStart => exact ⟨1, _, rfl, ⟨by omega, ⟨by omega, by have := HZ.out; have := H0.out; omega⟩, HF.out.2.trans HN.out.2.2, HF.out.1⟩, HH, HB⟩
    case round =>
     obtain ⟨n, cu2, rfl, HI, HH, HB⟩ := hrel; by_cases hlt : n < a1.toNat
     .have hl2 : (n : Int) < ((a1.toNat : Nat) : Int) := by omega
      have hn1 := HN.out.1; have hn2 := HN.out.2.1; go_wp2; have f1 : (n : Int) <= max a1 0 := by omega
      have f2 : ¬ cap = n := by omega
      have f3 : (n : Int) <= (cap : Int) := by omega
      have f4 : n <= a1.toNat := by omega
      have f5 : n <= cap := by omega
      have hcl := HI.out.2.2.1; have hI4 := HI.out.2.2.2; obtain ⟨m, hm, hm1, hm2, hm3⟩ : ∃ m : Nat, m = Nat.min n (a1.toNat - n) /\ m <= n /\ m <= a1.toNat - n /\ 1 <= m := ⟨_, rfl, Nat.min_le_left _ _, Nat.min_le_right _ _, Nat.le_min.2 ⟨HI.out.1, by omega⟩⟩; have HS := Z_ (fill_step (v := Value.int .i64 x) (n := n) (m := m) cu2 hI4 (by omega)); have HH' := Z_ (bD_ HH.out); have HB' := Z_ (fD_ HB.out); have g1 := Z_ (show (List.replicate m (Value.int .i64 x)).length = Nat.min n (a1.toNat - n) by rw [List.length_replicate, hm])
      have g2 := Z_ (show ∀ (W : World), W.heap[g]? = some (.cells cu2.toArray 3 (0, 0)) -> ∀ j v, (List.replicate m (Value.int .i64 x))[j]? = some v -> W.cell? ((⟨g, 0, none⟩ : Addr).add j) = some v from fun W hW j v hj => by
       rw [List.getElem?_replicate] at hj; split at hj
       .rename_i hjm
        rw [add_plain, cell_of_row _ g j _ 3 (0, 0) hW]; have := hI4 j (Nat.lt_of_lt_of_le hjm hm1); rw [List.getElem?_toArray]; exact this.trans hj
       cases hj)
      have g3 := Z_ (show n + (List.replicate m (Value.int .i64 x)).length <= cu2.length by rw [List.length_replicate]; omega); have g4 := Z_ (show ∀ v ∈ List.replicate m (Value.int .i64 x), v.oneCell' = true from fun v hv => by rcases List.eq_of_mem_replicate hv with rfl; rfl); clear hI4 hm; have f6 : ∀ t : Nat, goInt t = .int .i64 (t : Int) := fun _ => rfl
      have f7 : IntKind.i64.wrap ((n : Int) + (m : Int)) = ((n + m : Nat) : Int) := by rw [IntKind.wrap_i64]; have := H1.out; omega
      go_region_law (refine step_copy_splice (by rfl) (.tmp 41) (.tmp 44) 29 29 (by rfl) 3 Try.underlying29 (by rfl) (some ⟨g, n, none⟩) (some ⟨g, 0, none⟩) (a1.toNat - n) (cap - n) n cap (by simp [Act.eval, Act.put, f2]) (by simp [Act.eval, Act.put, f2]) g n cu2 3 HH'.out (List.replicate m (.int .i64 x)) g1.out (fun _ => ⟨rfl, _, rfl, g2.out _ HH'.out⟩) g3.out g4.out w.heap.size w HB'.out HG.out ?_; intro w4 hh4 hb4; rw [List.length_replicate, f6]); go_wp2; have hk := HI.out.2.1; go_roundg (gk - m)
      case measure => omega
      case rel => exact ⟨n + m, _, (by rw [Int.natCast_add]), ⟨by omega, ⟨by omega, by omega⟩, HS.out.2.trans hcl, HS.out.1⟩, ⟨hh4.out⟩, ⟨hb4⟩⟩
     have hl2 : ¬ (n : Int) < ((a1.toNat : Nat) : Int) := by omega
     go_wp2; go_ret; have hn : n = a1.toNat := by have := HI.out.2.1; omega
     have hnc := HN.out.2.1; subst hn; have hcl := HI.out.2.2.1; have hmx := HN.out.1
     exact ⟨_, rfl, Kd.R_of_own ⟨by simp [encs], .inr ⟨g, cap, _, by rw [List.length_replicate]; rfl, HG.out, HH.out, by rw [List.length_replicate]; omega, hmx, by simp [hcl], by
      rw [List.length_replicate, Nat.mul_one]; apply List.ext_getElem?; intro j; rcases Nat.lt_or_ge j a1.toNat with hj | hj
      .rw [List.getElem?_take_of_lt hj]
       have := HI.out.2.2.2 j hj; simp [encs, this, hj]
      rw [List.getElem?_eq_none (by simp; omega), List.getElem?_eq_none (by simp [encs]; omega)]⟩⟩ (fun _ _ => trivial), HB.out⟩
   rw [if_neg h1] at h; cases h
  rw [if_neg h0] at h; cases h
end Go.Proofs.Ytpolojoeabmhdaa.A
