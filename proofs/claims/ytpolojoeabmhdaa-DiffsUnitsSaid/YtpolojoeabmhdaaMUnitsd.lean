import Derived.Test.YtpolojoeabmhdaaMUnitsc
import Derived.Test.YtpolojoeabmhdaaProg
import Derived.ArgAppend
import Derived.Below
import Derived.BigQuiet
import Derived.BigRegion
import Derived.ChangeOld
import Derived.ChangeSame
import Derived.ChangeSlices
import Derived.Deep.AppendLies
import Derived.Deep.CutBlock
import Derived.Deep.DeepCutAuto
import Derived.Deep.Draws
import Derived.Deep.Fields
import Derived.Deep.LoopGhost
import Derived.Deep.OwnRows
import Derived.Deep.QuietTactic
import Derived.Deep.RegionHeld3
import Derived.Deep.RegionLaw
import Derived.Deep.Slices
import Derived.KernelRfl
import Derived.Laws.BitsLemmas
import Derived.Laws.BytesArg
import Derived.Laws.CopyOwn
import Derived.Laws.IdiomCopy
import Derived.Laws.MakeOwn
import Derived.Laws.OwnMore
import Derived.Laws.Rows
import Derived.Laws.Slices
import Derived.Lib.AppendStr
import Derived.Lib.ConvBytes
import Derived.Lib.SmallJoins
import Derived.Maps.AppendAt
import Derived.OpenShut
import Derived.OrdersHeld
import Derived.OwnWalk
import Derived.ProofKit
import Derived.RowKit
import Derived.RowKit3
import Derived.ScopeJumps
import Derived.ShutString
import Derived.SizedLaws
import Derived.Tactics
import Derived.WalkKit
import Derived.WalkMore
import Derived.WalkSpells
import Derived.WideLaws
set_option linter.unusedVariables false
set_option linter.unusedSimpArgs false
set_option linter.defProp false
namespace Go.Proofs.Ytpolojoeabmhdaa.A
open Go.RowKit Go.Proofs.YtpolojoeabmhdaaW.PrintWords Go.Proofs.YtpolojoeabmhdaaW.PrintLast Go.Proofs.YtpolojoeabmhdaaW.PrintMore
attribute [local go_sem] max2_int min2_int max_two min_two max_three min_three max_four min_four
def errW : Option Int → Value
 | none => .nilIface
 | some c => .iface 0 (.int .i64 c)
theorem Z_ {p : Prop} (h : p) : Aside0 p := ⟨h⟩
theorem sT_ {α : Type _} (l : List α) (i : Nat) (a : α) : l.toArray.setIfInBounds i a = (l.set i a).toArray := List.setIfInBounds_toArray l i a
theorem sZ_ {α : Type _} (x a : α) (l : List α) : (x :: l).set 0 a = a :: l := rfl
theorem sS_ {α : Type _} (x a : α) (l : List α) (n : Nat) : (x :: l).set (n + 1) a = x :: l.set n a := rfl
def mB_ (n b : Nat) : Array Bool := ((List.range n).map b.testBit).toArray
def bN_ := @blk_drewN
def bA_ := @blk_alloc
def rA_ := @Kd.R_alloc
def bD_ := @blk_drew
def bC_ := @blk_cell
def bF_ := @blk_frozen
def bB_ := @blk_below
def rN_ := @Kd.R_drewN
def rD_ := @Kd.R_drew
def rB_ := @Kd.R_below
def rF_ := @Kd.R_far
def rM_ := @Kd.R_mono
def rR_ := @Kd.R_reads'
def rL_ := @Kd.R_lower
def rS_ := @Kd.R_slice
def cB_ := @Kd.C_below
def oS_ := @Option.bind_eq_some_iff
def oB_ := @Option.bind_some
def oI_ := @Option.some.inj
def oJ_ := @Option.some.injEq
def dT_ := @of_decide_eq_true
def eT_ := @decide_eq_true
def eF_ := @decide_eq_false
def mT_ := @List.map_toArray
def mC_ := @List.map_cons
def mN_ := @List.map_nil
def lT_ := @List.length_take
def lD_ := @List.length_drop
def pB_ := @pw_below_drewN
def fS_ := @below_step
def fZ_ := @below_size
def fE_ := @below_set
def fD_ := @below_drew1
def fA_ := @below_alloc
def bE_ := @Bool.eq_false_iff
def xE_ := @Exists.elim
def nR_ := @Nat.le_refl
def pI_ := @Prod.mk.injEq
theorem errW_none : errW none = .nilIface := rfl
theorem errW_some (c : Int) : errW (some c) = .iface 0 (.int .i64 c) := rfl
theorem info3 : (Try.prog.info? 3).map (fun i => (i.zero, i.size, i.bytes)) = some (some (.int .i64 0), 1, 8) := by kernel_rfl
theorem info4 : (Try.prog.info? 4).map (fun i => (i.zero, i.size, i.bytes)) = some (some (.bool false), 1, 1) := by kernel_rfl
theorem info39 : (Try.prog.info? 39).map (fun i => (i.zero, i.size, i.bytes)) = some (some (.agg #[(.int .i64 0), (.int .i64 0), (.int .i64 0)]), 3, 24) := by kernel_rfl
structure S39 where
 f0 : Int
 f1 : Int
 f2 : Int
def z39 : S39 := ⟨(0 : Int), (0 : Int), (0 : Int)⟩
def k39 : Kd S39 := Kd.iso (Kd.pair (Kd.int .i64) (Kd.pair (Kd.int .i64) (Kd.int .i64))) (fun x : S39 => (x.f0, x.f1, x.f2))
theorem k39_open {w : World} {x : S39} {cs : List Value} (h : k39.K w x cs) : cs = [.int .i64 x.f0, .int .i64 x.f1, .int .i64 x.f2] := by
 obtain ⟨_, _, rfl, rfl, ⟨_, _, rfl, rfl, rfl⟩⟩ := h
 exact rfl
theorem k39_openM {w : World} {base : Nat} {ok : Nat → Prop} {x : S39} {cs : List Value} (h : k39.M w base ok x cs) : cs = [.int .i64 x.f0, .int .i64 x.f1, .int .i64 x.f2] := by
 obtain ⟨_, _, rfl, rfl, ⟨_, _, rfl, rfl, rfl⟩⟩ := h
 exact rfl
theorem k39_mk (w : World) (x : S39)  : k39.K w x [.int .i64 x.f0, .int .i64 x.f1, .int .i64 x.f2] := ⟨[.int .i64 x.f0], [.int .i64 x.f1, .int .i64 x.f2], rfl, rfl, ⟨[.int .i64 x.f1], [.int .i64 x.f2], rfl, rfl, rfl⟩⟩
theorem k39_mkM (w : World) (base : Nat) (ok : Nat → Prop) (x : S39)  : k39.M w base ok x [.int .i64 x.f0, .int .i64 x.f1, .int .i64 x.f2] := ⟨[.int .i64 x.f0], [.int .i64 x.f1, .int .i64 x.f2], rfl, rfl, ⟨[.int .i64 x.f1], [.int .i64 x.f2], rfl, rfl, rfl⟩⟩
def rd_T39 (xs : List S39) (i : Int) : S39 := xs.getD i.toNat z39
theorem at_T39 {w : World} {A : Option Addr} {n : Nat} {xs : List S39} (h : Kd.C k39 w A n xs) (i : Int) (h0 : 0 ≤ i) (h1 : i < n) : ∃ ad , A = some ad ∧ w.cell? (ad.add (i.toNat * 3)) = some (.int .i64 (rd_T39 xs i).f0) ∧ w.cell? ⟨(ad.add (i.toNat * 3)).block, (ad.add (i.toNat * 3)).off + 1, none⟩ = some (.int .i64 (rd_T39 xs i).f1) ∧ w.cell? ⟨(ad.add (i.toNat * 3)).block, (ad.add (i.toNat * 3)).off + 2, none⟩ = some (.int .i64 (rd_T39 xs i).f2) := by
 obtain ⟨ad, c, e, _, hK, hc0⟩ := Kd.C_get h z39 i h0 h1
 have hc : ∀ j u, c[j]? = some u → w.cell? (ad.add (i.toNat * 3 + j)) = some u := hc0
 obtain rfl := k39_open hK
 exact ⟨ad, e, hc 0 _ rfl, by rw [← add_field _ _ 1 (by omega)]; exact hc 1 _ rfl, by rw [← add_field _ _ 2 (by omega)]; exact hc 2 _ rfl⟩
def rd_L2 (xs : List (List Int)) (i : Int) : (List Int) := xs.getD i.toNat ([] : List Int)
theorem at_L2 {w : World} {A : Option Addr} {n : Nat} {xs : List (List Int)} (h : Kd.C (Kd.slice 3 (Kd.int .i64)) w A n xs) (i : Int) (h0 : 0 ≤ i) (h1 : i < n) : ∃ ad A0 c0, A = some ad ∧ w.cell? (ad.add i.toNat) = some (.slice A0 (rd_L2 xs i).length c0) ∧ (rd_L2 xs i).length ≤ c0 ∧ (Kd.int .i64).C w A0 (rd_L2 xs i).length (rd_L2 xs i) := by
 obtain ⟨ad, c, e, _, hK, hc0⟩ := Kd.C_get h ([] : List Int) i h0 h1
 have hc : ∀ j u, c[j]? = some u → w.cell? (ad.add (i.toNat * 1 + j)) = some u := hc0
 obtain ⟨A0, c0, rfl, l0, g0⟩ := hK
 exact ⟨ad, A0, c0, e, by have hq := hc 0 _ rfl; rwa [Nat.mul_one, Nat.add_zero] at hq, l0, g0⟩
def rd_L4 (xs : List (List S39)) (i : Int) : (List S39) := xs.getD i.toNat ([] : List S39)
theorem at_L4 {w : World} {A : Option Addr} {n : Nat} {xs : List (List S39)} (h : Kd.C (Kd.slice 39 k39) w A n xs) (i : Int) (h0 : 0 ≤ i) (h1 : i < n) : ∃ ad A0 c0, A = some ad ∧ w.cell? (ad.add i.toNat) = some (.slice A0 (rd_L4 xs i).length c0) ∧ (rd_L4 xs i).length ≤ c0 ∧ k39.C w A0 (rd_L4 xs i).length (rd_L4 xs i) := by
 obtain ⟨ad, c, e, _, hK, hc0⟩ := Kd.C_get h ([] : List S39) i h0 h1
 have hc : ∀ j u, c[j]? = some u → w.cell? (ad.add (i.toNat * 1 + j)) = some u := hc0
 obtain ⟨A0, c0, rfl, l0, g0⟩ := hK
 exact ⟨ad, A0, c0, e, by have hq := hc 0 _ rfl; rwa [Nat.mul_one, Nat.add_zero] at hq, l0, g0⟩
structure S24 where
 f0 : Int
 f1 : (List S39)
def z24 : S24 := ⟨(0 : Int), ([] : List S39)⟩
def k24 : Kd S24 := Kd.iso (Kd.pair (Kd.int .i64) (Kd.slice 39 k39)) (fun x : S24 => (x.f0, x.f1))
theorem k24_open {w : World} {x : S24} {cs : List Value} (h : k24.K w x cs) : ∃ A1 c1, cs = [.int .i64 x.f0, .slice A1 x.f1.length c1] ∧ x.f1.length ≤ c1 ∧ k39.C w A1 x.f1.length x.f1 := by
 obtain ⟨_, _, rfl, rfl, ⟨A1, c1, rfl, l1, g1⟩⟩ := h
 exact ⟨A1, c1, rfl, l1, g1⟩
theorem k24_openM {w : World} {base : Nat} {ok : Nat → Prop} {x : S24} {cs : List Value} (h : k24.M w base ok x cs) : ∃ v1, cs = [.int .i64 x.f0, v1] ∧ k39.R 39 w base ok v1 x.f1 := by
 obtain ⟨_, _, rfl, rfl, ⟨v1, rfl, g1⟩⟩ := h
 exact ⟨v1, rfl, g1⟩
theorem k24_mk (w : World) (x : S24) {A1 : Option Addr} {c1 : Nat} (l1 : x.f1.length ≤ c1) (g1 : k39.C w A1 x.f1.length x.f1) : k24.K w x [.int .i64 x.f0, .slice A1 x.f1.length c1] := ⟨[.int .i64 x.f0], [.slice A1 x.f1.length c1], rfl, rfl, ⟨A1, c1, rfl, l1, g1⟩⟩
theorem k24_mkM (w : World) (base : Nat) (ok : Nat → Prop) (x : S24) {v1 : Value} (g1 : k39.R 39 w base ok v1 x.f1) : k24.M w base ok x [.int .i64 x.f0, v1] := ⟨[.int .i64 x.f0], [v1], rfl, rfl, ⟨v1, rfl, g1⟩⟩
def rd_T24 (xs : List S24) (i : Int) : S24 := xs.getD i.toNat z24
theorem at_T24 {w : World} {A : Option Addr} {n : Nat} {xs : List S24} (h : Kd.C k24 w A n xs) (i : Int) (h0 : 0 ≤ i) (h1 : i < n) : ∃ ad A1 c1, A = some ad ∧ w.cell? (ad.add (i.toNat * 2)) = some (.int .i64 (rd_T24 xs i).f0) ∧ w.cell? ⟨(ad.add (i.toNat * 2)).block, (ad.add (i.toNat * 2)).off + 1, none⟩ = some (.slice A1 (rd_T24 xs i).f1.length c1) ∧ (rd_T24 xs i).f1.length ≤ c1 ∧ k39.C w A1 (rd_T24 xs i).f1.length (rd_T24 xs i).f1 := by
 obtain ⟨ad, c, e, _, hK, hc0⟩ := Kd.C_get h z24 i h0 h1
 have hc : ∀ j u, c[j]? = some u → w.cell? (ad.add (i.toNat * 2 + j)) = some u := hc0
 obtain ⟨A1, c1, rfl, l1, g1⟩ := k24_open hK
 exact ⟨ad, A1, c1, e, hc 0 _ rfl, by rw [← add_field _ _ 1 (by omega)]; exact hc 1 _ rfl, l1, g1⟩
def rd_L6 (xs : List (List Bool)) (i : Int) : (List Bool) := xs.getD i.toNat ([] : List Bool)
theorem at_L6 {w : World} {A : Option Addr} {n : Nat} {xs : List (List Bool)} (h : Kd.C (Kd.slice 4 Kd.bool) w A n xs) (i : Int) (h0 : 0 ≤ i) (h1 : i < n) : ∃ ad A0 c0, A = some ad ∧ w.cell? (ad.add i.toNat) = some (.slice A0 (rd_L6 xs i).length c0) ∧ (rd_L6 xs i).length ≤ c0 ∧ Kd.bool.C w A0 (rd_L6 xs i).length (rd_L6 xs i) := by
 obtain ⟨ad, c, e, _, hK, hc0⟩ := Kd.C_get h ([] : List Bool) i h0 h1
 have hc : ∀ j u, c[j]? = some u → w.cell? (ad.add (i.toNat * 1 + j)) = some u := hc0
 obtain ⟨A0, c0, rfl, l0, g0⟩ := hK
 exact ⟨ad, A0, c0, e, by have hq := hc 0 _ rfl; rwa [Nat.mul_one, Nat.add_zero] at hq, l0, g0⟩
structure S88 where
 f0 : (List Int)
 f1 : (List Bool)
 f2 : (List Int)
def z88 : S88 := ⟨([] : List Int), ([] : List Bool), ([] : List Int)⟩
def k88 : Kd S88 := Kd.iso (Kd.pair (Kd.slice 3 (Kd.int .i64)) (Kd.pair (Kd.slice 4 Kd.bool) (Kd.slice 3 (Kd.int .i64)))) (fun x : S88 => (x.f0, x.f1, x.f2))
theorem k88_open {w : World} {x : S88} {cs : List Value} (h : k88.K w x cs) : ∃ A0 c0 A1 c1 A2 c2, cs = [.slice A0 x.f0.length c0, .slice A1 x.f1.length c1, .slice A2 x.f2.length c2] ∧ x.f0.length ≤ c0 ∧ (Kd.int .i64).C w A0 x.f0.length x.f0 ∧ x.f1.length ≤ c1 ∧ Kd.bool.C w A1 x.f1.length x.f1 ∧ x.f2.length ≤ c2 ∧ (Kd.int .i64).C w A2 x.f2.length x.f2 := by
 obtain ⟨_, _, rfl, ⟨A0, c0, rfl, l0, g0⟩, ⟨_, _, rfl, ⟨A1, c1, rfl, l1, g1⟩, ⟨A2, c2, rfl, l2, g2⟩⟩⟩ := h
 exact ⟨A0, c0, A1, c1, A2, c2, rfl, l0, g0, l1, g1, l2, g2⟩
theorem k88_openM {w : World} {base : Nat} {ok : Nat → Prop} {x : S88} {cs : List Value} (h : k88.M w base ok x cs) : ∃ v0 v1 v2, cs = [v0, v1, v2] ∧ (Kd.int .i64).R 3 w base ok v0 x.f0 ∧ Kd.bool.R 4 w base ok v1 x.f1 ∧ (Kd.int .i64).R 3 w base ok v2 x.f2 := by
 obtain ⟨_, _, rfl, ⟨v0, rfl, g0⟩, ⟨_, _, rfl, ⟨v1, rfl, g1⟩, ⟨v2, rfl, g2⟩⟩⟩ := h
 exact ⟨v0, v1, v2, rfl, g0, g1, g2⟩
theorem k88_mk (w : World) (x : S88) {A0 : Option Addr} {c0 : Nat} (l0 : x.f0.length ≤ c0) (g0 : (Kd.int .i64).C w A0 x.f0.length x.f0) {A1 : Option Addr} {c1 : Nat} (l1 : x.f1.length ≤ c1) (g1 : Kd.bool.C w A1 x.f1.length x.f1) {A2 : Option Addr} {c2 : Nat} (l2 : x.f2.length ≤ c2) (g2 : (Kd.int .i64).C w A2 x.f2.length x.f2) : k88.K w x [.slice A0 x.f0.length c0, .slice A1 x.f1.length c1, .slice A2 x.f2.length c2] := ⟨[.slice A0 x.f0.length c0], [.slice A1 x.f1.length c1, .slice A2 x.f2.length c2], rfl, ⟨A0, c0, rfl, l0, g0⟩, ⟨[.slice A1 x.f1.length c1], [.slice A2 x.f2.length c2], rfl, ⟨A1, c1, rfl, l1, g1⟩, ⟨A2, c2, rfl, l2, g2⟩⟩⟩
theorem k88_mkM (w : World) (base : Nat) (ok : Nat → Prop) (x : S88) {v0 : Value} (g0 : (Kd.int .i64).R 3 w base ok v0 x.f0) {v1 : Value} (g1 : Kd.bool.R 4 w base ok v1 x.f1) {v2 : Value} (g2 : (Kd.int .i64).R 3 w base ok v2 x.f2) : k88.M w base ok x [v0, v1, v2] := ⟨[v0], [v1, v2], rfl, ⟨v0, rfl, g0⟩, ⟨[v1], [v2], rfl, ⟨v1, rfl, g1⟩, ⟨v2, rfl, g2⟩⟩⟩
def rd_T88 (xs : List S88) (i : Int) : S88 := xs.getD i.toNat z88
theorem at_T88 {w : World} {A : Option Addr} {n : Nat} {xs : List S88} (h : Kd.C k88 w A n xs) (i : Int) (h0 : 0 ≤ i) (h1 : i < n) : ∃ ad A0 c0 A1 c1 A2 c2, A = some ad ∧ w.cell? (ad.add (i.toNat * 3)) = some (.slice A0 (rd_T88 xs i).f0.length c0) ∧ w.cell? ⟨(ad.add (i.toNat * 3)).block, (ad.add (i.toNat * 3)).off + 1, none⟩ = some (.slice A1 (rd_T88 xs i).f1.length c1) ∧ w.cell? ⟨(ad.add (i.toNat * 3)).block, (ad.add (i.toNat * 3)).off + 2, none⟩ = some (.slice A2 (rd_T88 xs i).f2.length c2) ∧ (rd_T88 xs i).f0.length ≤ c0 ∧ (Kd.int .i64).C w A0 (rd_T88 xs i).f0.length (rd_T88 xs i).f0 ∧ (rd_T88 xs i).f1.length ≤ c1 ∧ Kd.bool.C w A1 (rd_T88 xs i).f1.length (rd_T88 xs i).f1 ∧ (rd_T88 xs i).f2.length ≤ c2 ∧ (Kd.int .i64).C w A2 (rd_T88 xs i).f2.length (rd_T88 xs i).f2 := by
 obtain ⟨ad, c, e, _, hK, hc0⟩ := Kd.C_get h z88 i h0 h1
 have hc : ∀ j u, c[j]? = some u → w.cell? (ad.add (i.toNat * 3 + j)) = some u := hc0
 obtain ⟨A0, c0, A1, c1, A2, c2, rfl, l0, g0, l1, g1, l2, g2⟩ := k88_open hK
 exact ⟨ad, A0, c0, A1, c1, A2, c2, e, hc 0 _ rfl, by rw [← add_field _ _ 1 (by omega)]; exact hc 1 _ rfl, by rw [← add_field _ _ 2 (by omega)]; exact hc 2 _ rfl, l0, g0, l1, g1, l2, g2⟩
end Go.Proofs.Ytpolojoeabmhdaa.A
/- What comes in, opened: a net, a list of numbers. -/
namespace Go.Proofs.Ytpolojoeabmhdaa.A
open Go.ChangeShapes Go.WideShapes Go.ChangeAt Go.RowKit Go.Deep Go.Joins
open Go.Proofs.YtpolojoeabmhdaaW.PrintWords Go.Proofs.YtpolojoeabmhdaaW.PrintLast Go.Proofs.YtpolojoeabmhdaaW.PrintMore
set_option maxRecDepth 100000
section
variable {H : Type} {enc : TypeId × Value → H} {P : Program} {w : World} {base : Nat} {spare : Nat → Bool} {held : Bool}
theorem open_slice_fields {t e : TypeId} {fs : Array Field} {fuel : Nat} {cs : List Value} {x : DataW H × List MemPlace} (ht : P.underlying t = some (.slice e)) (he : P.underlying e = some (.struct fs))
    (hone : oneCellFields P fs = true) (hC : P.cellsOf e = fs.size) (h : DataW.trod enc P w base spare held fuel t cs = some x) :
    (cs = [.slice none 0 0]) ∨
    ∃ (a : Addr) (len cap : Nat), cs = [.slice (some a) len cap] ∧ len ≤ cap ∧ cap ≤ maxLen ∧ (∃ E S, x.1 = .slice E S ∧ E.length = len) ∧
      ∀ i, i < len → ∀ (j : Nat) (f : Field), fs[j]? = some f → ∃ (v : Value) (y : DataW H × List MemPlace) (n : Nat), w.cell? (a.add (i * fs.size + j)) = some v ∧ DataW.trod enc P w base spare held n f.type [v] = some y := by
  rcases open_slice ht h with h0 | ⟨a, len, cap, m, n, D, Pl, hcs, hb, hl, hm, hmm, hx, hi⟩
  · exact .inl h0.1
  refine .inr ⟨a, len, cap, hcs, hl, hm, ⟨_, _, by rw [hx], by simp⟩, fun i him j f hj => ?_⟩; obtain ⟨cs', hc, ht'⟩ := hi i (by rw [hmm]; split <;> omega); rw [hC] at hc; obtain ⟨ys, n', hn', hy, hlen, hyl, hf⟩ := DataW.trod_struct he ht'; obtain ⟨_, hcl, hat⟩ := World.cells?_some hc; obtain ⟨ho, hk⟩ := hone_of hone j f hj; have hjl : j < fs.size := (Array.getElem?_eq_some_iff.1 hj).1; have hcell := hat j hjl; have hv : cs'[j]? = some (cs'[j]'(by omega)) := List.getElem?_eq_getElem (by omega); have h1 := hf j f hj; rw [ho, hk] at h1
  have hone' : (cs'.drop j).take 1 = [cs'[j]'(by omega)] := by
    rw [List.drop_eq_getElem_cons (by omega)]; rfl
  rw [hone'] at h1; have hys : ys[j]? = some (ys[j]'(by omega)) := List.getElem?_eq_getElem (by omega); refine ⟨_, _, _, ?_, h1.trans hys⟩; rw [← Go.Deep.add_add, hcell, hv]
end
section
variable {H : Type} {enc : TypeId × Value → H} {W : World} {base : Nat} {spare : Nat → Bool} {held : Bool}
theorem open_diffs {fuel : Nat} {cs : List Value} {x : DataW H × List MemPlace} (h : DataW.trod enc Try.prog W base spare held fuel 22 cs = some x) : ∃ (A : Option Addr) (l : List S39) (c : Nat), cs = [.slice A l.length c] ∧ Kd.C k39 W A l.length l ∧ l.length ≤ c ∧ (l = [] ∨ ∃ E S, x.1 = .slice E S ∧ E.length = l.length) := by
  rcases open_slice_fields Try.underlying22 Try.underlying39 (by kernel_rfl) (by kernel_rfl) h with rfl | ⟨a, len, cap, rfl, hl, hm, hES, hf⟩
  · exact ⟨none, [], 0, rfl, Kd.C_nil _ _, nR_ _, .inl rfl⟩
  have key : ∀ i : Nat, ∃ d : S39, i < len → ∀ j u, ([.int .i64 d.f0, .int .i64 d.f1, .int .i64 d.f2] : List Value)[j]? = some u → W.cell? (a.add (i * 3 + j)) = some u := by
    intro i; by_cases hi : i < len
    · obtain ⟨v0, y0, n0, c0, t0⟩ := hf i hi 0 _ rfl
      obtain ⟨v1, y1, n1, c1, t1⟩ := hf i hi 1 _ rfl; obtain ⟨v2, y2, n2, c2, t2⟩ := hf i hi 2 _ rfl; obtain ⟨z0, e0, _, _⟩ := DataW.trod_int Try.underlying3 t0; obtain ⟨z1, e1, _, _⟩ := DataW.trod_int Try.underlying3 t1; obtain ⟨z2, e2, _, _⟩ := DataW.trod_int Try.underlying3 t2; simp only [List.cons.injEq, and_true] at e0 e1 e2; subst e0 e1 e2; refine ⟨⟨z0, z1, z2⟩, fun _ j u hu => ?_⟩
      match j, hu with
      | 0, hu => cases hu; exact c0
      | 1, hu => cases hu; exact c1
      | 2, hu => cases hu; exact c2
    exact ⟨z39, fun h => absurd h hi⟩
  obtain ⟨g, hg⟩ := Classical.axiomOfChoice key; refine ⟨some a, (List.range len).map g, cap, by simp, ⟨by simp, by simp only [List.length_map, List.length_range]; unfold maxLen at hm; omega, fun _ => ⟨a, rfl, fun j p hj => ?_⟩⟩, by simpa using hl, .inr (by simpa using hES)⟩; rw [List.getElem?_map] at hj; by_cases hjl : j < len
  · rw [List.getElem?_range hjl] at hj
    simp only [Option.map_some, oJ_] at hj; subst hj; exact ⟨_, rfl, k39_mk W _, fun i u hu => hg j hjl i u hu⟩
  rw [List.getElem?_eq_none (by simpa using hjl)] at hj; simp at hj
theorem open_net {r : Reach} {b0 : Nat} {v : Value} {d : DataW H} {p : List MemPlace} (hv : Value.okWide Try.prog W r b0 24 v) (h : DataW.Trod enc Try.prog W base spare held 24 v d p) :
    ∃ (n : Int) (A : Option Addr) (l : List S39) (c : Nat), v = .agg #[.int .i64 n, .slice A l.length c] ∧ Kd.C k39 W A l.length l ∧ l.length ≤ c ∧ (Lit.int .i64 n).wf = true ∧ (∀ (ts : List TypeId) (ds : List (DataW H)) (j : Nat), (DataW.weightsEach Try.prog ts ds).all (· ≤ reachBytes) = true → ts[j]? = some 24 → ds[j]? = some d → l.length * 24 ≤ 140737488351232) := by
  obtain ⟨v0, v1, y0, y1, m, rfl, rfl, _, t0, t1⟩ := open_agg2 Try.underlying24 (by kernel_rfl) (by kernel_rfl) hv h; obtain ⟨z0, e0, _, wz⟩ := DataW.trod_int Try.underlying3 t0; obtain ⟨A, l, c, e1, hC, hc, hES⟩ := open_diffs t1; simp only [List.cons.injEq, and_true] at e0 e1; subst e0 e1; refine ⟨z0, A, l, c, rfl, hC, hc, wz, fun ts ds j hsz ht hd => ?_⟩; rcases hES with rfl | ⟨E, S, e, hl⟩
  · simp
  have hb : Try.prog.bytesOf 39 = 24 := by kernel_rfl
  have hin : (E.length + S.length) * Try.prog.bytesOf 39 ∈ DataW.weights Try.prog 22 y1.1 := by
    rw [e]; simp [DataW.weights, Try.underlying22]
  have hin2 : (E.length + S.length) * Try.prog.bytesOf 39 ∈ DataW.weights Try.prog 24 (.agg [y0.1, y1.1]) := by
    unfold DataW.weights; rw [Try.underlying24]; exact DataW.weights_mem_each (j := 1) rfl rfl _ hin
  have := List.all_eq_true.1 hsz _ (DataW.weights_mem_each ht hd _ hin2); have := dT_ this; rw [hb] at this; unfold reachBytes at this; omega
theorem open_list {r : Reach} {b0 : Nat} {v : Value} {d : DataW H} {p : List MemPlace} (hv : Value.okWide Try.prog W r b0 29 v) (h : DataW.Trod enc Try.prog W base spare held 29 v d p) :
    ∃ (A : Option Addr) (l : List Int) (c : Nat), v = .slice A l.length c ∧ Kd.C (Kd.int .i64) W A l.length l ∧ l.length ≤ c ∧ ((∀ n ∈ l, (Lit.int .i64 n).wf = true) ∧ (∀ (ts : List TypeId) (ds : List (DataW H)) (j : Nat), (DataW.weightsEach Try.prog ts ds).all (· ≤ reachBytes) = true → ts[j]? = some 29 → ds[j]? = some d → l.length * 8 ≤ 140737488351232)) := by
  obtain ⟨A0, len0, cap0, rfl⟩ := okWide_slice Try.underlying29 hv; obtain ⟨m, hm⟩ := h; rcases open_ints (k := .i64) Try.underlying29 Try.underlying3 (by kernel_rfl) hm with ⟨e, _⟩ | ⟨a, len, cap, zs, e, _, hl, hmx, hz, hd, hc, hwf⟩
  · have e : [Value.slice A0 len0 cap0] = [.slice none 0 0] := e
    simp only [List.cons.injEq, and_true] at e; rw [e]; exact ⟨none, [], 0, rfl, Kd.C_nil _ _, nR_ _, fun n hn => by simp at hn, fun _ _ _ _ _ _ => by simp⟩
  have e : [Value.slice A0 len0 cap0] = [.slice (some a) len cap] := e; simp only [List.cons.injEq, and_true] at e; rw [e]; have hlen : len ≤ zs.length := by rw [hz]; split <;> omega
  have ht : (zs.take len).length = len := by rw [lT_]; omega
  refine ⟨some a, zs.take len, cap, by rw [ht], ⟨by simp, by rw [ht]; unfold maxLen at hmx; omega, fun _ => ⟨a, rfl, fun j x hj => ?_⟩⟩, by rw [ht]; omega, fun n hn => hwf n (List.mem_of_mem_take hn), fun ts ds j hsz ht' hd' => ?_⟩
  · have hjl : j < len := by have := (List.getElem?_eq_some_iff.1 hj).1; omega
    rw [List.getElem?_take, if_pos hjl] at hj; have h1 := hc j (by omega); rw [List.getD_eq_getElem?_getD, hj] at h1; rw [Option.getD_some] at h1; refine ⟨[.int .i64 x], rfl, rfl, fun i u hu => ?_⟩
    match i, hu with
    | 0, hu => cases hu; rw [show j * (Kd.int .i64).sz + 0 = j from Nat.mul_one j]; exact h1
  have hb : Try.prog.bytesOf 3 = 8 := by kernel_rfl
  have hd1 : d = .slice (lits .i64 (zs.take len)) (lits .i64 (zs.drop len)) := (Prod.mk.inj hd).1
  have hin : ((lits (H := H) .i64 (zs.take len)).length + (lits (H := H) .i64 (zs.drop len)).length) * Try.prog.bytesOf 3 ∈ DataW.weights Try.prog 29 d := by
    rw [hd1]; simp [DataW.weights, Try.underlying29]
  have := List.all_eq_true.1 hsz _ (DataW.weights_mem_each ht' hd' _ hin); have := dT_ this; rw [hb] at this; unfold reachBytes lits at this; simp only [List.length_map] at this; omega
end
end Go.Proofs.Ytpolojoeabmhdaa.A
/- Shortest walks in plain lists: passes over the differences, the way back, rounds of negative length. -/
namespace Go.Proofs.Ytpolojoeabmhdaa.A
open Go.RowKit Go.Proofs.YtpolojoeabmhdaaW.PrintWords Go.Proofs.YtpolojoeabmhdaaW.PrintLast Go.Proofs.YtpolojoeabmhdaaW.PrintMore
theorem rd_set (l : List Int) (i j x : Int) (h0 : 0 ≤ i) (h1 : i < l.length) (hj : 0 ≤ j) : rd (l.set i.toNat x) j = if j = i then x else rd l j := by
  unfold rd
  rw [List.getD_eq_getElem?_getD, List.getD_eq_getElem?_getD, List.getElem?_set]
  by_cases h : j = i
  · subst h; rw [if_pos rfl, if_pos rfl, if_pos (by omega)]; rfl
  · rw [if_neg h, if_neg (by omega)]
theorem rdOf_set {α : Type} (d : α) (l : List α) (i j : Int) (x : α) (h0 : 0 ≤ i) (h1 : i < l.length) (hj : 0 ≤ j) : rdOf d (l.set i.toNat x) j = if j = i then x else rdOf d l j := by
  unfold rdOf
  rw [List.getD_eq_getElem?_getD, List.getD_eq_getElem?_getD, List.getElem?_set]
  by_cases h : j = i
  · subst h; rw [if_pos rfl, if_pos rfl, if_pos (by omega)]; rfl
  · rw [if_neg h, if_neg (by omega)]
/-- Walks that are found so far. -/
structure Sg where
  lo : List Int
  ha : List Bool
  la : List Int
def Sg.better (s : Sg) (d : S39) : Bool := rdOf false s.ha d.f0 && (!rdOf false s.ha d.f1 || decide (rd s.lo d.f0 + d.f2 < rd s.lo d.f1))
def Sg.put (s : Sg) (d : S39) (k : Int) : Sg := ⟨s.lo.set d.f1.toNat (rd s.lo d.f0 + d.f2), s.ha.set d.f1.toNat true, s.la.set d.f1.toNat k⟩
/-- One pass over (the rest of) the differences. -/
def pass : List S39 → Int → Int → Sg → Int × Sg
  | [], _, c, s => (c, s)
  | d :: ds, k, c, s => if s.better d = true then pass ds (k + 1) d.f1 (s.put d k) else pass ds (k + 1) c s
structure EdgeOk (n : Int) (d : S39) : Prop where
  a : 0 ≤ d.f0
  b : d.f0 < n
  c : 0 ≤ d.f1
  g : d.f1 < n
  e : -1073741824 ≤ d.f2
  f : d.f2 ≤ 1073741824
def EdgesOk (n : Int) (L : List S39) : Prop := ∀ k : Int, 0 ≤ k → k < L.length → EdgeOk n (rd_T39 L k)
def hasN (s : Sg) (v : Int) : Prop := rdOf false s.ha v = true
/-- What holds before the difference k of the pass that began when b differences had been looked at. T: when a node was changed. -/
structure Bf (n : Int) (L : List S39) (src : Int → Prop) (b k : Int) (s : Sg) (T : Int → Int) : Prop where
  l1 : (s.lo.length : Int) = n
  l2 : (s.ha.length : Int) = n
  l3 : (s.la.length : Int) = n
  t0 : ∀ v, 0 ≤ v → v < n → 0 ≤ T v ∧ T v ≤ b + k
  z : ∀ v, 0 ≤ v → v < n → T v = 0 → rd s.la v = -1 ∧ rd s.lo v = 0 ∧ (hasN s v ↔ src v)
  p : ∀ v, 0 ≤ v → v < n → 0 < T v → 0 ≤ rd s.la v ∧ rd s.la v < L.length ∧ hasN s v ∧ (rd_T39 L (rd s.la v)).f1 = v ∧ hasN s (rd_T39 L (rd s.la v)).f0 ∧ rd s.lo v ≥ rd s.lo (rd_T39 L (rd s.la v)).f0 + (rd_T39 L (rd s.la v)).f2 ∧ (T (rd_T39 L (rd s.la v)).f0 ≥ T v → rd s.lo v > rd s.lo (rd_T39 L (rd s.la v)).f0 + (rd_T39 L (rd s.la v)).f2) ∧ T (rd_T39 L (rd s.la v)).f0 ≥ T v - L.length
  j : ∀ i : Int, 0 ≤ i → i < L.length → hasN s (rd_T39 L i).f0 → T (rd_T39 L i).f0 < (if i < k then b + i + 1 else b - L.length + i + 1) → hasN s (rd_T39 L i).f1 ∧ rd s.lo (rd_T39 L i).f1 ≤ rd s.lo (rd_T39 L i).f0 + (rd_T39 L i).f2
  w : ∀ v, 0 ≤ v → v < n → -(b + k) * 1073741824 ≤ rd s.lo v ∧ rd s.lo v ≤ (b + k) * 1073741824
theorem better_iff (s : Sg) (d : S39) : s.better d = true ↔ hasN s d.f0 ∧ (¬ hasN s d.f1 ∨ rd s.lo d.f0 + d.f2 < rd s.lo d.f1) := by
  unfold Sg.better hasN
  simp [Bool.and_eq_true, Bool.or_eq_true]
section
variable {n : Int} {L : List S39} {src : Int → Prop} {b k : Int} {s : Sg} {T : Int → Int}
theorem Bf.skip (h : Bf n L src b k s T) (hE : EdgesOk n L) (hk0 : 0 ≤ k) (hk : k < L.length) (hb : 0 ≤ b) (hn : ¬ s.better (rd_T39 L k) = true) : Bf n L src b (k + 1) s T := by
  refine ⟨h.l1, h.l2, h.l3, fun v a c => ⟨(h.t0 v a c).1, by have := (h.t0 v a c).2; omega⟩, h.z, h.p, fun i a c e f => ?_, fun v a c => ?_⟩
  · by_cases hi : i = k
    · subst hi
      rw [better_iff] at hn
      by_cases h1 : hasN s (rd_T39 L i).f1
      · exact ⟨h1, by
          have : ¬ (rd s.lo (rd_T39 L i).f0 + (rd_T39 L i).f2 < rd s.lo (rd_T39 L i).f1) := fun h2 => hn ⟨e, Or.inr h2⟩
          omega⟩
      · exact absurd ⟨e, Or.inl h1⟩ hn
    · refine h.j i a c e ?_
      by_cases h2 : i < k
      · rw [if_pos h2]; rw [if_pos (by omega)] at f; exact f
      · rw [if_neg h2]; rw [if_neg (by omega)] at f; exact f
  · have := h.w v a c
    omega
theorem hasN_put {s : Sg} {d : S39} {k v : Int} {n : Int} (hl : (s.ha.length : Int) = n) (hd : EdgeOk n d) (hv : 0 ≤ v) : hasN (s.put d k) v ↔ v = d.f1 ∨ hasN s v := by
  unfold hasN Sg.put
  rw [rdOf_set _ _ _ _ _ hd.c (by have := hd.g; omega) hv]
  by_cases h : v = d.f1
  · simp [h]
  · simp [h]
theorem lo_put {s : Sg} {d : S39} {k v : Int} {n : Int} (hl : (s.lo.length : Int) = n) (hd : EdgeOk n d) (hv : 0 ≤ v) : rd (s.put d k).lo v = if v = d.f1 then rd s.lo d.f0 + d.f2 else rd s.lo v :=
  rd_set _ _ _ _ hd.c (by have := hd.g; omega) hv
theorem la_put {s : Sg} {d : S39} {k v : Int} {n : Int} (hl : (s.la.length : Int) = n) (hd : EdgeOk n d) (hv : 0 ≤ v) : rd (s.put d k).la v = if v = d.f1 then k else rd s.la v :=
  rd_set _ _ _ _ hd.c (by have := hd.g; omega) hv
def Tput (T : Int → Int) (v t : Int) : Int → Int := fun x => if x = v then t else T x
theorem Bf.step (h : Bf n L src b k s T) (hE : EdgesOk n L) (hk0 : 0 ≤ k) (hk : k < L.length) (hb : 0 ≤ b) (hy : s.better (rd_T39 L k) = true) : Bf n L src b (k + 1) (s.put (rd_T39 L k) k) (Tput T (rd_T39 L k).f1 (b + k + 1)) := by
  have hd := hE k hk0 hk
  rw [better_iff] at hy
  obtain ⟨hu, hv⟩ := hy
  generalize hdd : rd_T39 L k = d at *
  have tu := h.t0 d.f0 hd.a hd.b
  have tv := h.t0 d.f1 hd.c hd.g
  have hself : d.f0 = d.f1 → d.f2 < 0 := fun e => by
    rcases hv with hv | hv
    · rw [← e] at hv; exact absurd hu hv
    · rw [e] at hv; omega
  have hlow : hasN s d.f1 → rd s.lo d.f0 + d.f2 < rd s.lo d.f1 := fun e => by
    rcases hv with hv | hv
    · exact absurd e hv
    · exact hv
  have hdrop : T d.f0 ≥ b + k + 1 - L.length := by
    by_cases hc : T d.f0 < b - L.length + k + 1
    · have := h.j k hk0 hk (by rw [hdd]; exact hu) (by rw [hdd, if_neg (by omega)]; exact hc)
      rw [hdd] at this
      rcases hv with hv | hv
      · exact absurd this.1 hv
      · omega
    · omega
  refine ⟨?_, ?_, ?_, ?_, ?_, ?_, ?_, ?_⟩
  · simpa [Sg.put] using h.l1
  · simpa [Sg.put] using h.l2
  · simpa [Sg.put] using h.l3
  · intro v a c
    have := h.t0 v a c
    unfold Tput
    by_cases e : v = d.f1
    · rw [if_pos e]; omega
    · rw [if_neg e]; omega
  · intro v a c ht
    unfold Tput at ht
    by_cases e : v = d.f1
    · rw [if_pos e] at ht; omega
    · rw [if_neg e] at ht
      have := h.z v a c ht
      rw [la_put h.l3 hd a, lo_put h.l1 hd a, if_neg e, if_neg e, hasN_put h.l2 hd a]
      exact ⟨this.1, this.2.1, ⟨fun q => this.2.2.1 (q.resolve_left e), fun q => Or.inr (this.2.2.2 q)⟩⟩
  · intro v a c ht
    rw [la_put h.l3 hd a, lo_put h.l1 hd a, hasN_put h.l2 hd a]
    by_cases e : v = d.f1
    · rw [if_pos e, if_pos e, hdd]
      refine ⟨hk0, hk, Or.inl e, e.symm, ?_, ?_, ?_, ?_⟩
      · rw [hasN_put h.l2 hd hd.a]; exact Or.inr hu
      · rw [lo_put h.l1 hd hd.a]
        by_cases e2 : d.f0 = d.f1
        · rw [if_pos e2]; have := hself e2; omega
        · rw [if_neg e2]; omega
      · rw [lo_put h.l1 hd hd.a]
        unfold Tput
        rw [if_pos e]
        by_cases e2 : d.f0 = d.f1
        · rw [if_pos e2, if_pos e2]; have := hself e2; omega
        · rw [if_neg e2, if_neg e2]; omega
      · unfold Tput
        rw [if_pos e]
        by_cases e2 : d.f0 = d.f1
        · rw [if_pos e2]; omega
        · rw [if_neg e2]; omega
    · unfold Tput at ht
      rw [if_neg e] at ht
      obtain ⟨q1, q2, q3, q4, q5, q6, q7, q8⟩ := h.p v a c ht
      have hd' := hE _ q1 q2
      rw [if_neg e, if_neg e]
      refine ⟨q1, q2, Or.inr q3, q4, ?_, ?_, ?_, ?_⟩
      · rw [hasN_put h.l2 hd hd'.a]; exact Or.inr q5
      · rw [lo_put h.l1 hd hd'.a]
        by_cases e2 : (rd_T39 L (rd s.la v)).f0 = d.f1
        · rw [if_pos e2]; rw [e2] at q5 q6; have := hlow q5; omega
        · rw [if_neg e2]; exact q6
      · rw [lo_put h.l1 hd hd'.a]
        unfold Tput
        rw [if_neg e]
        by_cases e2 : (rd_T39 L (rd s.la v)).f0 = d.f1
        · rw [if_pos e2]; rw [e2] at q5 q6; have := hlow q5; omega
        · rw [if_neg e2, if_neg e2]; exact q7
      · unfold Tput
        rw [if_neg e]
        have tv' := h.t0 v a c
        by_cases e2 : (rd_T39 L (rd s.la v)).f0 = d.f1
        · rw [if_pos e2]; omega
        · rw [if_neg e2]; exact q8
  · intro i a c e f
    have hd' := hE i a c
    rw [hasN_put h.l2 hd hd'.a] at e
    rw [hasN_put h.l2 hd hd'.c, lo_put h.l1 hd hd'.a, lo_put h.l1 hd hd'.c]
    unfold Tput at f
    by_cases e2 : (rd_T39 L i).f0 = d.f1
    · rw [if_pos e2] at f
      exfalso
      by_cases hi : i < k + 1
      · rw [if_pos hi] at f; omega
      · rw [if_neg hi] at f; omega
    · rw [if_neg e2] at f
      have e' := e.resolve_left e2
      rw [if_neg e2]
      by_cases hi : i = k
      · subst hi
        rw [hdd, if_pos rfl]
        exact ⟨Or.inl rfl, by omega⟩
      · have hj := h.j i a c e' (by
          by_cases h2 : i < k
          · rw [if_pos h2]; rw [if_pos (by omega)] at f; exact f
          · rw [if_neg h2]; rw [if_neg (by omega)] at f; exact f)
        refine ⟨Or.inr hj.1, ?_⟩
        by_cases e3 : (rd_T39 L i).f1 = d.f1
        · rw [if_pos e3]; rw [e3] at hj; have := hlow hj.1; omega
        · rw [if_neg e3]; exact hj.2
  · intro v a c
    rw [lo_put h.l1 hd a]
    have w1 := h.w v a c
    have w2 := h.w d.f0 hd.a hd.b
    have := hd.e
    have := hd.f
    by_cases e : v = d.f1
    · rw [if_pos e]; omega
    · rw [if_neg e]; omega
end
theorem rd_T39_drop (L : List S39) (k : Int) (h0 : 0 ≤ k) (h1 : k < L.length) : L.drop k.toNat = rd_T39 L k :: L.drop (k + 1).toNat := by
  rw [show (k + 1).toNat = k.toNat + 1 from by omega, List.drop_eq_getElem_cons (by omega)]
  congr 1
  unfold rd_T39
  rw [List.getD_eq_getElem?_getD, List.getElem?_eq_getElem (by omega)]; rfl
def Chg (n b c : Int) (T : Int → Int) : Prop := 0 ≤ c ∧ c < n ∧ b < T c
theorem pass_bf {n : Int} {L : List S39} {src : Int → Prop} {b : Int} (hE : EdgesOk n L) (hb : 0 ≤ b) : ∀ (q : Nat) (k c : Int) (s : Sg) (T : Int → Int), (q : Int) + k = L.length → 0 ≤ k → Bf n L src b k s T → (c = -1 ∨ Chg n b c T) →
    ∃ T', Bf n L src b L.length (pass (L.drop k.toNat) k c s).2 T' ∧ (((pass (L.drop k.toNat) k c s).1 = -1 ∧ c = -1 ∧ (pass (L.drop k.toNat) k c s).2 = s ∧ (∀ i : Int, k ≤ i → i < L.length → ¬ s.better (rd_T39 L i) = true)) ∨ Chg n b (pass (L.drop k.toNat) k c s).1 T')
  | 0, k, c, s, T, hq, h0, h, hc => by
    have hk : k = L.length := by omega
    rw [List.drop_eq_nil_of_le (by omega)]
    subst hk
    refine ⟨T, h, ?_⟩
    rcases hc with hc | hc
    · exact Or.inl ⟨hc, hc, rfl, fun i a b => by omega⟩
    · exact Or.inr hc
  | q + 1, k, c, s, T, hq, h0, h, hc => by
    have hk : k < L.length := by omega
    rw [rd_T39_drop L k h0 hk]
    unfold pass
    by_cases hy : s.better (rd_T39 L k) = true
    · rw [if_pos hy]
      have h' := h.step hE h0 hk hb hy
      have hd := hE k h0 hk
      obtain ⟨T', r1, r2⟩ := pass_bf hE hb q (k + 1) (rd_T39 L k).f1 (s.put (rd_T39 L k) k) _ (by omega) (by omega) h' (Or.inr ⟨hd.c, hd.g, by unfold Tput; rw [if_pos rfl]; omega⟩)
      refine ⟨T', r1, ?_⟩
      rcases r2 with r2 | r2
      · have := hd.c; omega
      · exact Or.inr r2
    · rw [if_neg hy]
      obtain ⟨T', r1, r2⟩ := pass_bf hE hb q (k + 1) c s T (by omega) (by omega) (h.skip hE h0 hk hb hy) hc
      refine ⟨T', r1, ?_⟩
      rcases r2 with ⟨a1, a2, a3, a4⟩ | r2
      · refine Or.inl ⟨a1, a2, a3, fun i e f => ?_⟩
        by_cases hi : i = k
        · rw [hi]; exact hy
        · exact a4 i (by omega) f
      · exact Or.inr r2
theorem Bf.next {n : Int} {L : List S39} {src : Int → Prop} {b : Int} {s : Sg} {T : Int → Int} (h : Bf n L src b L.length s T) : Bf n L src (b + L.length) 0 s T :=
  ⟨h.l1, h.l2, h.l3, fun v a c => by have := h.t0 v a c; omega, h.z, h.p, fun i a c e f => h.j i a c e (by
    rw [if_neg (by omega)] at f
    rw [if_pos (by omega)]
    omega), fun v a c => by have := h.w v a c; omega⟩
/-- The node before a node. -/
def bk (L : List S39) (la : List Int) (v : Int) : Int := (rd_T39 L (rd la v)).f0
def it (L : List S39) (la : List Int) : Nat → Int → Int
  | 0, v => v
  | i + 1, v => it L la i (bk L la v)
def chain (L : List S39) (la : List Int) : Nat → Int → List Int
  | 0, _ => []
  | i + 1, v => rd la v :: chain L la i (bk L la v)
def loopedL (L : List S39) (la : List Int) : Nat → Int → Int
  | 0, v => v
  | i + 1, v => if rd la v < 0 then -1 else loopedL L la i (bk L la v)
/-- The way back goes on for so many steps. -/
def Goes (L : List S39) (la : List Int) : Nat → Int → Prop
  | 0, _ => True
  | i + 1, v => 0 ≤ rd la v ∧ Goes L la i (bk L la v)
theorem looped_goes (L : List S39) (la : List Int) : ∀ i v, (Goes L la i v ∧ loopedL L la i v = it L la i v) ∨ (¬ Goes L la i v ∧ loopedL L la i v = -1)
  | 0, v => Or.inl ⟨trivial, rfl⟩
  | i + 1, v => by
    unfold Goes loopedL it
    by_cases h : rd la v < 0
    · rw [if_pos h]; exact Or.inr ⟨fun q => by omega, rfl⟩
    · rw [if_neg h]
      rcases looped_goes L la i (bk L la v) with ⟨a, b⟩ | ⟨a, b⟩
      · exact Or.inl ⟨⟨by omega, a⟩, b⟩
      · exact Or.inr ⟨fun q => a q.2, b⟩
theorem it_add (L : List S39) (la : List Int) : ∀ i j v, it L la (i + j) v = it L la j (it L la i v)
  | 0, j, v => by rw [Nat.zero_add]; rfl
  | i + 1, j, v => by rw [show i + 1 + j = (i + j) + 1 from by omega]; exact it_add L la i j _
theorem goes_add (L : List S39) (la : List Int) : ∀ i j v, Goes L la (i + j) v ↔ Goes L la i v ∧ Goes L la j (it L la i v)
  | 0, j, v => by rw [Nat.zero_add]; simp [Goes, it]
  | i + 1, j, v => by
    rw [show i + 1 + j = (i + j) + 1 from by omega]
    simp only [Goes, it]
    rw [goes_add L la i j, and_assoc]
theorem goes_le {L : List S39} {la : List Int} {i j : Nat} {v : Int} (h : Goes L la j v) (hi : i ≤ j) : Goes L la i v := by
  obtain ⟨q, rfl⟩ : ∃ q, j = i + q := ⟨j - i, by omega⟩
  exact ((goes_add L la i q v).1 h).1
/-- A walk: from, its differences, to, length. -/
def Wk (L : List S39) : Int → List Int → Int → Int → Prop
  | u, [], v, W => v = u ∧ W = 0
  | u, i :: is, v, W => (0 ≤ i ∧ i < L.length) ∧ (rd_T39 L i).f0 = u ∧ Wk L (rd_T39 L i).f1 is v (W - (rd_T39 L i).f2)
theorem Wk.append {L : List S39} : ∀ {u : Int} {l1 : List Int} {v W1 : Int} {l2 : List Int} {x W2 : Int}, Wk L u l1 v W1 → Wk L v l2 x W2 → Wk L u (l1 ++ l2) x (W1 + W2)
  | u, [], v, W1, l2, x, W2, h1, h2 => by
    obtain ⟨rfl, rfl⟩ := h1
    rw [Int.zero_add]; exact h2
  | u, i :: is, v, W1, l2, x, W2, h1, h2 => by
    obtain ⟨a, b, c⟩ := h1
    refine ⟨a, b, ?_⟩
    have := Wk.append c h2
    rw [show W1 + W2 - (rd_T39 L i).f2 = W1 - (rd_T39 L i).f2 + W2 from by omega]
    exact this
section
variable {n : Int} {L : List S39} {src : Int → Prop} {b k : Int} {s : Sg} {T : Int → Int}
theorem Bf.la_pos (h : Bf n L src b k s T) {v : Int} (h0 : 0 ≤ v) (h1 : v < n) (h2 : 0 ≤ rd s.la v) : 0 < T v := by
  have := (h.t0 v h0 h1).1
  by_cases e : T v = 0
  · have := (h.z v h0 h1 e).1; omega
  · omega
theorem Bf.bk_node (h : Bf n L src b k s T) (hE : EdgesOk n L) {v : Int} (h0 : 0 ≤ v) (h1 : v < n) (h2 : 0 ≤ rd s.la v) : 0 ≤ bk L s.la v ∧ bk L s.la v < n := by
  have hp := h.p v h0 h1 (h.la_pos h0 h1 h2)
  exact ⟨(hE _ hp.1 hp.2.1).a, (hE _ hp.1 hp.2.1).b⟩
theorem Bf.it_node (h : Bf n L src b k s T) (hE : EdgesOk n L) : ∀ (i : Nat) {v : Int}, 0 ≤ v → v < n → Goes L s.la i v → 0 ≤ it L s.la i v ∧ it L s.la i v < n
  | 0, v, h0, h1, _ => ⟨h0, h1⟩
  | i + 1, v, h0, h1, hg => by
    have := h.bk_node hE h0 h1 hg.1
    exact h.it_node hE i this.1 this.2 hg.2
/-- The way back as a walk forward. -/
theorem Bf.back (h : Bf n L src b k s T) (hE : EdgesOk n L) : ∀ (i : Nat) {v : Int}, 0 ≤ v → v < n → Goes L s.la i v → ∃ W, Wk L (it L s.la i v) (chain L s.la i v).reverse v W ∧ (rd s.lo v > rd s.lo (it L s.la i v) + W ∨ (rd s.lo v ≥ rd s.lo (it L s.la i v) + W ∧ T (it L s.la i v) + i ≤ T v))
  | 0, v, h0, h1, _ => ⟨0, ⟨rfl, rfl⟩, Or.inr ⟨by simp [it], by simp [it]⟩⟩
  | i + 1, v, h0, h1, hg => by
    have hn := h.bk_node hE h0 h1 hg.1
    have hp := h.p v h0 h1 (h.la_pos h0 h1 hg.1)
    obtain ⟨W, w1, w2⟩ := h.back hE i hn.1 hn.2 hg.2
    refine ⟨W + (rd_T39 L (rd s.la v)).f2, ?_, ?_⟩
    · have : Wk L (bk L s.la v) [rd s.la v] v (rd_T39 L (rd s.la v)).f2 := ⟨⟨hp.1, hp.2.1⟩, rfl, hp.2.2.2.1.symm, by omega⟩
      simp only [chain, it, List.reverse_cons]
      exact w1.append this
    · simp only [it]
      have e : (rd_T39 L (rd s.la v)).f0 = bk L s.la v := rfl
      have q6 := hp.2.2.2.2.2.1
      have q7 := hp.2.2.2.2.2.2.1
      rw [e] at q6 q7
      rcases w2 with w2 | ⟨w2, w3⟩
      · left; omega
      · by_cases ht : T (bk L s.la v) ≥ T v
        · left; have := q7 ht; omega
        · right; exact ⟨by omega, by push_cast; omega⟩
/-- A round of the way back has a negative length. -/
theorem Bf.round (h : Bf n L src b k s T) (hE : EdgesOk n L) {c : Nat} {v : Int} (h0 : 0 ≤ v) (h1 : v < n) (hg : Goes L s.la c v) (hc : 0 < c) (e : it L s.la c v = v) : ∃ W, W < 0 ∧ Wk L v (chain L s.la c v).reverse v W := by
  obtain ⟨W, w1, w2⟩ := h.back hE c h0 h1 hg
  rw [e] at w1 w2
  exact ⟨W, by omega, w1⟩
theorem Bf.goes_far (h : Bf n L src b k s T) (hE : EdgesOk n L) : ∀ (i : Nat) {v : Int}, 0 ≤ v → v < n → (i : Int) * L.length < T v → Goes L s.la (i + 1) v
  | 0, v, h0, h1, ht => ⟨(h.p v h0 h1 (by simpa using ht)).1, trivial⟩
  | i + 1, v, h0, h1, ht => by
    rw [show ((i + 1 : Nat) : Int) * L.length = (i : Int) * L.length + L.length from by rw [Int.natCast_add, Int.add_mul]; simp] at ht
    have hpos : (0 : Int) ≤ (i : Int) * L.length := Int.mul_nonneg (by omega) (by omega)
    have hp := h.p v h0 h1 (by omega)
    have hn := h.bk_node hE h0 h1 hp.1
    exact ⟨hp.1, h.goes_far hE i hn.1 hn.2 (by have := hp.2.2.2.2.2.2.2; unfold bk; omega)⟩
end
theorem nodup_le : ∀ (n : Nat) (l : List Int), l.Nodup → (∀ x ∈ l, 0 ≤ x ∧ x < n) → l.length ≤ n
  | 0, l, _, h => by
    cases l with
    | nil => simp
    | cons x xs => have := h x (by simp); omega
  | n + 1, l, hl, h => by
    have hx := nodup_le n (l.erase (n : Int)) (hl.erase _) (fun x hx => by
      have h2 := (hl.mem_erase_iff).1 hx
      have := h x h2.2
      omega)
    by_cases hm : (n : Int) ∈ l
    · have := List.length_erase_of_mem hm; omega
    · rw [List.erase_of_not_mem hm] at hx; omega
theorem pigeon (n : Nat) (f : Nat → Int) (h : ∀ i, i ≤ n → 0 ≤ f i ∧ f i < n) : ∃ i j, i < j ∧ j ≤ n ∧ f i = f j := by
  apply Classical.byContradiction
  intro hn
  have hnd : ((List.range (n + 1)).map f).Nodup := by
    rw [List.Nodup, List.pairwise_map]
    have := List.pairwise_lt_range (n := n + 1)
    refine List.Pairwise.imp_of_mem (fun {a b} ha hb hab e => hn ⟨a, b, hab, ?_, e⟩) this
    have := List.mem_range.1 hb; omega
  have := nodup_le n _ hnd (fun x hx => by
    obtain ⟨i, hi, rfl⟩ := List.mem_map.1 hx
    exact h i (by have := List.mem_range.1 hi; omega))
  rw [List.length_map, List.length_range] at this
  omega
/-- No difference makes a walk shorter. -/
def Fix (L : List S39) (s : Sg) : Prop := ∀ i : Int, 0 ≤ i → i < L.length → ¬ s.better (rd_T39 L i) = true
theorem Fix.edge {L : List S39} {s : Sg} (h : Fix L s) {i : Int} (h0 : 0 ≤ i) (h1 : i < L.length) (hu : hasN s (rd_T39 L i).f0) : hasN s (rd_T39 L i).f1 ∧ rd s.lo (rd_T39 L i).f1 ≤ rd s.lo (rd_T39 L i).f0 + (rd_T39 L i).f2 := by
  have := h i h0 h1
  rw [better_iff] at this
  by_cases h2 : hasN s (rd_T39 L i).f1
  · refine ⟨h2, ?_⟩
    have h3 : ¬ (rd s.lo (rd_T39 L i).f0 + (rd_T39 L i).f2 < rd s.lo (rd_T39 L i).f1) := fun h3 => this ⟨hu, Or.inr h3⟩
    omega
  · exact absurd ⟨hu, Or.inl h2⟩ this
theorem Fix.walk {L : List S39} {s : Sg} (h : Fix L s) : ∀ {u : Int} {l : List Int} {v W : Int}, hasN s u → Wk L u l v W → hasN s v ∧ rd s.lo v ≤ rd s.lo u + W
  | u, [], v, W, hu, hw => by
    obtain ⟨rfl, rfl⟩ := hw
    exact ⟨hu, by omega⟩
  | u, i :: is, v, W, hu, hw => by
    obtain ⟨⟨a, b⟩, rfl, c⟩ := hw
    have h1 := h.edge a b hu
    have h2 := h.walk h1.1 c
    exact ⟨h2.1, by have := h2.2; omega⟩
/-- Numbers that fulfil all differences. -/
def Pot (L : List S39) (x : Int → Int) : Prop := ∀ i : Int, 0 ≤ i → i < L.length → x (rd_T39 L i).f1 - x (rd_T39 L i).f0 ≤ (rd_T39 L i).f2
theorem Pot.walk {L : List S39} {x : Int → Int} (h : Pot L x) : ∀ {u : Int} {l : List Int} {v W : Int}, Wk L u l v W → x v - x u ≤ W
  | u, [], v, W, hw => by
    obtain ⟨rfl, rfl⟩ := hw
    omega
  | u, i :: is, v, W, hw => by
    obtain ⟨⟨a, b⟩, rfl, c⟩ := hw
    have h1 := h i a b
    have h2 := h.walk c
    omega
def growP (L : List S39) (n : Nat) : Nat → Sg → Option (Sg × Int)
  | 0, _ => none
  | r + 1, s => if (pass L 0 (-1) s).1 < 0 then some ((pass L 0 (-1) s).2, -1) else (if loopedL L (pass L 0 (-1) s).2.la n (pass L 0 (-1) s).1 ≥ 0 then some ((pass L 0 (-1) s).2, loopedL L (pass L 0 (-1) s).2.la n (pass L 0 (-1) s).1) else growP L n r (pass L 0 (-1) s).2)
def lenP (L : List S39) : Nat → Sg → Sg × Bool
  | 0, s => (s, false)
  | r + 1, s => if (pass L 0 (-1) s).1 < 0 then ((pass L 0 (-1) s).2, true) else lenP L r (pass L 0 (-1) s).2
/-- A round of negative length through a node. -/
def Round (L : List S39) (la : List Int) (n v : Int) : Prop := 0 ≤ v ∧ v < n ∧ ∃ c : Nat, 0 < c ∧ Goes L la c v ∧ it L la c v = v
structure GrowPost (n : Int) (L : List S39) (src : Int → Prop) (s : Sg) (bad : Int) : Prop where
  bf : ∃ b T, 0 ≤ b ∧ b + L.length ≤ n * L.length ∧ Bf n L src b L.length s T
  res : (bad = -1 ∧ Fix L s) ∨ (0 ≤ bad ∧ Round L s.la n bad)
theorem it_round {L : List S39} {la : List Int} {n : Nat} {v : Int} (hg : Goes L la n v) (hn : ∀ i, i ≤ n → 0 ≤ it L la i v ∧ it L la i v < n) : Round L la n (it L la n v) := by
  obtain ⟨i, j, h1, h2, h3⟩ := pigeon n (fun i => it L la i v) hn
  replace h3 : it L la i v = it L la j v := h3
  have e1 : it L la n v = it L la (n - j) (it L la i v) := by rw [h3, ← it_add]; congr 1; omega
  have e2 : it L la (n - i) (it L la i v) = it L la n v := by rw [← it_add]; congr 1; omega
  have e3 : it L la (j - i) (it L la i v) = it L la i v := by rw [← it_add, h3]; congr 1; omega
  have hgi : Goes L la (n - i) (it L la i v) := ((goes_add L la i (n - i) v).1 (by rw [show i + (n - i) = n from by omega]; exact hg)).2
  have hgj : Goes L la (n - j) (it L la i v) := by rw [h3]; exact ((goes_add L la j (n - j) v).1 (by rw [show j + (n - j) = n from by omega]; exact hg)).2
  have hgd : Goes L la (j - i) (it L la i v) := goes_le hgi (by omega)
  refine ⟨(hn n (Nat.le_refl _)).1, (hn n (Nat.le_refl _)).2, j - i, by omega, ?_, ?_⟩
  · -- from the node at n on: (n - j) steps behind the node i, then (j - i) more
    have : Goes L la ((j - i) + (n - j)) (it L la i v) := by rw [goes_add]; exact ⟨hgd, by rw [e3]; exact hgj⟩
    rw [Nat.add_comm, goes_add, ← e1] at this
    exact this.2
  · rw [e1, ← it_add, Nat.add_comm, it_add, e3]
theorem growP_post {n : Nat} {L : List S39} {src : Int → Prop} (hE : EdgesOk n L) : ∀ (r q : Nat) (s : Sg) (T : Int → Int), q + r = n → 0 < r → Bf n L src ((q : Int) * L.length) 0 s T →
    ∃ s' bad, growP L n r s = some (s', bad) ∧ GrowPost n L src s' bad
  | 0, q, s, T, hq, hr, h => by omega
  | r + 1, q, s, T, hq, hr, h => by
    have hpos : (0 : Int) ≤ (q : Int) * L.length := Int.mul_nonneg (by omega) (by omega)
    obtain ⟨T', h', hc⟩ := pass_bf hE hpos L.length 0 (-1) s T (by omega) (by omega) h (Or.inl rfl)
    rw [show (0 : Int).toNat = 0 from rfl, List.drop_zero] at h' hc
    have hb1 : ((q : Int) + 1) * L.length = (q : Int) * L.length + L.length := by rw [Int.add_mul, Int.one_mul]
    have hb2 : (q : Int) * L.length + L.length ≤ (n : Int) * L.length := by
      rw [← hb1]; exact Int.mul_le_mul_of_nonneg_right (by omega) (by omega)
    unfold growP
    rcases hc with ⟨c1, c2, c3, c4⟩ | hc
    · rw [if_pos (by omega)]
      exact ⟨_, _, rfl, ⟨_, T', hpos, hb2, h'⟩, Or.inl ⟨rfl, fun i a b => by rw [c3]; exact c4 i a b⟩⟩
    · rw [if_neg (by have := hc.1; omega)]
      have hfar := h'.goes_far hE q hc.1 hc.2.1 hc.2.2
      rcases looped_goes L (pass L 0 (-1) s).2.la n (pass L 0 (-1) s).1 with ⟨g1, g2⟩ | ⟨g1, g2⟩
      · have hnode := h'.it_node hE n hc.1 hc.2.1 g1
        rw [if_pos (by rw [g2]; exact hnode.1)]
        refine ⟨_, _, rfl, ⟨_, T', hpos, hb2, h'⟩, Or.inr ⟨by rw [g2]; exact hnode.1, ?_⟩⟩
        rw [g2]
        exact it_round g1 (fun i hi => h'.it_node hE i hc.1 hc.2.1 (goes_le g1 hi))
      · rw [if_neg (by rw [g2]; omega)]
        by_cases hr : r = 0
        · exact absurd (goes_le hfar (by omega)) g1
        · have h'' := h'.next
          rw [← hb1] at h''
          exact growP_post hE r (q + 1) _ T' (by omega) (by omega) (by push_cast; exact h'')
section
variable {n : Int} {L : List S39} {src : Int → Prop} {s : Sg} {bad : Int}
theorem GrowPost.round (h : GrowPost n L src s bad) (hE : EdgesOk n L) {v : Int} (hr : Round L s.la n v) : ∃ c : Nat, ∃ W, 0 < c ∧ Goes L s.la c v ∧ it L s.la c v = v ∧ W < 0 ∧ Wk L v (chain L s.la c v).reverse v W := by
  obtain ⟨b, T, hb, hb2, hB⟩ := h.bf
  obtain ⟨h0, h1, c, hc, hg, he⟩ := hr
  obtain ⟨W, w1, w2⟩ := hB.round hE h0 h1 hg hc he
  exact ⟨c, W, hc, hg, he, w1, w2⟩
theorem GrowPost.no_round (h : GrowPost n L src s bad) (hE : EdgesOk n L) (hp : (∃ x, Pot L x) ∨ Fix L s) {v : Int} (hr : Round L s.la n v) : False := by
  obtain ⟨c, W, hc, hg, he, w1, w2⟩ := h.round hE hr
  rcases hp with ⟨x, hp⟩ | hp
  · have := hp.walk w2; omega
  · obtain ⟨b, T, hb, hb2, hB⟩ := h.bf
    obtain ⟨h0, h1, _⟩ := hr
    have hv : hasN s v := by
      obtain ⟨c', rfl⟩ : ∃ c', c = c' + 1 := ⟨c - 1, by omega⟩
      exact (hB.p v h0 h1 (hB.la_pos h0 h1 hg.1)).2.2.1
    have := (hp.walk hv w2).2
    omega
theorem GrowPost.good (h : GrowPost n L src s bad) (hE : EdgesOk n L) {x : Int → Int} (hp : Pot L x) : bad = -1 ∧ Fix L s := by
  rcases h.res with h1 | h1
  · exact h1
  · exact absurd h1.2 (fun hr => h.no_round hE (Or.inl ⟨x, hp⟩) hr)
theorem GrowPost.all_has (h : GrowPost n L src s bad) (ha : ∀ v, 0 ≤ v → v < n → src v) {v : Int} (h0 : 0 ≤ v) (h1 : v < n) : hasN s v := by
  obtain ⟨b, T, hb, hb2, hB⟩ := h.bf
  have := (hB.t0 v h0 h1).1
  by_cases e : T v = 0
  · exact (hB.z v h0 h1 e).2.2.2 (ha v h0 h1)
  · exact (hB.p v h0 h1 (by omega)).2.2.1
theorem GrowPost.pot (h : GrowPost n L src s bad) (hE : EdgesOk n L) (ha : ∀ v, 0 ≤ v → v < n → src v) (hb : bad = -1) : Pot L (rd s.lo) := fun i h0 h1 => by
  rcases h.res with ⟨_, h2⟩ | h2
  · have hd := hE i h0 h1
    have := (h2.edge h0 h1 (h.all_has ha hd.a hd.b)).2
    omega
  · omega
theorem GrowPost.bad_iff (h : GrowPost n L src s bad) (hE : EdgesOk n L) (ha : ∀ v, 0 ≤ v → v < n → src v) : bad = -1 ↔ ∃ x, Pot L x :=
  ⟨fun e => ⟨_, h.pot hE ha e⟩, fun ⟨x, hx⟩ => (h.good hE hx).1⟩
theorem GrowPost.bounds (h : GrowPost n L src s bad) {v : Int} (h0 : 0 ≤ v) (h1 : v < n) : -(n * L.length) * 1073741824 ≤ rd s.lo v ∧ rd s.lo v ≤ (n * L.length) * 1073741824 := by
  obtain ⟨b, T, hb, hb2, hB⟩ := h.bf
  have := hB.w v h0 h1
  omega
end
/-- The shortest walk to a node, as the way back tells it. -/
structure Tree (n : Int) (L : List S39) (src : Int → Prop) (s : Sg) (v : Int) (c : Nat) : Prop where
  goes : Goes L s.la c v
  root : rd s.la (it L s.la c v) = -1
  zero : rd s.lo (it L s.la c v) = 0
  src : src (it L s.la c v)
  node : ∀ i, i ≤ c → 0 ≤ it L s.la i v ∧ it L s.la i v < n
  has : ∀ i, i ≤ c → hasN s (it L s.la i v)
  walk : Wk L (it L s.la c v) (chain L s.la c v).reverse v (rd s.lo v)
  apart : ∀ i j, i < j → j ≤ c → it L s.la i v ≠ it L s.la j v
  few : (c : Int) < n
section
variable {n : Nat} {L : List S39} {src : Int → Prop} {s : Sg} {bad : Int}
theorem GrowPost.tree (h : GrowPost n L src s bad) (hE : EdgesOk n L) (hf : Fix L s) {v : Int} (h0 : 0 ≤ v) (h1 : v < n) (hv : hasN s v) : ∃ c, Tree n L src s v c := by
  obtain ⟨b, T, hb, hb2, hB⟩ := h.bf
  have hno : ¬ Goes L s.la n v := fun hg => h.no_round hE (Or.inr hf) (it_round hg (fun i hi => hB.it_node hE i h0 h1 (goes_le hg hi)))
  have key : ∀ m : Nat, ¬ Goes L s.la m v → ∃ c, c < m ∧ Goes L s.la c v ∧ rd s.la (it L s.la c v) < 0 := by
    intro m
    induction m with
    | zero => intro hm; exact absurd trivial hm
    | succ m ih =>
      intro hm
      by_cases hg : Goes L s.la m v
      · refine ⟨m, by omega, hg, ?_⟩
        apply Classical.byContradiction
        intro hx
        exact hm ((goes_add L s.la m 1 v).2 ⟨hg, by omega, trivial⟩)
      · obtain ⟨c, a, b⟩ := ih hg
        exact ⟨c, by omega, b⟩
  obtain ⟨c, hc, hg, hla⟩ := key n hno
  have hnode : ∀ i, i ≤ c → 0 ≤ it L s.la i v ∧ it L s.la i v < n := fun i hi => hB.it_node hE i h0 h1 (goes_le hg hi)
  have hnc := hnode c (Nat.le_refl _)
  have hT : T (it L s.la c v) = 0 := by
    have := (hB.t0 _ hnc.1 hnc.2).1
    by_cases e : T (it L s.la c v) = 0
    · exact e
    · have := (hB.p _ hnc.1 hnc.2 (by omega)).1; omega
  have hz := hB.z _ hnc.1 hnc.2 hT
  have hhas : ∀ i, i ≤ c → hasN s (it L s.la i v) := by
    intro i
    induction i with
    | zero => intro _; exact hv
    | succ i ih =>
      intro hi
      have hn := hnode i (by omega)
      have hgi : Goes L s.la 1 (it L s.la i v) := ((goes_add L s.la i 1 v).1 (goes_le hg hi)).2
      have hp := (hB.p _ hn.1 hn.2 (hB.la_pos hn.1 hn.2 hgi.1)).2.2.2.2.1
      rw [it_add]; exact hp
  obtain ⟨W, w1, w2⟩ := hB.back hE c h0 h1 hg
  have hle := (hf.walk (hhas c (Nat.le_refl _)) w1).2
  refine ⟨c, hg, hz.1, hz.2.1, hz.2.2.1 (hhas c (Nat.le_refl _)), hnode, hhas, ?_, fun i j hi hj e => ?_, by omega⟩
  · have e : W = rd s.lo v := by have := hz.2.1; omega
    rw [← e]; exact w1
  · refine h.no_round hE (Or.inr hf) (v := it L s.la i v) ⟨(hnode i (by omega)).1, (hnode i (by omega)).2, j - i, by omega, ?_, ?_⟩
    · exact goes_le ((goes_add L s.la i (c - i) v).1 (by rw [show i + (c - i) = c from by omega]; exact hg)).2 (by omega)
    · rw [← it_add, show i + (j - i) = j from by omega, e]
theorem lenP_growP : ∀ (r r' : Nat) (s s' : Sg), r ≤ r' → growP L n r s = some (s', -1) → lenP L r' s = (s', true)
  | 0, r', s, s', hr, h => by simp [growP] at h
  | r + 1, 0, s, s', hr, h => by omega
  | r + 1, r' + 1, s, s', hr, h => by
    unfold growP at h
    unfold lenP
    by_cases hc : (pass L 0 (-1) s).1 < 0
    · rw [if_pos hc] at h ⊢
      simp only [Option.some.injEq, Prod.mk.injEq] at h
      rw [h.1]
    · rw [if_neg hc] at h ⊢
      by_cases hl : loopedL L (pass L 0 (-1) s).2.la n (pass L 0 (-1) s).1 ≥ 0
      · rw [if_pos hl] at h
        simp only [Option.some.injEq, Prod.mk.injEq] at h
        omega
      · rw [if_neg hl] at h
        exact lenP_growP r r' _ _ (by omega) h
theorem lenP_fix (hE : EdgesOk n L) : ∀ (r : Nat) (b : Int) (s s' : Sg) (T : Int → Int), 0 ≤ b → Bf n L src b 0 s T → lenP L r s = (s', true) → ∃ b' T', 0 ≤ b' ∧ Bf n L src b' L.length s' T' ∧ Fix L s'
  | 0, b, s, s', T, hb, h, hl => by simp [lenP] at hl
  | r + 1, b, s, s', T, hb, h, hl => by
    obtain ⟨T', h', hc⟩ := pass_bf hE hb L.length 0 (-1) s T (by omega) (by omega) h (Or.inl rfl)
    rw [show (0 : Int).toNat = 0 from rfl, List.drop_zero] at h' hc
    unfold lenP at hl
    rcases hc with ⟨c1, c2, c3, c4⟩ | hc
    · rw [if_pos (by omega)] at hl
      simp only [Prod.mk.injEq, and_true] at hl
      subst hl
      exact ⟨b, T', hb, h', fun i a b => by rw [c3]; exact c4 i a b⟩
    · rw [if_neg (by have := hc.1; omega)] at hl
      exact lenP_fix hE r _ _ s' T' (by omega) h'.next hl
end
/-- The start. -/
def sg0 (n : Nat) (from_ : List Int) : Sg := ⟨List.replicate n 0, from_.foldl (fun h i => h.set i.toNat true) (List.replicate n false), List.replicate n (-1)⟩
theorem rd_replicate (n : Nat) (x v : Int) (h0 : 0 ≤ v) (h1 : v < n) : rd (List.replicate n x) v = x := by
  unfold rd
  rw [List.getD_eq_getElem?_getD, List.getElem?_replicate, if_pos (by omega)]; rfl
theorem rdOf_replicate {α : Type} (n : Nat) (d x : α) (v : Int) (h0 : 0 ≤ v) (h1 : v < n) : rdOf d (List.replicate n x) v = x := by
  unfold rdOf
  rw [List.getD_eq_getElem?_getD, List.getElem?_replicate, if_pos (by omega)]; rfl
theorem foldl_has (n : Nat) : ∀ (l : List Int) (h : List Bool), h.length = n → (∀ i ∈ l, 0 ≤ i ∧ i < (n : Int)) → (l.foldl (fun h i => h.set i.toNat true) h).length = n ∧ ∀ v, 0 ≤ v → v < (n : Int) → (rdOf false (l.foldl (fun h i => h.set i.toNat true) h) v = true ↔ v ∈ l ∨ rdOf false h v = true)
  | [], h, hl, _ => ⟨hl, fun v _ _ => by simp⟩
  | i :: l, h, hl, hi => by
    have h1 := hi i (by simp)
    obtain ⟨a, b⟩ := foldl_has n l (h.set i.toNat true) (by simpa using hl) (fun j hj => hi j (by simp [hj]))
    refine ⟨a, fun v h0 hv => ?_⟩
    rw [List.foldl_cons, b v h0 hv, rdOf_set _ _ _ _ _ h1.1 (by omega) h0, List.mem_cons]
    by_cases e : v = i
    · simp [e]
    · simp [e]
theorem sg0_bf {n : Nat} {L : List S39} {from_ : List Int} (hf : ∀ i ∈ from_, 0 ≤ i ∧ i < (n : Int)) : Bf n L (fun v => v ∈ from_) 0 0 (sg0 n from_) (fun _ => 0) := by
  obtain ⟨a, b⟩ := foldl_has n from_ (List.replicate n false) (by simp) hf
  refine ⟨by simp [sg0], by simp only [sg0]; omega, by simp [sg0], fun v h0 h1 => ⟨by simp, by simp⟩, fun v h0 h1 _ => ⟨rd_replicate n _ v h0 h1, rd_replicate n _ v h0 h1, ?_⟩, fun v h0 h1 h => by simp at h, fun i h0 h1 h2 h3 => ?_, fun v h0 h1 => ?_⟩
  · unfold hasN
    show rdOf false (List.foldl _ _ _) v = true ↔ _
    rw [b v h0 h1, rdOf_replicate n _ _ v h0 h1]
    simp
  · rw [if_neg (by omega)] at h3
    omega
  · rw [show rd (sg0 n from_).lo v = 0 from rd_replicate n _ v h0 h1]
    omega
theorem grow_all {n : Nat} {L : List S39} {from_ : List Int} (hn : 0 < n) (hE : EdgesOk n L) (hf : ∀ i ∈ from_, 0 ≤ i ∧ i < (n : Int)) : ∃ s' bad, growP L n n (sg0 n from_) = some (s', bad) ∧ GrowPost n L (fun v => v ∈ from_) s' bad :=
  growP_post hE n 0 _ _ (by omega) hn (by simpa using sg0_bf hf)
end Go.Proofs.Ytpolojoeabmhdaa.A
namespace Go.Proofs.Ytpolojoeabmhdaa.A
open Go.RowKit Go.Proofs.YtpolojoeabmhdaaW.PrintWords Go.Proofs.YtpolojoeabmhdaaW.PrintLast Go.Proofs.YtpolojoeabmhdaaW.PrintMore
attribute [local go_sem] max2_int min2_int max_two min_two max_three min_three max_four min_four
def diffs_tree_looped.l0 : Nat → List (S39) → Int → Int → Int → List Int → List Bool → List Int → Option (Int)
 | 0, _, _, _, _, _, _, _ => none
 | k + 1, x1, x2, x9, x10, x113000, x113001, x113002 => if x10 < x9 then (if 0 ≤ x2 then (if x2 < (x113002.length : Int) then (if (rd x113002 x2) < 0 then (some (-1)) else (if 0 ≤ (rd x113002 x2) then (if (rd x113002 x2) < (x1.length : Int) then (diffs_tree_looped.l0 k x1 ((rd_T39 x1 (rd x113002 x2)).f0) x9 (wrap64 (x10 + 1)) x113000 x113001 x113002) else (none)) else (none))) else (none)) else (none)) else (some x2)
def diffs_tree_looped.f (k : Nat) (l0_0 : List Int) (l0_1 : List Bool) (l0_2 : List Int) (l1 : List (S39)) (a2 : Int) : Option (Int) := diffs_tree_looped.l0 k l1 a2 (l0_2.length : Int) 0 l0_0 l0_1 l0_2
theorem diffs_tree_looped.mono_l : ∀ k, (∀ y0 y1 y2 y3 y4 y5 y6, LeO (diffs_tree_looped.l0 k y0 y1 y2 y3 y4 y5 y6) (diffs_tree_looped.l0 (k + 1) y0 y1 y2 y3 y4 y5 y6))
 | 0 => fun _ _ _ _ _ _ _ r h => by simp [diffs_tree_looped.l0] at h
 | k + 1 => by
  have ih0 := diffs_tree_looped.mono_l k; intro y0 y1 y2 y3 y4 y5 y6; unfold diffs_tree_looped.l0; repeat' first | (with_reducible first | exact ih0 _ _ _ _ _ _ _ | exact LeO.refl _ | exact LeO.none _ | refine LeO.ite ?_ ?_ | refine LeO.bind ?_ (fun _ => ?_)) | exact ih0 _ _ _ _ _ _ _ | exact LeO.none _ | refine LeO.ite ?_ ?_ | refine LeO.bind ?_ (fun _ => ?_)
theorem diffs_tree_looped.mono : ∀ a0 a1 a2 a3 a4 k, LeO (diffs_tree_looped.f k a0 a1 a2 a3 a4) (diffs_tree_looped.f (k + 1) a0 a1 a2 a3 a4) := by
 intro a0 a1 a2 a3 a4 k; have ih0 := diffs_tree_looped.mono_l k; unfold diffs_tree_looped.f; repeat' first | (with_reducible first | exact ih0 _ _ _ _ _ _ _ | exact LeO.refl _ | exact LeO.none _ | refine LeO.ite ?_ ?_ | refine LeO.bind ?_ (fun _ => ?_)) | exact ih0 _ _ _ _ _ _ _ | exact LeO.none _ | refine LeO.ite ?_ ?_ | refine LeO.bind ?_ (fun _ => ?_)
set_option maxHeartbeats 8000000 in
set_option maxRecDepth 100000 in
theorem diffs_tree_looped.calls (k : Nat) (A0_0 : Option Addr) (c0_0 : Nat) (l0_0 : List Int) (A0_1 : Option Addr) (c0_1 : Nat) (l0_1 : List Bool) (A0_2 : Option Addr) (c0_2 : Nat) (l0_2 : List Int) (A1 : Option Addr) (c1 : Nat) (l1 : List (S39)) (a2 : Int) (r : Int) (w : World) (hr0_0 : Kd.C (Kd.int .i64) w A0_0 l0_0.length l0_0) (hc0_0 : l0_0.length ≤ c0_0) (hr0_1 : Kd.C Kd.bool w A0_1 l0_1.length l0_1) (hc0_1 : l0_1.length ≤ c0_1) (hr0_2 : Kd.C (Kd.int .i64) w A0_2 l0_2.length l0_2) (hc0_2 : l0_2.length ≤ c0_2) (hr1 : Kd.C k39 w A1 l1.length l1) (hc1 : l1.length ≤ c1) (h : diffs_tree_looped.f k l0_0 l0_1 l0_2 l1 a2 = some r) :
  Calls Try.prog 113 #[.agg #[.slice A0_0 l0_0.length c0_0, .slice A0_1 l0_1.length c0_1, .slice A0_2 l0_2.length c0_2], .slice A1 l1.length c1, .int .i64 a2] w fun e w' => e = .returned (.int .i64 r) ∧ Below w.heap.size w w' := by
 have hu88 := Try.underlying88; have HR0_0 := Z_ hr0_0; have HC0_0 := Z_ hc0_0; clear hr0_0 hc0_0; have HR0_1 := Z_ hr0_1; have HC0_1 := Z_ hc0_1; clear hr0_1 hc0_1; have HR0_2 := Z_ hr0_2; have HC0_2 := Z_ hc0_2; clear hr0_2 hc0_2; have HR1 := Z_ hr1; have HC1 := Z_ hc1; clear hr1 hc1; have HB := Z_ (Below.refl w.heap.size w); have H : (diffs_tree_looped.l0 k l1 a2 (l0_2.length : Int) 0 l0_0 l0_1 l0_2) = some r := h; clear h; have H' := Z_ H; clear H; go_enter Try.func113, Try.ntmps113; go_wp2_with (first | ((with_reducible refine gate_dst (N := 3) rfl ?_); refine box_event ?hg (N := 3) ?hd (cs := #[.slice A0_0 l0_0.length c0_0, .slice A0_1 l0_1.length c0_1, .slice A0_2 l0_2.length c0_2]) (t := 88) ?hr ?_; (case hd => rfl); (case hg => rfl); (case hr => first | (go_simp; done) | (go_simp; rfl)); intro gb112 hg w4 hbox hb; have BK112 := Z_ (hbox); have GW112 := Z_ ((by rw [hg]; exact (fZ_ HB.out) : w.heap.size ≤ gb112)); have GE112 := Z_ ((by rw [hg]; exact (fZ_ HB.out) : w.heap.size ≤ gb112)); replace HB := Z_ (fS_ HB.out hb); clear hb hbox hg; have hcz5_0 : w4.cell? ⟨gb112, 0, none⟩ = some (.slice A0_0 l0_0.length c0_0) := (bC_ BK112.out 0).trans rfl; have hcz5_1 : w4.cell? ⟨gb112, 1, none⟩ = some (.slice A0_1 l0_1.length c0_1) := (bC_ BK112.out 1).trans rfl; have hcz5_2 : w4.cell? ⟨gb112, 2, none⟩ = some (.slice A0_2 l0_2.length c0_2) := (bC_ BK112.out 2).trans rfl; have hfz5_0 := bF_ BK112.out 0; have hfz5_1 := bF_ BK112.out 1; have hfz5_2 := bF_ BK112.out 2)); go_loopg [2, 10] k (fun kq v2 v10 w' => ∃ (x2_1 : Int) (x10_1 : Int), v2 = .int .i64 x2_1 ∧ v10 = .int .i64 x10_1 ∧ Aside0 (diffs_tree_looped.l0 kq l1 x2_1 (l0_2.length : Int) x10_1 l0_0 l0_1 l0_2 = some r) ∧ Aside0 (kq ≤ k) ∧ Aside0 (w'.heap[gb112]? = some (.cells #[(.slice A0_0 l0_0.length c0_0), (.slice A0_1 l0_1.length c0_1), (.slice A0_2 l0_2.length c0_2)] 88 (0, 0))) ∧ Aside0 (Below w.heap.size w w'))
 case atStart => exact ⟨(a2), (0), (by first | rfl | (simp; done) | (simp [*]; done)), (by first | rfl | (simp; done) | (simp [*]; done)), H', ⟨nR_ _⟩, ⟨BK112.out⟩, ⟨HB.out⟩⟩
 case round =>
  clear H'; (try clear c1); (try clear p2); (try clear hcz5_0); (try clear hcz5_1); (try clear hcz5_2); (try clear hfz5_0); (try clear hfz5_1); (try clear hfz5_2)
  obtain ⟨x2_1, x10_1, rfl, rfl, HA, HK1, BK112, HB⟩ := hrel
  cases gk with
  | zero => exact absurd HA.out (by simp [diffs_tree_looped.l0])
  | succ k1 =>
   have H := HA.out; clear HA; simp only [diffs_tree_looped.l0] at H; by_cases c6 : x10_1 < (l0_2.length : Int)
   ·rw [if_pos c6] at H
    have c6b0 : decide (x10_1 < (l0_2.length : Int)) = true := eT_ c6; clear c6; by_cases c7 : 0 ≤ x2_1
    ·rw [if_pos c7] at H
     have c7b0 : decide (0 ≤ x2_1) = true := eT_ c7; clear c7; by_cases c8 : x2_1 < (l0_2.length : Int)
     ·rw [if_pos c8] at H
      have c8b0 : decide (x2_1 < (l0_2.length : Int)) = true := eT_ c8; clear c8; by_cases c9 : (rd l0_2 x2_1) < 0
      ·rw [if_pos c9] at H
       have c9b0 : decide ((rd l0_2 x2_1) < 0) = true := eT_ c9; clear c9; obtain rfl := oI_ H; have hcz10_0 : wr.cell? ⟨gb112, 0, none⟩ = some (.slice A0_0 l0_0.length c0_0) := (bC_ BK112.out 0).trans rfl; have hcz10_1 : wr.cell? ⟨gb112, 1, none⟩ = some (.slice A0_1 l0_1.length c0_1) := (bC_ BK112.out 1).trans rfl; have hcz10_2 : wr.cell? ⟨gb112, 2, none⟩ = some (.slice A0_2 l0_2.length c0_2) := (bC_ BK112.out 2).trans rfl; have hfz10_0 := bF_ BK112.out 0; have hfz10_1 := bF_ BK112.out 1; have hfz10_2 := bF_ BK112.out 2; have p113 : 0 ≤ (x2_1 : Int) := dT_ (by first | (with_reducible assumption) | assumption); have q113 : x2_1 < (l0_2.length : Int) := dT_ (by first | (with_reducible assumption) | assumption); obtain ⟨ad113, e113, hx113_0⟩ := Kd.at_int HR0_2.out x2_1 p113 q113; cases e113
       replace hx113_0 := (HB.out.cell (World.block_lt_of_cell? w _ hx113_0)).trans hx113_0; replace p113 := eq_true p113; replace q113 := eq_true q113; go_wp2; go_ret; exact ⟨by first | rfl | (simp [errW_none, errW_some] <;> rfl) | (simp [*, errW_none, errW_some] <;> rfl), HB.out⟩
      rw [if_neg c9] at H; have c9b0 : decide ((rd l0_2 x2_1) < 0) = false := eF_ c9; clear c9; by_cases c11 : 0 ≤ (rd l0_2 x2_1)
      ·rw [if_pos c11] at H
       have c11b0 : decide (0 ≤ (rd l0_2 x2_1)) = true := eT_ c11; clear c11; by_cases c12 : (rd l0_2 x2_1) < (l1.length : Int)
       ·rw [if_pos c12] at H
        have c12b0 : decide ((rd l0_2 x2_1) < (l1.length : Int)) = true := eT_ c12; clear c12; have H' := Z_ H; clear H; have hcz13_0 : wr.cell? ⟨gb112, 0, none⟩ = some (.slice A0_0 l0_0.length c0_0) := (bC_ BK112.out 0).trans rfl; have hcz13_1 : wr.cell? ⟨gb112, 1, none⟩ = some (.slice A0_1 l0_1.length c0_1) := (bC_ BK112.out 1).trans rfl; have hcz13_2 : wr.cell? ⟨gb112, 2, none⟩ = some (.slice A0_2 l0_2.length c0_2) := (bC_ BK112.out 2).trans rfl; have hfz13_0 := bF_ BK112.out 0; have hfz13_1 := bF_ BK112.out 1; have hfz13_2 := bF_ BK112.out 2; have p113 : 0 ≤ (x2_1 : Int) := dT_ (by first | (with_reducible assumption) | assumption); have q113 : x2_1 < (l0_2.length : Int) := dT_ (by first | (with_reducible assumption) | assumption); obtain ⟨ad113, e113, hx113_0⟩ := Kd.at_int HR0_2.out x2_1 p113 q113; cases e113
        replace hx113_0 := (HB.out.cell (World.block_lt_of_cell? w _ hx113_0)).trans hx113_0; replace p113 := eq_true p113; replace q113 := eq_true q113; have p114 : 0 ≤ (x2_1 : Int) := dT_ (by first | (with_reducible assumption) | assumption); have q114 : x2_1 < (l0_2.length : Int) := dT_ (by first | (with_reducible assumption) | assumption); obtain ⟨ad114, e114, hx114_0⟩ := Kd.at_int HR0_2.out x2_1 p114 q114; obtain rfl : ad113 = ad114 := (by injection e114); replace hx114_0 := (HB.out.cell (World.block_lt_of_cell? w _ hx114_0)).trans hx114_0; replace p114 := eq_true p114; replace q114 := eq_true q114; have p115 : 0 ≤ ((rd l0_2 x2_1) : Int) := dT_ (by first | (with_reducible assumption) | assumption); have q115 : (rd l0_2 x2_1) < (l1.length : Int) := dT_ (by first | (with_reducible assumption) | assumption); obtain ⟨ad115, e115, hx115_0, hx115_1, hx115_2⟩ := at_T39 HR1.out (rd l0_2 x2_1) p115 q115; cases e115
        replace hx115_0 := (HB.out.cell (World.block_lt_of_cell? w _ hx115_0)).trans hx115_0; replace hx115_1 := (HB.out.cell (World.block_lt_of_cell? w _ hx115_1)).trans hx115_1; replace hx115_2 := (HB.out.cell (World.block_lt_of_cell? w _ hx115_2)).trans hx115_2; replace p115 := eq_true p115; replace q115 := eq_true q115; go_wp2; go_roundg k1
        case measure => have := HK1.out; omega
        case rel => exact ⟨((rd_T39 l1 (rd l0_2 x2_1)).f0), (wrap64 (x10_1 + 1)), (by first | rfl | (simp; done) | (simp [*]; done)), (by first | rfl | (simp; done) | (simp [*]; done)), H', ⟨by have := HK1.out; omega⟩, ⟨BK112.out⟩, ⟨HB.out⟩⟩
       rw [if_neg c12] at H; exact absurd H (by simp)
      rw [if_neg c11] at H; exact absurd H (by simp)
     rw [if_neg c8] at H; exact absurd H (by simp)
    rw [if_neg c7] at H; exact absurd H (by simp)
   rw [if_neg c6] at H; have c6b0 : decide (x10_1 < (l0_2.length : Int)) = false := eF_ c6; clear c6; obtain rfl := oI_ H; go_wp2; go_ret; exact ⟨by first | rfl | (simp [errW_none, errW_some] <;> rfl) | (simp [*, errW_none, errW_some] <;> rfl), HB.out⟩
end Go.Proofs.Ytpolojoeabmhdaa.A
namespace Go.Proofs.Ytpolojoeabmhdaa.A
open Go.RowKit Go.Proofs.YtpolojoeabmhdaaW.PrintWords Go.Proofs.YtpolojoeabmhdaaW.PrintLast Go.Proofs.YtpolojoeabmhdaaW.PrintMore
section
variable {P : Program} {ops : Array Oper} {Q : Exit → Act → World → Prop}
/-- A method's call on an interface value, in a plain region. -/
theorem goesIL_ {rest : List Oper} {oi : Oper} {a : Act} {w : World} (N : Option Tmp) (hd : oi.dst = N) (hg : oi.guard = none) {recv : Operand} {name : String} {ts : Array TypeId}
    (hop : oi.op = .call { callee := .invoke recv name, args := #[], argTypes := ts }) {T : TypeId} {v : Value} (hv : a.eval recv = .iface T v) {f : FuncId} {r : Value}
    (hm : (method (P.types.size + Made.depth) T v name).run P w = .ok (f, r) w) {fn : Func} (hf : P.funcs[f]? = some fn) (hname : (fn.name == "runtime.NumGoroutine") = false) (hb : fn.body.isSome = true)
    (h : Calls P f #[r] w fun e w' => ∃ v, e = .returned v ∧ wpList P ops Q rest (a.put N v) w') : wpList P ops Q (oi :: rest) a w := by
  refine wpList_plain hg fun K hK => ?_
  have he := enters_ hf hname hb #[r] w
  have hrun : (execOp a.eval oi).run P w = .ok (.enter f #[r]) w := by
    unfold execOp; simp [hop, resolve, invoke, callMethod, hv, hm, he]
  unfold Oper.wp; rw [hrun, Oper.upon_enter]; refine h.mono fun e w'' hh => ?_
  obtain ⟨v, rfl, hk⟩ := hh; subst hd; exact hK _ _ hk
/-- The same in a region that draws its order. -/
theorem goesI_ {oi : Oper} {N : Option Tmp} {a : Act} {w : World} {K : Act → World → Prop} {recv : Operand} {name : String} {ts : Array TypeId} {T : TypeId} {v : Value} {f : FuncId} {r : Value} {fn : Func}
    (hf : P.funcs[f]? = some fn) (hname : (fn.name == "runtime.NumGoroutine") = false) (hb : fn.body.isSome = true)
    (hw : Region.wanted oi (yielded ops a.tmps) = true) (hN : oi.dst = N) (hop : oi.op = .call { callee := .invoke recv name, args := #[], argTypes := ts }) (hv : a.eval recv = .iface T v)
    (hm : (method (P.types.size + Made.depth) T v name).run P w = .ok (f, r) w)
    (h : Calls P f #[r] w fun e w' => ∃ v, e = .returned v ∧ K (a.put N v) w') : if Region.wanted oi (yielded ops a.tmps) = true then Oper.wp P oi a w K Q else K (a.put N undef) w := by
  refine call_ f #[r] hw hN ?_ h; have he := enters_ hf hname hb #[r] w; unfold execOp; simp [hop, resolve, invoke, callMethod, hv, hm, he]
end
theorem least_ {p : Nat → Prop} (h : ∃ n, p n) : ∃ n, p n ∧ ∀ m, p m → n ≤ m := by
  obtain ⟨n, hn⟩ := h
  induction n using Nat.strongRecOn with
  | _ n ih =>
    by_cases hm : ∃ m, m < n ∧ p m
    · obtain ⟨m, hlt, hp⟩ := hm
      exact ih m hlt hp
    exact ⟨n, hn, fun m hp => Nat.le_of_not_lt fun hlt => hm ⟨m, hlt, hp⟩⟩
/-- A scope with one label, jumped back to: what holds at a jump, with a number that goes down. -/
theorem wp_scope_ghost {P : Program} {a : Act} {w : World} {Q : Exit → Act → World → Prop} {c rest : Code} (l : Nat) (J : Nat → Act → World → Prop) (hf : findLabel c l = some (Code.skip.seq rest))
    (pass : ∀ n a w, J n a w → rest.wp P (Exit.jump l (fun a' w' => ∃ m, m < n ∧ J m a' w') Q) a w)
    (first : (∀ n a w, J n a w → rest.wp P (Exit.jump l (fun a' w' => ∃ m, J m a' w') Q) a w) → c.wp P (Exit.jump l (fun a' w' => ∃ m, J m a' w') Q) a w) : (Code.scope c).wp P Q a w := by
  refine wp_scope_jumps l (fun a w => ∃ m, J m a w) (fun a w => @Classical.epsilon Nat ⟨0⟩ fun n => J n a w ∧ ∀ m, J m a w → n ≤ m) hf (first fun n a w h => ?_) ?_
  · refine wp_mono (pass n a w h) ?_
    intro e a' w' hq
    cases e with
    | goto l' => obtain ⟨h1, m, _, h2⟩ := hq; exact ⟨h1, m, h2⟩
    | _ => exact hq
  intro a w h; have e1 := @Classical.epsilon_spec Nat (fun n => J n a w ∧ ∀ m, J m a w → n ≤ m) (least_ h); refine wp_seq (wp_skip ?_); show rest.wp P _ a w
  refine wp_mono (pass _ a w e1.1) ?_; intro e a' w' hq
  cases e with
  | goto l' =>
    obtain ⟨h1, m, hm, h2⟩ := hq; have e2 := @Classical.epsilon_spec Nat (fun n => J n a' w' ∧ ∀ m, J m a' w' → n ≤ m) (least_ ⟨m, h2⟩); exact ⟨h1, ⟨m, h2⟩, Nat.lt_of_le_of_lt (e2.2 m h2) hm⟩
  | _ => exact hq
theorem m_plain_lines (v : Value) (w : World) : (method (Try.prog.types.size + Made.depth) 100 v "snowline/diffs.lines").run Try.prog w = .ok (150, v) w := by kernel_rfl
theorem m_plain_nodes (v : Value) (w : World) : (method (Try.prog.types.size + Made.depth) 100 v "snowline/diffs.nodes").run Try.prog w = .ok (151, v) w := by kernel_rfl
theorem m_use_lines (a : Addr) (w : World) : (method (Try.prog.types.size + Made.depth) 91 (.pointer (some a)) "snowline/diffs.lines").run Try.prog w = .ok (130, .pointer (some a)) w := by kernel_rfl
theorem m_use_nodes (a : Addr) (w : World) : (method (Try.prog.types.size + Made.depth) 91 (.pointer (some a)) "snowline/diffs.nodes").run Try.prog w = .ok (149, .pointer (some a)) w := by kernel_rfl
end Go.Proofs.Ytpolojoeabmhdaa.A
namespace Go.Proofs.Ytpolojoeabmhdaa.A
open Go.RowKit Go.Proofs.YtpolojoeabmhdaaW.PrintWords Go.Proofs.YtpolojoeabmhdaaW.PrintLast Go.Proofs.YtpolojoeabmhdaaW.PrintMore
attribute [local go_sem] max2_int min2_int max_two min_two max_three min_three max_four min_four
def bits_Mul64.f (a0 : Int) (a1 : Int) : Option (Int × Int) := some (IntKind.u64.wrap ((IntKind.u64.wrap ((IntKind.u64.wrap ((a0 / 4294967296) * (a1 / 4294967296))) + ((IntKind.u64.wrap ((IntKind.u64.wrap ((a0 / 4294967296) * (Go.bits .and .u64 a1 4294967295))) + ((IntKind.u64.wrap ((Go.bits .and .u64 a0 4294967295) * (Go.bits .and .u64 a1 4294967295))) / 4294967296))) / 4294967296))) + ((IntKind.u64.wrap ((Go.bits .and .u64 (IntKind.u64.wrap ((IntKind.u64.wrap ((a0 / 4294967296) * (Go.bits .and .u64 a1 4294967295))) + ((IntKind.u64.wrap ((Go.bits .and .u64 a0 4294967295) * (Go.bits .and .u64 a1 4294967295))) / 4294967296))) 4294967295) + (IntKind.u64.wrap ((Go.bits .and .u64 a0 4294967295) * (a1 / 4294967296))))) / 4294967296)), IntKind.u64.wrap (a0 * a1))
set_option maxHeartbeats 8000000 in
set_option maxRecDepth 100000 in
theorem bits_Mul64.calls (a0 : Int) (a1 : Int) (r1 : Int) (r2 : Int) (w : World) (h : bits_Mul64.f a0 a1 = some (r1, r2)) :
    Calls Try.prog 133 #[.int .u64 a0, .int .u64 a1] w fun e w' => e = .returned (.tuple #[.int .u64 r1, .int .u64 r2]) ∧ Drawn0 w w' := by
  have H : (some (IntKind.u64.wrap ((IntKind.u64.wrap ((IntKind.u64.wrap ((a0 / 4294967296) * (a1 / 4294967296))) + ((IntKind.u64.wrap ((IntKind.u64.wrap ((a0 / 4294967296) * (Go.bits .and .u64 a1 4294967295))) + ((IntKind.u64.wrap ((Go.bits .and .u64 a0 4294967295) * (Go.bits .and .u64 a1 4294967295))) / 4294967296))) / 4294967296))) + ((IntKind.u64.wrap ((Go.bits .and .u64 (IntKind.u64.wrap ((IntKind.u64.wrap ((a0 / 4294967296) * (Go.bits .and .u64 a1 4294967295))) + ((IntKind.u64.wrap ((Go.bits .and .u64 a0 4294967295) * (Go.bits .and .u64 a1 4294967295))) / 4294967296))) 4294967295) + (IntKind.u64.wrap ((Go.bits .and .u64 a0 4294967295) * (a1 / 4294967296))))) / 4294967296)), IntKind.u64.wrap (a0 * a1))) = some (r1, r2) := h; clear h; simp only [oJ_, pI_] at H; obtain ⟨rfl, rfl⟩ := H; go_enter Try.func133, Try.ntmps133; go_wp2; go_ret2; exact ⟨by first | rfl | (simp; done) | (simp [*]; done), by repeat (first | exact Drawn0.refl _ | apply Drawn0.step)⟩
def bits_Mul.f (a0 : Int) (a1 : Int) : Option (Int × Int) := (bits_Mul64.f a0 a1).bind fun bt110 => (some (bt110.1, bt110.2))
set_option maxHeartbeats 8000000 in
set_option maxRecDepth 100000 in
theorem bits_Mul.calls (a0 : Int) (a1 : Int) (r1 : Int) (r2 : Int) (w : World) (h : bits_Mul.f a0 a1 = some (r1, r2)) :
    Calls Try.prog 128 #[.int .u64 a0, .int .u64 a1] w fun e w' => e = .returned (.tuple #[.int .u64 r1, .int .u64 r2]) ∧ Drawn0 w w' := by
  have H : ((bits_Mul64.f a0 a1).bind fun bt110 => (some (bt110.1, bt110.2))) = some (r1, r2) := h; clear h; replace H := oS_.mp H; obtain ⟨⟨t110, t111⟩, A30, H⟩ := H; replace H : (some (t110, t111)) = some (r1, r2) := H; have A3 := Z_ A30; clear A30; simp only [oJ_, pI_] at H; obtain ⟨rfl, rfl⟩ := H; go_enter Try.func128, Try.ntmps128; go_wp2_with (first | ((with_reducible refine gate_callee (f := 133) rfl ?_); refine goesL_ (some 25) rfl rfl Try.func133 (by kernel_rfl) rfl #[.int .u64 a0, .int .u64 a1] rfl (by (try simp only [mT_, mC_, mN_]); first | done | rfl | (simp only [lD_, lT_]; rfl)) ?_; (with_reducible refine (bits_Mul64.calls a0 a1 t110 t111 _ A3.out).mono ?_); rintro e w' ⟨rfl, ⟨nd, rfl⟩⟩; refine ⟨_, rfl, ?_⟩)); go_ret2; exact ⟨by first | rfl | (simp; done) | (simp [*]; done), by repeat (first | exact Drawn0.refl _ | apply Drawn0.step)⟩
end Go.Proofs.Ytpolojoeabmhdaa.A
/- slices.Repeat of one number. -/
namespace Go.Proofs.Ytpolojoeabmhdaa.A
open Go.RowKit Go.Proofs.YtpolojoeabmhdaaW.PrintWords Go.Proofs.YtpolojoeabmhdaaW.PrintLast Go.Proofs.YtpolojoeabmhdaaW.PrintMore
theorem u64_wrap (n : Int) (h0 : 0 ≤ n) (h1 : n < 18446744073709551616) : IntKind.u64.wrap n = n := by
 have e : IntKind.u64.bits = 64 := rfl; have s : IntKind.u64.signed = false := rfl; unfold IntKind.wrap; simp only [e, s, Bool.false_and]; show n % 2 ^ 64 = n
 omega
theorem mask32 (n : Int) (h0 : 0 ≤ n) (h1 : n < 4294967296) : Go.bits .and .u64 n 4294967295 = n := by
 obtain ⟨m, rfl⟩ := Int.eq_ofNat_of_zero_le h0; unfold Go.bits; have e : IntKind.u64.bits = 64 := rfl
 have h2 : (BitVec.ofInt IntKind.u64.bits (m : Int) &&& BitVec.ofInt IntKind.u64.bits 4294967295).toNat = m := by
  rw [BitVec.toNat_and, BitVec.toNat_ofInt, BitVec.toNat_ofInt, e]; have e1 : ((m : Int) % ((2 ^ 64 : Nat) : Int)).toNat = m := by omega
  have e2 : ((4294967295 : Int) % ((2 ^ 64 : Nat) : Int)).toNat = 2 ^ 32 - 1 := by decide
  rw [e1, e2, Nat.and_two_pow_sub_one_eq_mod]; omega
 simp only [h2]; exact u64_wrap _ h0 (by omega)
theorem bits_Mul_one (n : Int) (h0 : 0 ≤ n) (h1 : n ≤ 65536) : bits_Mul.f 1 n = some (0, n) := by
 unfold bits_Mul.f bits_Mul64.f; have e1 : (1 : Int) / 4294967296 = 0 := by decide
 have e2 : n / 4294967296 = 0 := by omega
 have e3 : (n % 4294967296) = n := by omega
 rw [e1, e2, mask32 1 (by decide) (by decide), mask32 n h0 (by omega)]; simp only [Int.zero_mul, Int.mul_zero, Int.one_mul, Int.zero_add, Int.add_zero]; rw [u64_wrap 0 (by decide) (by decide), u64_wrap n h0 (by omega)]; simp only [e2]; have z : Go.bits .and .u64 0 4294967295 = 0 := mask32 0 (by decide) (by decide); have e0 : (0 : Int) / 4294967296 = 0 := by decide
 simp [u64_wrap 0 (by decide) (by decide), z, e0]
theorem fill_step {v : Value} {n m : Nat} (cur : List Value) (h : ∀ j, j < n → cur[j]? = some v) (hl : n + m ≤ cur.length) :
  (∀ j, j < n + m → (splice cur n (List.replicate m v))[j]? = some v) ∧ (splice cur n (List.replicate m v)).length = cur.length := by
 unfold splice; refine ⟨fun j hj => ?_, by simp; omega⟩; rcases Nat.lt_or_ge j n with h1 | h1
 ·rw [List.getElem?_append_left (by simp; omega), List.getElem?_take_of_lt h1]
  exact h j h1
 rw [List.getElem?_append_right (by simp; omega), lT_, Nat.min_eq_left (by omega), List.getElem?_append_left (by simp; omega), List.getElem?_replicate, if_pos (by omega)]
def slices_Repeat_int_int.f (l0 : List Int) (a1 : Int) : Option (List Int) :=
 match l0 with
 | [x] => if 0 ≤ a1 then (if a1 ≤ 65536 then some (List.replicate a1.toNat x) else none) else none
 | _ => none
set_option maxHeartbeats 1000000 in
set_option maxRecDepth 100000 in
theorem slices_Repeat_int_int.calls (A0 : Option Addr) (c0 : Nat) (l0 : List Int) (a1 : Int) (r : List Int) (w : World) (hr0 : Kd.C (Kd.int .i64) w A0 l0.length l0) (hc0 : l0.length ≤ c0) (h : slices_Repeat_int_int.f l0 a1 = some r) :
  Calls Try.prog 112 #[.slice A0 l0.length c0, .int .i64 a1] w fun e w' => ∃ v0_ : Value, e = .returned (v0_) ∧ Kd.R (Kd.int .i64) 3 w' w.heap.size (fun _ => True) v0_ r ∧ Below w.heap.size w w' := by
 match l0, hr0, hc0, h with
 | [], _, _, h => exact absurd h (by simp [slices_Repeat_int_int.f])
 | _ :: _ :: _, _, _, h => exact absurd h (by simp [slices_Repeat_int_int.f])
 | [x], hr0, hc0, h =>
  simp only [slices_Repeat_int_int.f] at h; by_cases h0 : 0 ≤ a1
  ·rw [if_pos h0] at h
   by_cases h1 : a1 ≤ 65536
   ·rw [if_pos h1] at h
    obtain rfl := oI_ h; clear h; have HMul := Z_ (bits_Mul_one a1 h0 h1); have q0 : decide (a1 < 0) = false := eF_ (by omega); have q1 : decide (a1 > 9223372036854775807) = false := eF_ (by omega); have q2 : IntKind.u64.wrap a1 = a1 := u64_wrap a1 h0 (by omega); have q3 : IntKind.i64.wrap a1 = a1 := by rw [IntKind.wrap_i64]; omega
    have HR0 := Z_ hr0; obtain ⟨ad, e1, hx⟩ := Kd.at_int hr0 0 (by omega) (by simp); rw [show (0 : Int).toNat = 0 from rfl, Addr.add_zero'] at hx; have HX := Z_ (show w.cell? ad = some (.int .i64 x) from hx); cases e1
    have H0 := Z_ h0; have H1 := Z_ h1; clear hr0 hx; show Calls Try.prog 112 #[.slice (some ad) 1 c0, .int .i64 a1] w _
    by_cases hz : a1 = 0
    ·have HZ := Z_ hz
     clear hz; go_enter Try.func112, Try.ntmps112; go_wp2_with (first | ((with_reducible refine gate_callee (f := 128) rfl ?_); refine goesL_ (some 18) rfl rfl Try.func128 (by kernel_rfl) rfl #[.int .u64 1, .int .u64 a1] rfl (by (try simp only [mT_, mC_, mN_]); first | done | rfl) ?_; (with_reducible refine (bits_Mul.calls 1 a1 0 a1 _ HMul.out).mono ?_); rintro e w' ⟨rfl, ⟨nd, rfl⟩⟩; refine ⟨_, rfl, ?_⟩) | ((with_reducible refine gate_dst (N := 30) rfl ?_); refine Kd.R_make (Kd.int .i64) (w0 := w) w.heap.size 3 rfl (N := 30) rfl 29 _ _ rfl a1 rfl rfl Try.underlying29 (.int .i64 0) 8 info3 rfl (by decide) (by omega) 0 (ok := fun _ => True) (okp := fun _ => True) rfl (fun _ hk => hk) trivial H0.out (by have := H1.out; omega) (pB_ (Below.refl _ _) _) (nR_ _) ?_; intro v1 w1 hown hb hg hat; rw [show List.replicate a1.toNat (0 : Int) = [] from by rw [HZ.out]; rfl] at hown; (obtain ⟨A1, c1, rfl⟩ := own_slice (Kd.own_of_R hown)); have HO := Z_ hown; have HB := Z_ hb; clear hown hb hg hat) | ((with_reducible refine gate_dst (N := 33) rfl ?_); refine Kd.R_copy (0 : Int) w.heap.size rfl (.tmp 31) (.tmp 32) 29 29 3 rfl Try.underlying29 (by rfl) _ _ [x] (some ad) 1 c0 (fun _ => True) rfl rfl HO.out (cB_ HR0.out HB.out) HB.out HB.out.size ?_; intro w2 ho2 hb2 hg2; clear HO HB; have HO := Z_ ho2; have HB := Z_ hb2; clear ho2 hb2 hg2; rw [show ((min 1 ([] : List Int).length : Nat) : Int) = 0 from rfl])); go_loopg [8] 0 (fun kq v8 w' => v8 = .int .i64 0 ∧ Aside0 ((Kd.int .i64).R 3 w' w.heap.size (fun _ => True) (.slice A1 0 c1) ([] : List Int)) ∧ Aside0 (Below w.heap.size w w'))
     case atStart => exact ⟨rfl, HO, HB⟩
     case round =>
      obtain ⟨rfl, HO, HB⟩ := hrel; go_wp2; go_ret; exact ⟨_, rfl, by rw [HZ.out]; exact HO.out, HB.out⟩
    have HZ := Z_ hz; clear hz; go_enter Try.func112, Try.ntmps112; go_wp2_with (first | ((with_reducible refine gate_callee (f := 128) rfl ?_); refine goesL_ (some 18) rfl rfl Try.func128 (by kernel_rfl) rfl #[.int .u64 1, .int .u64 a1] rfl (by (try simp only [mT_, mC_, mN_]); first | done | rfl) ?_; (with_reducible refine (bits_Mul.calls 1 a1 0 a1 _ HMul.out).mono ?_); rintro e w' ⟨rfl, ⟨nd, rfl⟩⟩; refine ⟨_, rfl, ?_⟩) | ((with_reducible refine gate_dst (N := 30) rfl ?_); refine Kd.R_make (Kd.int .i64) (w0 := w) w.heap.size 3 rfl (N := 30) rfl 29 _ _ rfl a1 rfl rfl Try.underlying29 (.int .i64 0) 8 info3 rfl (by decide) (by omega) 0 (ok := fun _ => True) (okp := fun _ => True) rfl (fun _ hk => hk) trivial H0.out (by have := H1.out; omega) (pB_ (Below.refl _ _) _) (nR_ _) ?_; intro v1 w1 hown hb hg hat; rcases (Kd.own_of_R hown).2 with ⟨_, hx0⟩ | ⟨g, cap, cur, hv, hbg, hh, hnc, hcm, hcs, htake⟩; (exact absurd hx0 (by rw [List.length_replicate]; have := HZ.out; have := H0.out; omega)); rw [List.length_replicate] at hv hnc htake; subst hv; (have HG := Z_ hbg); (have HH := Z_ (show w1.heap[g]? = some (.cells cur.toList.toArray 3 (0, 0)) from hh)); (have HN := Z_ (show cap ≤ maxLen ∧ a1.toNat ≤ cap ∧ cur.toList.length = cap from ⟨hcm, hnc, by rw [Array.length_toList, hcs, Nat.mul_one]⟩)); (have HB := Z_ hb); clear hown hb hg hat hbg hh hnc hcm hcs htake; (generalize cur.toList = cu at HH HN); clear cur) | ((with_reducible refine gate_dst (N := 33) rfl ?_); go_must (refine wpList_copy_splice rfl (.tmp 31) (.tmp 32) 29 29 rfl 3 Try.underlying29 (by rfl) _ _ a1.toNat cap 1 c0 rfl rfl g 0 cu 3 HH.out [.int .i64 x] (by have := HZ.out; have := H0.out; exact (Nat.min_eq_left (a := 1) (by omega)).symm) (fun _ => ⟨rfl, ad, rfl, fun j v hj => ?_⟩) ?_ ?_ w.heap.size w HB.out HG.out ?_); (match j, hj with | 0, hj => (rw [Addr.add_zero']; exact (HB.out.cell (World.block_lt_of_cell? w _ HX.out)).trans (HX.out.trans hj)) | _ + 1, hj => exact absurd hj (by simp)); (have := HN.out; have := HZ.out; have := H0.out; simp only [List.length_cons, List.length_nil]; omega); (intro v hv; rcases List.mem_singleton.1 hv with rfl; rfl); intro w2 hh2 hb2; clear HH HB; have HH := Z_ hh2.out; have HB := Z_ hb2; clear hh2 hb2; rw [show goInt ([Value.int .i64 x].length) = .int .i64 ((1 : Nat) : Int) from rfl])); have HF := Z_ (fill_step (v := Value.int .i64 x) (n := 0) (m := 1) cu (fun j hj => absurd hj (by omega)) (by have := HN.out; have := HZ.out; have := H0.out; omega)); go_loopg [8] a1.toNat (fun kq v8 w' => ∃ (n : Nat) (cur : List Value), v8 = .int .i64 (n : Int) ∧ Aside0 (1 ≤ n ∧ (kq + n = a1.toNat + 1 ∧ n ≤ a1.toNat) ∧ cur.length = cap ∧ ∀ j, j < n → cur[j]? = some (Value.int .i64 x)) ∧ Aside0 (w'.heap[g]? = some (.cells cur.toArray 3 (0, 0))) ∧ Aside0 (Below w.heap.size w w'))
    case atStart => exact ⟨1, _, rfl, ⟨by omega, ⟨by omega, by have := HZ.out; have := H0.out; omega⟩, HF.out.2.trans HN.out.2.2, HF.out.1⟩, HH, HB⟩
    case round =>
     obtain ⟨n, cu2, rfl, HI, HH, HB⟩ := hrel; by_cases hlt : n < a1.toNat
     ·have hl2 : (n : Int) < ((a1.toNat : Nat) : Int) := by omega
      have hn1 := HN.out.1; have hn2 := HN.out.2.1; go_wp2; have f1 : (n : Int) ≤ max a1 0 := by omega
      have f2 : ¬ cap = n := by omega
      have f3 : (n : Int) ≤ (cap : Int) := by omega
      have f4 : n ≤ a1.toNat := by omega
      have f5 : n ≤ cap := by omega
      have hcl := HI.out.2.2.1; have hI4 := HI.out.2.2.2; obtain ⟨m, hm, hm1, hm2, hm3⟩ : ∃ m : Nat, m = Nat.min n (a1.toNat - n) ∧ m ≤ n ∧ m ≤ a1.toNat - n ∧ 1 ≤ m := ⟨_, rfl, Nat.min_le_left _ _, Nat.min_le_right _ _, Nat.le_min.2 ⟨HI.out.1, by omega⟩⟩; have HS := Z_ (fill_step (v := Value.int .i64 x) (n := n) (m := m) cu2 hI4 (by omega)); have HH' := Z_ (bD_ HH.out); have HB' := Z_ (fD_ HB.out); have g1 := Z_ (show (List.replicate m (Value.int .i64 x)).length = Nat.min n (a1.toNat - n) by rw [List.length_replicate, hm])
      have g2 := Z_ (show ∀ (W : World), W.heap[g]? = some (.cells cu2.toArray 3 (0, 0)) → ∀ j v, (List.replicate m (Value.int .i64 x))[j]? = some v → W.cell? ((⟨g, 0, none⟩ : Addr).add j) = some v from fun W hW j v hj => by
       rw [List.getElem?_replicate] at hj; split at hj
       ·rename_i hjm
        rw [add_plain, cell_of_row _ g j _ 3 (0, 0) hW]; have := hI4 j (Nat.lt_of_lt_of_le hjm hm1); rw [List.getElem?_toArray]; exact this.trans hj
       cases hj)
      have g3 := Z_ (show n + (List.replicate m (Value.int .i64 x)).length ≤ cu2.length by rw [List.length_replicate]; omega); have g4 := Z_ (show ∀ v ∈ List.replicate m (Value.int .i64 x), v.oneCell' = true from fun v hv => by rcases List.eq_of_mem_replicate hv with rfl; rfl); clear hI4 hm; have f6 : ∀ t : Nat, goInt t = .int .i64 (t : Int) := fun _ => rfl
      have f7 : IntKind.i64.wrap ((n : Int) + (m : Int)) = ((n + m : Nat) : Int) := by rw [IntKind.wrap_i64]; have := H1.out; omega
      go_region_law (refine step_copy_splice (by rfl) (.tmp 41) (.tmp 44) 29 29 (by rfl) 3 Try.underlying29 (by rfl) (some ⟨g, n, none⟩) (some ⟨g, 0, none⟩) (a1.toNat - n) (cap - n) n cap (by simp [Act.eval, Act.put, f2]) (by simp [Act.eval, Act.put, f2]) g n cu2 3 HH'.out (List.replicate m (.int .i64 x)) g1.out (fun _ => ⟨rfl, _, rfl, g2.out _ HH'.out⟩) g3.out g4.out w.heap.size w HB'.out HG.out ?_; intro w4 hh4 hb4; rw [List.length_replicate, f6]); go_wp2; have hk := HI.out.2.1; go_roundg (gk - m)
      case measure => omega
      case rel => exact ⟨n + m, _, (by rw [Int.natCast_add]), ⟨by omega, ⟨by omega, by omega⟩, HS.out.2.trans hcl, HS.out.1⟩, ⟨hh4.out⟩, ⟨hb4⟩⟩
     have hl2 : ¬ (n : Int) < ((a1.toNat : Nat) : Int) := by omega
     go_wp2; go_ret; have hn : n = a1.toNat := by have := HI.out.2.1; omega
     have hnc := HN.out.2.1; subst hn; have hcl := HI.out.2.2.1; have hmx := HN.out.1
     exact ⟨_, rfl, Kd.R_of_own ⟨by simp [encs], .inr ⟨g, cap, _, by rw [List.length_replicate]; rfl, HG.out, HH.out, by rw [List.length_replicate]; omega, hmx, by simp [hcl], by
      rw [List.length_replicate, Nat.mul_one]; apply List.ext_getElem?; intro j; rcases Nat.lt_or_ge j a1.toNat with hj | hj
      ·rw [List.getElem?_take_of_lt hj]
       have := HI.out.2.2.2 j hj; simp [encs, this, hj]
      rw [List.getElem?_eq_none (by simp; omega), List.getElem?_eq_none (by simp [encs]; omega)]⟩⟩ (fun _ _ => trivial), HB.out⟩
   rw [if_neg h1] at h; cases h
  rw [if_neg h0] at h; cases h
end Go.Proofs.Ytpolojoeabmhdaa.A
