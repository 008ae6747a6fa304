/- grow over a net as it stands: its two methods, and what grow answers. -/
import Derived.Test.YtpolojoeabmhdaaHGrow0
namespace Go.Proofs.Ytpolojoeabmhdaa.A
open Go.RowKit Go.Proofs.YtpolojoeabmhdaaW.PrintWords Go.Proofs.YtpolojoeabmhdaaW.PrintLast Go.Proofs.YtpolojoeabmhdaaW.PrintMore
set_option linter.unusedVariables false
set_option linter.unusedSimpArgs false
set_option maxHeartbeats 1000000 in
theorem plain_nodes.calls (n : Int) (A : Option Addr) (m c : Nat) (w : World) :
    Calls Try.prog 151 #[.agg #[.int .i64 n, .slice A m c]] w fun e w' => e = .returned (.int .i64 n) ∧ Below w.heap.size w w' := by
  have hu100 := Try.underlying100
  have hu24 := Try.underlying24
  go_enter Try.func151, Try.ntmps151
  go_wp2
  go_ret
  exact ⟨rfl, below_alloc (Below.refl _ _) _⟩
set_option maxHeartbeats 1000000 in
theorem plain_lines.calls (n : Int) (A : Option Addr) (m c : Nat) (w : World) :
    Calls Try.prog 150 #[.agg #[.int .i64 n, .slice A m c]] w fun e w' => e = .returned (.slice A m c) ∧ Below w.heap.size w w' := by
  have hu100 := Try.underlying100
  have hu24 := Try.underlying24
  go_enter Try.func150, Try.ntmps150
  go_wp2
  go_ret
  exact ⟨rfl, below_alloc (Below.refl _ _) _⟩
theorem graph_plain {w : World} {a0_0 : Int} {A0_1 : Option Addr} {c0_1 : Nat} {l0_1 : List S39} (hr0_1 : Kd.C k39 w A0_1 l0_1.length l0_1) (hc0_1 : l0_1.length ≤ c0_1) : Graph w 100 (.agg #[.int .i64 a0_0, .slice A0_1 l0_1.length c0_1]) a0_0 l0_1 :=
  ⟨150, 151, _, _, _, _, fun W => m_plain_lines _ W, fun W => m_plain_nodes _ W, ⟨Try.func150, by kernel_rfl, rfl⟩, ⟨Try.func151, by kernel_rfl, rfl⟩,
    fun W hW => (plain_lines.calls _ _ _ _ W).mono fun e W' h => ⟨A0_1, c0_1, h.1, hc0_1, Kd.C_below (Kd.C_below hr0_1 hW) h.2, h.2⟩,
    fun W hW => (plain_nodes.calls _ _ _ _ W).mono fun e W' h => h⟩
theorem diffs_grow.calls (k : Nat) (a0_0 : Int) (A0_1 : Option Addr) (c0_1 : Nat) (l0_1 : List (S39)) (A1 : Option Addr) (c1 : Nat) (l1 : List Int) (r1 : List Int) (r2 : List Bool) (r3 : List Int) (r4 : Int) (w : World) (hr0_1 : Kd.C k39 w A0_1 l0_1.length l0_1) (hc0_1 : l0_1.length ≤ c0_1) (hr1 : Kd.C (Kd.int .i64) w A1 l1.length l1) (hc1 : l1.length ≤ c1) (h : diffs_grow.f k a0_0 l0_1 l1 = some (r1, r2, r3, r4)) :
    Calls Try.prog 82 #[.iface 100 (.agg #[.int .i64 a0_0, .slice A0_1 l0_1.length c0_1]), .slice A1 l1.length c1] w fun e w' => ∃ v0_ v1_ v2_ : Value, e = .returned (.tuple #[.agg #[v0_, v1_, v2_], .int .i64 r4]) ∧ Kd.R (Kd.int .i64) 3 w' w.heap.size (fun k_ => some k_ ≠ (v2_ : Value).ownBlock) v0_ r1 ∧ Kd.R Kd.bool 4 w' w.heap.size (fun _ => True) v1_ r2 ∧ Kd.R (Kd.int .i64) 3 w' w.heap.size (fun k_ => some k_ ≠ (v0_ : Value).ownBlock) v2_ r3 ∧ Below w.heap.size w w' :=
  diffs_grow.any k 100 _ a0_0 l0_1 A1 c1 l1 r1 r2 r3 r4 w (graph_plain hr0_1 hc0_1) hr1 hc1 h
end Go.Proofs.Ytpolojoeabmhdaa.A
