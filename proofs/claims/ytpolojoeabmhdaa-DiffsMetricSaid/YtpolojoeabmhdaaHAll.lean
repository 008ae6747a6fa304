/- indices and holds: the two literals that hold a boxed value; slices.ContainsFunc over differences. -/
import Derived.Test.YtpolojoeabmhdaaHCf
namespace Go.Proofs.Ytpolojoeabmhdaa.A
open Go.RowKit Go.Proofs.YtpolojoeabmhdaaW.PrintWords Go.Proofs.YtpolojoeabmhdaaW.PrintLast Go.Proofs.YtpolojoeabmhdaaW.PrintMore
set_option linter.unusedVariables false
set_option linter.unusedSimpArgs false
def v39 (x : S39) : Value := .agg #[.int .i64 x.f0, .int .i64 x.f1, .int .i64 x.f2]

set_option maxHeartbeats 1000000 in
theorem lit117 (gb : Nat) (n0 : Int) (A : Option Addr) (m c : Nat) (x : Int) (W : World) (hb0 : W.heap[gb]? = some (.cells #[.int .i64 n0, .slice A m c] 24 (0, 0))) (hm : m ≤ 9223372036854775807) :
  Calls Try.prog 117 (#[.int .i64 x] ++ #[.pointer (some ⟨gb, 0, none⟩)]) W fun e W' => e = .returned (.bool (!in_ x 0 ((m : Int) - 1))) ∧ Below W.heap.size W W' := by
 have hin := Aside0.mk (in_f x 0 ((m : Int) - 1))
 have h1 : W.cell? ⟨gb, 1, none⟩ = some (.slice A m c) := (blk_cell hb0 1).trans rfl
 have h1' : W.cell? ⟨gb, 0 + 1, none⟩ = some (.slice A m c) := h1
 clear hb0
 have HB := Aside0.mk (Below.refl W.heap.size W)
 show Calls Try.prog 117 #[.int .i64 x, .pointer (some ⟨gb, 0, none⟩)] W _
 go_enter Try.func117, Try.ntmps117
 go_wp2_with ((with_reducible refine gate_callee (f := 75) rfl ?_); refine goesL_ (some 9) rfl rfl Try.func75 (by kernel_rfl) rfl #[.int .i64 x, .int .i64 0, .int .i64 ((m : Int) - 1)] rfl (by (try simp only [List.map_toArray, List.map_cons, List.map_nil]); first | done | rfl) ?_; (with_reducible refine (diffs_in.calls x 0 ((m : Int) - 1) _ _ hin.out).mono ?_); rintro e w1 ⟨rfl, hd⟩; have hb := hd.below; clear hd; refine ⟨_, rfl, ?_⟩)
 go_ret
 exact ⟨rfl, hb⟩

def diffs_indices.f (a0_0 : Int) (l0_1 : List (S39)) (l1 : List Int) : Option (Bool) := some (l1.all fun x => in_ x 0 ((l0_1.length : Int) - 1))
set_option maxHeartbeats 1000000 in
theorem diffs_indices.calls (a0_0 : Int) (A0_1 : Option Addr) (c0_1 : Nat) (l0_1 : List (S39)) (A1 : Option Addr) (c1 : Nat) (l1 : List Int) (r : Bool) (w : World) (hr0_1 : Kd.C k39 w A0_1 l0_1.length l0_1) (hc0_1 : l0_1.length ≤ c0_1) (hr1 : Kd.C (Kd.int .i64) w A1 l1.length l1) (hc1 : l1.length ≤ c1) (h : diffs_indices.f a0_0 l0_1 l1 = some r) :
  Calls Try.prog 90 #[.agg #[.int .i64 a0_0, .slice A0_1 l0_1.length c0_1], .slice A1 l1.length c1] w fun e w' => e = .returned (.bool r) ∧ Below w.heap.size w w' := by
 obtain rfl := Option.some.inj h
 clear h
 have hm : l0_1.length ≤ 9223372036854775807 := by
  have := hr0_1.2.1
  omega
 have HM := Aside0.mk hm
 have HR1 := Aside0.mk hr1
 have HC1 := Aside0.mk hc1
 have HB := Aside0.mk (Below.refl w.heap.size w)
 clear hr0_1 hc0_1 hr1 hc1 hm
 go_enter Try.func90, Try.ntmps90
 go_wp2_with (first | ((with_reducible refine gate_dst (N := 2) rfl ?_); refine box_event ?hg (N := 2) ?hd (cs := #[.int .i64 a0_0, .slice A0_1 l0_1.length c0_1]) (t := 24) ?hr ?_; (case hd => rfl); (case hg => rfl); (case hr => first | (go_simp; done) | (go_simp; rfl)); intro gb hg w5 hbox hb; have n0_ := Aside0.mk (below_step HB.out hb); clear HB; have HB := n0_; have BK := Aside0.mk hbox; clear n0_ hb hbox hg) | (go_at_call 57; refine (contains_any (fun x => !in_ x 0 ((l0_1.length : Int) - 1)) 117 #[.pointer (some ⟨gb, 0, none⟩)] Try.f117 _ _ l1 _ (Kd.C_below HR1.out HB.out) HC1.out ⟨Try.func117, by kernel_rfl, rfl⟩ ⟨fun x W hW => lit117 gb a0_0 _ _ _ x W (blk_below BK.out hW) HM.out⟩).mono ?_; rintro e w7 ⟨rfl, hb⟩) | ((with_reducible refine gate_callee (f := 57) rfl ?_); refine goesL_ (some 7) rfl rfl Try.func57 (by kernel_rfl) rfl #[.slice A1 l1.length c1, .func (.func 117) #[] #[.pointer (some ⟨gb, 0, none⟩)]] rfl (by (try simp only [List.map_toArray, List.map_cons, List.map_nil]); first | done | rfl) ?_; refine (contains_any (fun x => !in_ x 0 ((l0_1.length : Int) - 1)) 117 #[.pointer (some ⟨gb, 0, none⟩)] Try.f117 _ _ l1 _ (Kd.C_below HR1.out HB.out) HC1.out ⟨Try.func117, by kernel_rfl, rfl⟩ ⟨fun x W hW => lit117 gb a0_0 _ _ _ x W (blk_below BK.out hW) HM.out⟩).mono ?_; rintro e w7 ⟨rfl, hb⟩; refine ⟨_, rfl, ?_⟩))
 go_ret
 exact ⟨by congr 2; rw [List.not_any_eq_all_not]; simp, below_step HB.out hb⟩
def ixfD (p : S39 → Bool) : List S39 → Int → Int
 | [], _ => -1
 | x :: xs, i => if p x = true then i else ixfD p xs (i + 1)
theorem ixfD_any (p : S39 → Bool) : ∀ (l : List S39) (i : Int), 0 ≤ i → (decide (0 ≤ ixfD p l i)) = l.any p
 | [], i, _ => by simp [ixfD]
 | x :: xs, i, h => by
  unfold ixfD
  by_cases hp : p x = true
  ·rw [if_pos hp]; simp [hp, h]
  ·rw [if_neg hp, ixfD_any p xs (i + 1) (by omega)]; simp [hp]
set_option maxHeartbeats 1000000 in
set_option maxRecDepth 100000 in
theorem indexD_any (p : S39 → Bool) (fl : FuncId) (caps : Array Value) (gf : Func) (A0 : Option Addr) (c0 : Nat) (l0 : List S39) (w : World) (hr0 : Kd.C k39 w A0 l0.length l0) (hc0 : l0.length ≤ c0)
  (hf : Aside0 (Try.prog.funcs[fl]? = some gf ∧ (gf.name == "runtime.NumGoroutine") = false ∧ gf.body.isSome = true))
  (hp : Aside0 (∀ x ∈ l0, ∀ (W : World), Below w.heap.size w W → Calls Try.prog fl (#[v39 x] ++ caps) W fun e W' => e = .returned (.bool (p x)) ∧ Below W.heap.size W W')) :
  Calls Try.prog 129 #[.slice A0 l0.length c0, .func (.func fl) #[] caps] w fun e w' => e = .returned (.int .i64 (ixfD p l0 0)) ∧ Below w.heap.size w w' := by
 have HM := Aside0.mk hr0.2.1
 have HR0 := Aside0.mk hr0
 have HB := Aside0.mk (Below.refl w.heap.size w)
 clear hr0 hc0
 go_enter Try.func129, Try.ntmps129
 go_wp2
 go_loopg [8] l0.length (fun kq v8 w' => ∃ i : Int, v8 = .int .i64 i ∧ Aside0 (0 ≤ i ∧ (kq : Int) + i = l0.length ∧ ixfD p (l0.drop i.toNat) i = ixfD p l0 0) ∧ Aside0 (Below w.heap.size w w'))
 case atStart => exact ⟨0, rfl, ⟨by omega, by omega, by simp⟩, HB⟩
 case round =>
  obtain ⟨i, rfl, HI, HB⟩ := hrel
  have hM := HM.out
  by_cases hlt : i < (l0.length : Int)
  ·have h0 := HI.out.1
   have hk := HI.out.2.1
   obtain ⟨ad, e1, hx, hy, hz⟩ := at_T39 HR0.out i h0 hlt
   cases e1
   have hx1 := (HB.out.cell (World.block_lt_of_cell? w _ hx)).trans hx
   have hy1 := (HB.out.cell (World.block_lt_of_cell? w _ hy)).trans hy
   have hz1 := (HB.out.cell (World.block_lt_of_cell? w _ hz)).trans hz
   clear hx hy hz
   have HIN := Aside0.mk (show rd_T39 l0 i ∈ l0 by
    unfold rd_T39
    rw [List.getD_eq_getElem?_getD, List.getElem?_eq_getElem (by omega)]; exact List.getElem_mem _)
   have hstep : ixfD p (l0.drop i.toNat) i = if p (rd_T39 l0 i) = true then i else ixfD p (l0.drop (i + 1).toNat) (i + 1) := by
    have e2 : l0.drop i.toNat = rd_T39 l0 i :: l0.drop (i + 1).toNat := by
     rw [show (i + 1).toNat = i.toNat + 1 from by omega]
     rw [List.drop_eq_getElem_cons (by omega)]
     congr 1
     unfold rd_T39
     rw [List.getD_eq_getElem?_getD, List.getElem?_eq_getElem (by omega)]; rfl
    rw [e2]; rfl
   have HS := Aside0.mk hstep
   clear hstep
   have hw64 : i + 1 ≤ 9223372036854775807 := by omega
   by_cases hb : p (rd_T39 l0 i) = true
   ·have HP := Aside0.mk hb
    clear hb
    go_wp2_with (refine goesFL_ (some 16) rfl rfl rfl (x := .tmp 11) rfl (args := #[v39 (rd_T39 l0 i)]) (by (try simp only [List.map_toArray, List.map_cons, List.map_nil]); first | done | rfl) hf.out.1 hf.out.2.1 hf.out.2.2 ?_; refine (hp.out (rd_T39 l0 i) HIN.out _ HB.out).mono ?_; rintro e w1 ⟨rfl, hb1⟩; refine ⟨_, rfl, ?_⟩; rw [HP.out])
    go_ret
    exact ⟨by rw [← HI.out.2.2, HS.out, if_pos HP.out]; rfl, below_step HB.out hb1⟩
   ·have hb' : p (rd_T39 l0 i) = false := by simpa using hb
    have HP := Aside0.mk hb'
    clear hb hb'
    go_wp2_with (refine goesFL_ (some 16) rfl rfl rfl (x := .tmp 11) rfl (args := #[v39 (rd_T39 l0 i)]) (by (try simp only [List.map_toArray, List.map_cons, List.map_nil]); first | done | rfl) hf.out.1 hf.out.2.1 hf.out.2.2 ?_; refine (hp.out (rd_T39 l0 i) HIN.out _ HB.out).mono ?_; rintro e w1 ⟨rfl, hb1⟩; refine ⟨_, rfl, ?_⟩; rw [HP.out])
    go_roundg (gk - 1)
    case measure => omega
    case rel => exact ⟨i + 1, rfl, ⟨by omega, by omega, by rw [← HI.out.2.2, HS.out, if_neg (by rw [HP.out]; decide)]⟩, ⟨below_step HB.out hb1⟩⟩
  ·have h0 := HI.out.1
   have hk := HI.out.2.1
   go_wp2
   go_ret
   exact ⟨by rw [← HI.out.2.2, List.drop_eq_nil_of_le (by omega)]; rfl, HB.out⟩

set_option maxHeartbeats 1000000 in
/-- slices.ContainsFunc: whether some element is met by the function. -/
theorem containsD_any (p : S39 → Bool) (fl : FuncId) (caps : Array Value) (gf : Func) (A0 : Option Addr) (c0 : Nat) (l0 : List S39) (w : World) (hr0 : Kd.C k39 w A0 l0.length l0) (hc0 : l0.length ≤ c0)
  (hf : Aside0 (Try.prog.funcs[fl]? = some gf ∧ (gf.name == "runtime.NumGoroutine") = false ∧ gf.body.isSome = true))
  (hp : Aside0 (∀ x ∈ l0, ∀ (W : World), Below w.heap.size w W → Calls Try.prog fl (#[v39 x] ++ caps) W fun e W' => e = .returned (.bool (p x)) ∧ Below W.heap.size W W')) :
  Calls Try.prog 123 #[.slice A0 l0.length c0, .func (.func fl) #[] caps] w fun e w' => e = .returned (.bool (l0.any p)) ∧ Below w.heap.size w w' := by
 have HR0 := Aside0.mk hr0
 have HC0 := Aside0.mk hc0
 clear hr0 hc0
 go_enter Try.func123, Try.ntmps123
 go_wp2_with ((with_reducible refine gate_callee (f := 129) rfl ?_); refine goesL_ (some 7) rfl rfl Try.func129 (by kernel_rfl) rfl #[.slice A0 l0.length c0, .func (.func fl) #[] caps] rfl (by (try simp only [List.map_toArray, List.map_cons, List.map_nil]); first | done | rfl) ?_; (refine (indexD_any p fl caps gf _ _ l0 _ HR0.out HC0.out hf hp).mono ?_); rintro e w1 ⟨rfl, hb⟩; refine ⟨_, rfl, ?_⟩)
 go_ret
 exact ⟨by rw [← ixfD_any p l0 0 (by omega)]; rfl, hb⟩


set_option maxHeartbeats 4000000 in
theorem lit124 (gb : Nat) (l1 : List Int) (A : Option Addr) (c : Nat) (d : S39) (W : World) (hb0 : W.heap[gb]? = some (.cells #[.slice A l1.length c] 29 (0, 0))) (hr : Kd.C (Kd.int .i64) W A l1.length l1)
  (p0 : 0 ≤ d.f0) (q0 : d.f0 < l1.length) (p1 : 0 ≤ d.f1) (q1 : d.f1 < l1.length) (b0 : -9223372036854775808 ≤ rd l1 d.f1 - rd l1 d.f0) (b1 : rd l1 d.f1 - rd l1 d.f0 ≤ 9223372036854775807) :
  Calls Try.prog 124 (#[v39 d] ++ #[.pointer (some ⟨gb, 0, none⟩)]) W fun e W' => e = .returned (.bool (decide (rd l1 d.f1 - rd l1 d.f0 > d.f2))) ∧ Below W.heap.size W W' := by
 obtain ⟨d0, d1, d2⟩ := d
 have HR := Aside0.mk hr
 have HB := Aside0.mk (Below.refl W.heap.size W)
 have HG := Aside0.mk (blk_lt hb0)
 have BK := Aside0.mk hb0
 clear hb0 hr
 show Calls Try.prog 124 #[.agg #[.int .i64 d0, .int .i64 d1, .int .i64 d2], .pointer (some ⟨gb, 0, none⟩)] W _
 replace p0 : 0 ≤ d0 := p0
 replace p1 : 0 ≤ d1 := p1
 replace q0 : d0 < l1.length := q0
 replace q1 : d1 < l1.length := q1
 replace b0 : -9223372036854775808 ≤ rd l1 d1 - rd l1 d0 := b0
 replace b1 : rd l1 d1 - rd l1 d0 ≤ 9223372036854775807 := b1
 go_enter Try.func124, Try.ntmps124
 go_wp2_with (((with_reducible refine gate_dst (N := 2) rfl ?_); refine box_event ?hg (N := 2) ?hd (cs := #[.int .i64 d0, .int .i64 d1, .int .i64 d2]) (t := 39) ?hr ?_; (case hd => rfl); (case hg => rfl); (case hr => first | (go_simp; done) | (go_simp; rfl)); intro g2 hg w5 hbox hb; have HB1 := Aside0.mk hb; have BK2 := Aside0.mk hbox; have BK1 := Aside0.mk (blk_below BK.out hb); clear BK; have HR1 := Aside0.mk (Kd.C_below HR.out hb); clear HR; clear hb hbox hg))
 obtain ⟨ad0, e0, hx0⟩ := Kd.at_int HR1.out d0 p0 q0
 obtain ⟨ad1, e1, hx1⟩ := Kd.at_int HR1.out d1 p1 q1
 cases e0
 cases e1
 have hz0 : w5.cell? ⟨gb, 0, none⟩ = some (.slice (some ad0) l1.length c) := (blk_cell BK1.out 0).trans rfl
 have hy0 : w5.cell? ⟨g2, 0, none⟩ = some (.int .i64 d0) := (blk_cell BK2.out 0).trans rfl
 have hy1 : w5.cell? ⟨g2, 1, none⟩ = some (.int .i64 d1) := (blk_cell BK2.out 1).trans rfl
 have hy2 : w5.cell? ⟨g2, 2, none⟩ = some (.int .i64 d2) := (blk_cell BK2.out 2).trans rfl
 have hw : IntKind.i64.wrap (rd l1 d1 - rd l1 d0) = rd l1 d1 - rd l1 d0 := (by rw [IntKind.wrap_i64]; omega)
 go_quiet (fail)
 try go_wp2
 go_ret
 exact ⟨rfl, pw_below_drewN (below_step HB.out HB1.out) _⟩

def holdsOk (l1 : List Int) (d : S39) : Bool := decide (0 ≤ d.f0) && decide (d.f0 < (l1.length : Int)) && decide (0 ≤ d.f1) && decide (d.f1 < (l1.length : Int)) && decide (-9223372036854775808 ≤ rd l1 d.f1 - rd l1 d.f0) && decide (rd l1 d.f1 - rd l1 d.f0 ≤ 9223372036854775807)
def diffs_holds.f (a0_0 : Int) (l0_1 : List (S39)) (l1 : List Int) : Option (Bool) :=
 if l1.length = 0 then none else if rd l1 0 = 0 then (if l0_1.all (holdsOk l1) = true then some (l0_1.all fun d => decide (rd l1 d.f1 - rd l1 d.f0 ≤ d.f2)) else none) else some false
theorem holdsOk_iff {l1 : List Int} {d : S39} (h : holdsOk l1 d = true) : (0 ≤ d.f0 ∧ d.f0 < (l1.length : Int)) ∧ (0 ≤ d.f1 ∧ d.f1 < (l1.length : Int)) ∧ -9223372036854775808 ≤ rd l1 d.f1 - rd l1 d.f0 ∧ rd l1 d.f1 - rd l1 d.f0 ≤ 9223372036854775807 := by
 unfold holdsOk at h
 simp only [Bool.and_eq_true, decide_eq_true_eq] at h
 obtain ⟨⟨⟨⟨⟨h0, h1⟩, h2⟩, h3⟩, h4⟩, h5⟩ := h
 exact ⟨⟨h0, h1⟩, ⟨h2, h3⟩, h4, h5⟩
set_option maxHeartbeats 4000000 in
theorem diffs_holds.calls (a0_0 : Int) (A0_1 : Option Addr) (c0_1 : Nat) (l0_1 : List (S39)) (A1 : Option Addr) (c1 : Nat) (l1 : List Int) (r : Bool) (w : World) (hr0_1 : Kd.C k39 w A0_1 l0_1.length l0_1) (hc0_1 : l0_1.length ≤ c0_1) (hr1 : Kd.C (Kd.int .i64) w A1 l1.length l1) (hc1 : l1.length ≤ c1) (h : diffs_holds.f a0_0 l0_1 l1 = some r) :
  Calls Try.prog 105 #[.agg #[.int .i64 a0_0, .slice A0_1 l0_1.length c0_1], .slice A1 l1.length c1] w fun e w' => e = .returned (.bool r) ∧ Below w.heap.size w w' := by
 unfold diffs_holds.f at h
 by_cases hl : l1.length = 0
 ·rw [if_pos hl] at h
  exact absurd h (by simp)
 ·rw [if_neg hl] at h
  obtain ⟨ad, e1, hx⟩ := Kd.at_int hr1 0 (by omega) (by omega)
  rw [show (0 : Int).toNat = 0 from rfl, Addr.add_zero'] at hx
  have HX := Aside0.mk hx
  have qi : (0 < l1.length) = True := eq_true (by omega)
  cases e1
  have HR0 := Aside0.mk hr0_1
  have HC0 := Aside0.mk hc0_1
  have HR1 := Aside0.mk hr1
  have HC1 := Aside0.mk hc1
  have hl' : (0 : Int) < (l1.length : Int) := by omega
  have HB := Aside0.mk (Below.refl w.heap.size w)
  clear hr0_1 hc0_1 hr1 hc1 hl hx
  by_cases hz : rd l1 0 = 0
  ·rw [if_pos hz] at h
   have hzb : (rd l1 0 == 0) = true := beq_iff_eq.mpr hz
   by_cases ha : l0_1.all (holdsOk l1) = true
   ·rw [if_pos ha] at h
    obtain rfl := Option.some.inj h
    have HA := Aside0.mk (fun d hd => holdsOk_iff (List.all_eq_true.mp ha d hd))
    clear ha h hz
    go_enter Try.func105, Try.ntmps105
    go_wp2_with (first | ((with_reducible refine gate_dst (N := 2) rfl ?_); refine box_event ?hg (N := 2) ?hd (cs := #[.int .i64 a0_0, .slice A0_1 l0_1.length c0_1]) (t := 24) ?hr ?_; (case hd => rfl); (case hg => rfl); (case hr => first | (go_simp; done) | (go_simp; rfl)); intro g1 hg w5 hbox hb; have n0_ := Aside0.mk (below_step HB.out hb); clear HB; have HB := n0_; have BK := Aside0.mk hbox; clear n0_ hb hbox hg) | ((with_reducible refine gate_dst (N := 3) rfl ?_); refine box_event ?hg (N := 3) ?hd (cs := #[.slice (some ad) l1.length c1]) (t := 29) ?hr ?_; (case hd => rfl); (case hg => rfl); (case hr => first | (go_simp; done) | (go_simp; rfl)); intro g2 hg w6 hbox hb; have n0_ := Aside0.mk (below_step HB.out hb); clear HB; have HB := n0_; have BK1 := Aside0.mk (blk_below BK.out hb); have BK2 := Aside0.mk hbox; clear n0_ hb hbox hg BK; have hx0 := (HB.out.cell (World.block_lt_of_cell? w _ HX.out)).trans HX.out; have hz0 : w6.cell? ⟨g2, 0, none⟩ = some (.slice (some ad) l1.length c1) := (blk_cell BK2.out 0).trans rfl; have hz1 : w6.cell? ⟨g1, 1, none⟩ = some (.slice A0_1 l0_1.length c0_1) := (blk_cell BK1.out 1).trans rfl) | (go_at_call 123; refine (containsD_any (fun d => decide (rd l1 d.f1 - rd l1 d.f0 > d.f2)) 124 #[.pointer (some ⟨g2, 0, none⟩)] Try.f124 _ _ l0_1 _ (Kd.C_below HR0.out HB.out) HC0.out ⟨Try.func124, by kernel_rfl, rfl⟩ ⟨fun d hd W hW => lit124 g2 l1 _ _ d W (blk_below BK2.out hW) (Kd.C_below (Kd.C_below HR1.out HB.out) hW) (HA.out d hd).1.1 (HA.out d hd).1.2 (HA.out d hd).2.1.1 (HA.out d hd).2.1.2 (HA.out d hd).2.2.1 (HA.out d hd).2.2.2⟩).mono ?_; rintro e w7 ⟨rfl, hb⟩))
    go_ret
    exact ⟨congrArg (fun b => Ending.returned (Value.bool b)) (by rw [List.not_any_eq_all_not]; congr 1; funext d; rw [← decide_not]; exact decide_eq_decide.mpr Int.not_lt), below_step HB.out hb⟩
   ·rw [if_neg ha] at h
    exact absurd h (by simp)
  ·rw [if_neg hz] at h
   obtain rfl := Option.some.inj h
   have hzb : (rd l1 0 == 0) = false := beq_eq_false_iff_ne.mpr hz
   clear h hz
   go_enter Try.func105, Try.ntmps105
   go_wp2_with (first | ((with_reducible refine gate_dst (N := 2) rfl ?_); refine box_event ?hg (N := 2) ?hd (cs := #[.int .i64 a0_0, .slice A0_1 l0_1.length c0_1]) (t := 24) ?hr ?_; (case hd => rfl); (case hg => rfl); (case hr => first | (go_simp; done) | (go_simp; rfl)); intro g1 hg w5 hbox hb; have n0_ := Aside0.mk (below_step HB.out hb); clear HB; have HB := n0_; have BK := Aside0.mk hbox; clear n0_ hb hbox hg) | ((with_reducible refine gate_dst (N := 3) rfl ?_); refine box_event ?hg (N := 3) ?hd (cs := #[.slice (some ad) l1.length c1]) (t := 29) ?hr ?_; (case hd => rfl); (case hg => rfl); (case hr => first | (go_simp; done) | (go_simp; rfl)); intro g2 hg w6 hbox hb; have n0_ := Aside0.mk (below_step HB.out hb); clear HB; have HB := n0_; have BK1 := Aside0.mk (blk_below BK.out hb); have BK2 := Aside0.mk hbox; clear n0_ hb hbox hg BK; have hx0 := (HB.out.cell (World.block_lt_of_cell? w _ HX.out)).trans HX.out; have hz0 : w6.cell? ⟨g2, 0, none⟩ = some (.slice (some ad) l1.length c1) := (blk_cell BK2.out 0).trans rfl; have hz1 : w6.cell? ⟨g1, 1, none⟩ = some (.slice A0_1 l0_1.length c0_1) := (blk_cell BK1.out 1).trans rfl))
   go_ret
   exact ⟨rfl, HB.out⟩

end Go.Proofs.Ytpolojoeabmhdaa.A
