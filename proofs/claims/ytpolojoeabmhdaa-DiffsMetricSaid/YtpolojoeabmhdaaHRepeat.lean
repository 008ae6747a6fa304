/- slices.Repeat of one number. -/
import Derived.Test.YtpolojoeabmhdaaAf128
import Derived.WalkSpells
import Derived.BigRegion
import Derived.Laws.CopyOwn
import Derived.Deep.RegionLaw
namespace Go.Proofs.Ytpolojoeabmhdaa.A
open Go.RowKit Go.Proofs.YtpolojoeabmhdaaW.PrintWords Go.Proofs.YtpolojoeabmhdaaW.PrintLast Go.Proofs.YtpolojoeabmhdaaW.PrintMore
set_option linter.unusedVariables false
set_option linter.unusedSimpArgs false
theorem u64_wrap (n : Int) (h0 : 0 ≤ n) (h1 : n < 18446744073709551616) : IntKind.u64.wrap n = n := by
 have e : IntKind.u64.bits = 64 := rfl
 have s : IntKind.u64.signed = false := rfl
 unfold IntKind.wrap
 simp only [e, s, Bool.false_and]
 show n % 2 ^ 64 = n
 omega
theorem mask32 (n : Int) (h0 : 0 ≤ n) (h1 : n < 4294967296) : Go.bits .and .u64 n 4294967295 = n := by
 obtain ⟨m, rfl⟩ := Int.eq_ofNat_of_zero_le h0
 unfold Go.bits
 have e : IntKind.u64.bits = 64 := rfl
 have h2 : (BitVec.ofInt IntKind.u64.bits (m : Int) &&& BitVec.ofInt IntKind.u64.bits 4294967295).toNat = m := by
  rw [BitVec.toNat_and, BitVec.toNat_ofInt, BitVec.toNat_ofInt, e]
  have e1 : ((m : Int) % ((2 ^ 64 : Nat) : Int)).toNat = m := by omega
  have e2 : ((4294967295 : Int) % ((2 ^ 64 : Nat) : Int)).toNat = 2 ^ 32 - 1 := by decide
  rw [e1, e2, Nat.and_two_pow_sub_one_eq_mod]
  omega
 simp only [h2]
 exact u64_wrap _ h0 (by omega)
theorem bits_Mul_one (n : Int) (h0 : 0 ≤ n) (h1 : n ≤ 65536) : bits_Mul.f 1 n = some (0, n) := by
 unfold bits_Mul.f bits_Mul64.f
 have e1 : (1 : Int) / 4294967296 = 0 := by decide
 have e2 : n / 4294967296 = 0 := by omega
 have e3 : (n % 4294967296) = n := by omega
 rw [e1, e2, mask32 1 (by decide) (by decide), mask32 n h0 (by omega)]
 simp only [Int.zero_mul, Int.mul_zero, Int.one_mul, Int.zero_add, Int.add_zero]
 rw [u64_wrap 0 (by decide) (by decide), u64_wrap n h0 (by omega)]
 simp only [e2]
 have z : Go.bits .and .u64 0 4294967295 = 0 := mask32 0 (by decide) (by decide)
 have e0 : (0 : Int) / 4294967296 = 0 := by decide
 simp [u64_wrap 0 (by decide) (by decide), z, e0]

theorem fill_step {v : Value} {n m : Nat} (cur : List Value) (h : ∀ j, j < n → cur[j]? = some v) (hl : n + m ≤ cur.length) :
  (∀ j, j < n + m → (splice cur n (List.replicate m v))[j]? = some v) ∧ (splice cur n (List.replicate m v)).length = cur.length := by
 unfold splice
 refine ⟨fun j hj => ?_, by simp; omega⟩
 rcases Nat.lt_or_ge j n with h1 | h1
 ·rw [List.getElem?_append_left (by simp; omega), List.getElem?_take_of_lt h1]
  exact h j h1
 ·rw [List.getElem?_append_right (by simp; omega), List.length_take, Nat.min_eq_left (by omega), List.getElem?_append_left (by simp; omega), List.getElem?_replicate, if_pos (by omega)]
def slices_Repeat_int_int.f (l0 : List Int) (a1 : Int) : Option (List Int) :=
 match l0 with
 | [x] => if 0 ≤ a1 then (if a1 ≤ 65536 then some (List.replicate a1.toNat x) else none) else none
 | _ => none
set_option maxHeartbeats 1000000 in
set_option maxRecDepth 100000 in
theorem slices_Repeat_int_int.calls (A0 : Option Addr) (c0 : Nat) (l0 : List Int) (a1 : Int) (r : List Int) (w : World) (hr0 : Kd.C (Kd.int .i64) w A0 l0.length l0) (hc0 : l0.length ≤ c0) (h : slices_Repeat_int_int.f l0 a1 = some r) :
  Calls Try.prog 112 #[.slice A0 l0.length c0, .int .i64 a1] w fun e w' => ∃ v0_ : Value, e = .returned (v0_) ∧ Kd.R (Kd.int .i64) 3 w' w.heap.size (fun _ => True) v0_ r ∧ Below w.heap.size w w' := by
 match l0, hr0, hc0, h with
 | [], _, _, h => exact absurd h (by simp [slices_Repeat_int_int.f])
 | _ :: _ :: _, _, _, h => exact absurd h (by simp [slices_Repeat_int_int.f])
 | [x], hr0, hc0, h =>
  simp only [slices_Repeat_int_int.f] at h
  by_cases h0 : 0 ≤ a1
  ·rw [if_pos h0] at h
   by_cases h1 : a1 ≤ 65536
   ·rw [if_pos h1] at h
    obtain rfl := Option.some.inj h
    clear h
    have HMul := Aside0.mk (bits_Mul_one a1 h0 h1)
    have q0 : decide (a1 < 0) = false := decide_eq_false (by omega)
    have q1 : decide (a1 > 9223372036854775807) = false := decide_eq_false (by omega)
    have q2 : IntKind.u64.wrap a1 = a1 := u64_wrap a1 h0 (by omega)
    have q3 : IntKind.i64.wrap a1 = a1 := by rw [IntKind.wrap_i64]; omega
    have HR0 := Aside0.mk hr0
    obtain ⟨ad, e1, hx⟩ := Kd.at_int hr0 0 (by omega) (by simp)
    rw [show (0 : Int).toNat = 0 from rfl, Addr.add_zero'] at hx
    have HX := Aside0.mk (show w.cell? ad = some (.int .i64 x) from hx)
    cases e1
    have H0 := Aside0.mk h0
    have H1 := Aside0.mk h1
    clear hr0 hx
    show Calls Try.prog 112 #[.slice (some ad) 1 c0, .int .i64 a1] w _
    by_cases hz : a1 = 0
    ·have HZ := Aside0.mk hz
     clear hz
     go_enter Try.func112, Try.ntmps112
     go_wp2_with (first | ((with_reducible refine gate_callee (f := 128) rfl ?_); refine goesL_ (some 18) rfl rfl Try.func128 (by kernel_rfl) rfl #[.int .u64 1, .int .u64 a1] rfl (by (try simp only [List.map_toArray, List.map_cons, List.map_nil]); first | done | rfl) ?_; (with_reducible refine (bits_Mul.calls 1 a1 0 a1 _ HMul.out).mono ?_); rintro e w' ⟨rfl, ⟨nd, rfl⟩⟩; refine ⟨_, rfl, ?_⟩) | ((with_reducible refine gate_dst (N := 30) rfl ?_); refine Kd.R_make (Kd.int .i64) (w0 := w) w.heap.size 3 rfl (N := 30) rfl 29 _ _ rfl a1 rfl rfl Try.underlying29 (.int .i64 0) 8 info3 rfl (by decide) (by omega) 0 (ok := fun _ => True) (okp := fun _ => True) rfl (fun _ hk => hk) trivial H0.out (by have := H1.out; omega) (pw_below_drewN (Below.refl _ _) _) (Nat.le_refl _) ?_; intro v1 w1 hown hb hg hat; rw [show List.replicate a1.toNat (0 : Int) = [] from by rw [HZ.out]; rfl] at hown; (obtain ⟨A1, c1, rfl⟩ := own_slice (Kd.own_of_R hown)); have HO := Aside0.mk hown; have HB := Aside0.mk hb; clear hown hb hg hat) | ((with_reducible refine gate_dst (N := 33) rfl ?_); refine Kd.R_copy (0 : Int) w.heap.size rfl (.tmp 31) (.tmp 32) 29 29 3 rfl Try.underlying29 (by rfl) _ _ [x] (some ad) 1 c0 (fun _ => True) rfl rfl HO.out (Kd.C_below HR0.out HB.out) HB.out HB.out.size ?_; intro w2 ho2 hb2 hg2; clear HO HB; have HO := Aside0.mk ho2; have HB := Aside0.mk hb2; clear ho2 hb2 hg2; rw [show ((min 1 ([] : List Int).length : Nat) : Int) = 0 from rfl]))
     go_loopg [8] 0 (fun kq v8 w' => v8 = .int .i64 0 ∧ Aside0 ((Kd.int .i64).R 3 w' w.heap.size (fun _ => True) (.slice A1 0 c1) ([] : List Int)) ∧ Aside0 (Below w.heap.size w w'))
     case atStart => exact ⟨rfl, HO, HB⟩
     case round =>
      obtain ⟨rfl, HO, HB⟩ := hrel
      go_wp2
      go_ret
      exact ⟨_, rfl, by rw [HZ.out]; exact HO.out, HB.out⟩
    ·have HZ := Aside0.mk hz
     clear hz
     go_enter Try.func112, Try.ntmps112
     go_wp2_with (first | ((with_reducible refine gate_callee (f := 128) rfl ?_); refine goesL_ (some 18) rfl rfl Try.func128 (by kernel_rfl) rfl #[.int .u64 1, .int .u64 a1] rfl (by (try simp only [List.map_toArray, List.map_cons, List.map_nil]); first | done | rfl) ?_; (with_reducible refine (bits_Mul.calls 1 a1 0 a1 _ HMul.out).mono ?_); rintro e w' ⟨rfl, ⟨nd, rfl⟩⟩; refine ⟨_, rfl, ?_⟩) | ((with_reducible refine gate_dst (N := 30) rfl ?_); refine Kd.R_make (Kd.int .i64) (w0 := w) w.heap.size 3 rfl (N := 30) rfl 29 _ _ rfl a1 rfl rfl Try.underlying29 (.int .i64 0) 8 info3 rfl (by decide) (by omega) 0 (ok := fun _ => True) (okp := fun _ => True) rfl (fun _ hk => hk) trivial H0.out (by have := H1.out; omega) (pw_below_drewN (Below.refl _ _) _) (Nat.le_refl _) ?_; intro v1 w1 hown hb hg hat; rcases (Kd.own_of_R hown).2 with ⟨_, hx0⟩ | ⟨g, cap, cur, hv, hbg, hh, hnc, hcm, hcs, htake⟩; (exact absurd hx0 (by rw [List.length_replicate]; have := HZ.out; have := H0.out; omega)); rw [List.length_replicate] at hv hnc htake; subst hv; (have HG := Aside0.mk hbg); (have HH := Aside0.mk (show w1.heap[g]? = some (.cells cur.toList.toArray 3 (0, 0)) from hh)); (have HN := Aside0.mk (show cap ≤ maxLen ∧ a1.toNat ≤ cap ∧ cur.toList.length = cap from ⟨hcm, hnc, by rw [Array.length_toList, hcs, Nat.mul_one]⟩)); (have HB := Aside0.mk hb); clear hown hb hg hat hbg hh hnc hcm hcs htake; (generalize cur.toList = cu at HH HN); clear cur) | ((with_reducible refine gate_dst (N := 33) rfl ?_); go_must (refine wpList_copy_splice rfl (.tmp 31) (.tmp 32) 29 29 rfl 3 Try.underlying29 (by rfl) _ _ a1.toNat cap 1 c0 rfl rfl g 0 cu 3 HH.out [.int .i64 x] (by have := HZ.out; have := H0.out; exact (Nat.min_eq_left (a := 1) (by omega)).symm) (fun _ => ⟨rfl, ad, rfl, fun j v hj => ?_⟩) ?_ ?_ w.heap.size w HB.out HG.out ?_); (match j, hj with | 0, hj => (rw [Addr.add_zero']; exact (HB.out.cell (World.block_lt_of_cell? w _ HX.out)).trans (HX.out.trans hj)) | _ + 1, hj => exact absurd hj (by simp)); (have := HN.out; have := HZ.out; have := H0.out; simp only [List.length_cons, List.length_nil]; omega); (intro v hv; rcases List.mem_singleton.1 hv with rfl; rfl); intro w2 hh2 hb2; clear HH HB; have HH := Aside0.mk hh2.out; have HB := Aside0.mk hb2; clear hh2 hb2; rw [show goInt ([Value.int .i64 x].length) = .int .i64 ((1 : Nat) : Int) from rfl]))
     have HF := Aside0.mk (fill_step (v := Value.int .i64 x) (n := 0) (m := 1) cu (fun j hj => absurd hj (by omega)) (by have := HN.out; have := HZ.out; have := H0.out; omega))
     go_loopg [8] a1.toNat (fun kq v8 w' => ∃ (n : Nat) (cur : List Value), v8 = .int .i64 (n : Int) ∧ Aside0 (1 ≤ n ∧ (kq + n = a1.toNat + 1 ∧ n ≤ a1.toNat) ∧ cur.length = cap ∧ ∀ j, j < n → cur[j]? = some (Value.int .i64 x)) ∧ Aside0 (w'.heap[g]? = some (.cells cur.toArray 3 (0, 0))) ∧ Aside0 (Below w.heap.size w w'))
     case atStart => exact ⟨1, _, rfl, ⟨by omega, ⟨by omega, by have := HZ.out; have := H0.out; omega⟩, HF.out.2.trans HN.out.2.2, HF.out.1⟩, HH, HB⟩
     case round =>
      obtain ⟨n, cu2, rfl, HI, HH, HB⟩ := hrel
      by_cases hlt : n < a1.toNat
      ·have hl2 : (n : Int) < ((a1.toNat : Nat) : Int) := by omega
       have hn1 := HN.out.1
       have hn2 := HN.out.2.1
       go_wp2
       have f1 : (n : Int) ≤ max a1 0 := by omega
       have f2 : ¬ cap = n := by omega
       have f3 : (n : Int) ≤ (cap : Int) := by omega
       have f4 : n ≤ a1.toNat := by omega
       have f5 : n ≤ cap := by omega
       have hcl := HI.out.2.2.1
       have hI4 := HI.out.2.2.2
       obtain ⟨m, hm, hm1, hm2, hm3⟩ : ∃ m : Nat, m = Nat.min n (a1.toNat - n) ∧ m ≤ n ∧ m ≤ a1.toNat - n ∧ 1 ≤ m := ⟨_, rfl, Nat.min_le_left _ _, Nat.min_le_right _ _, Nat.le_min.2 ⟨HI.out.1, by omega⟩⟩
       have HS := Aside0.mk (fill_step (v := Value.int .i64 x) (n := n) (m := m) cu2 hI4 (by omega))
       have HH' := Aside0.mk (blk_drew HH.out)
       have HB' := Aside0.mk (below_drew1 HB.out)
       have g1 := Aside0.mk (show (List.replicate m (Value.int .i64 x)).length = Nat.min n (a1.toNat - n) by rw [List.length_replicate, hm])
       have g2 := Aside0.mk (show ∀ (W : World), W.heap[g]? = some (.cells cu2.toArray 3 (0, 0)) → ∀ j v, (List.replicate m (Value.int .i64 x))[j]? = some v → W.cell? ((⟨g, 0, none⟩ : Addr).add j) = some v from fun W hW j v hj => by
        rw [List.getElem?_replicate] at hj
        split at hj
        ·rename_i hjm
         rw [add_plain, cell_of_row _ g j _ 3 (0, 0) hW]
         have := hI4 j (Nat.lt_of_lt_of_le hjm hm1)
         rw [List.getElem?_toArray]
         exact this.trans hj
        ·cases hj)
       have g3 := Aside0.mk (show n + (List.replicate m (Value.int .i64 x)).length ≤ cu2.length by rw [List.length_replicate]; omega)
       have g4 := Aside0.mk (show ∀ v ∈ List.replicate m (Value.int .i64 x), v.oneCell' = true from fun v hv => by rcases List.eq_of_mem_replicate hv with rfl; rfl)
       clear hI4 hm
       have f6 : ∀ t : Nat, goInt t = .int .i64 (t : Int) := fun _ => rfl
       have f7 : IntKind.i64.wrap ((n : Int) + (m : Int)) = ((n + m : Nat) : Int) := by rw [IntKind.wrap_i64]; have := H1.out; omega
       go_region_law (refine step_copy_splice (by rfl) (.tmp 41) (.tmp 44) 29 29 (by rfl) 3 Try.underlying29 (by rfl) (some ⟨g, n, none⟩) (some ⟨g, 0, none⟩) (a1.toNat - n) (cap - n) n cap (by simp [Act.eval, Act.put, f2]) (by simp [Act.eval, Act.put, f2]) g n cu2 3 HH'.out (List.replicate m (.int .i64 x)) g1.out (fun _ => ⟨rfl, _, rfl, g2.out _ HH'.out⟩) g3.out g4.out w.heap.size w HB'.out HG.out ?_; intro w4 hh4 hb4; rw [List.length_replicate, f6])
       go_wp2
       have hk := HI.out.2.1
       go_roundg (gk - m)
       case measure => omega
       case rel => exact ⟨n + m, _, (by rw [Int.natCast_add]), ⟨by omega, ⟨by omega, by omega⟩, HS.out.2.trans hcl, HS.out.1⟩, ⟨hh4.out⟩, ⟨hb4⟩⟩
      ·have hl2 : ¬ (n : Int) < ((a1.toNat : Nat) : Int) := by omega
       go_wp2
       go_ret
       have hn : n = a1.toNat := by have := HI.out.2.1; omega
       have hnc := HN.out.2.1
       subst hn
       have hcl := HI.out.2.2.1
       have hmx := HN.out.1
       exact ⟨_, rfl, Kd.R_of_own ⟨by simp [encs], .inr ⟨g, cap, _, by rw [List.length_replicate]; rfl, HG.out, HH.out, by rw [List.length_replicate]; omega, hmx, by simp [hcl], by
        rw [List.length_replicate, Nat.mul_one]
        apply List.ext_getElem?
        intro j
        rcases Nat.lt_or_ge j a1.toNat with hj | hj
        ·rw [List.getElem?_take_of_lt hj]
         have := HI.out.2.2.2 j hj
         simp [encs, this, hj]
        ·rw [List.getElem?_eq_none (by simp; omega), List.getElem?_eq_none (by simp [encs]; omega)]⟩⟩ (fun _ _ => trivial), HB.out⟩
   ·rw [if_neg h1] at h; cases h
  ·rw [if_neg h0] at h; cases h
end Go.Proofs.Ytpolojoeabmhdaa.A
