import Derived.Test.YtpolojoeabmhdaaMZcoreb
import Derived.Test.YtpolojoeabmhdaaMZcored
import Derived.Test.YtpolojoeabmhdaaMZcoree
import Derived.Test.YtpolojoeabmhdaaMZcoref
import Derived.Test.YtpolojoeabmhdaaMZcoreg
import Derived.Test.YtpolojoeabmhdaaMZcoreh
set_option linter.unusedVariables false
set_option linter.unusedSimpArgs false
/- Numbers that fulfil a net; lists. -/
namespace Go.Proofs.Ytpolojoeabmhdaa.A
open Go.RowKit Go.Proofs.YtpolojoeabmhdaaW.PrintWords Go.Proofs.YtpolojoeabmhdaaW.PrintLast Go.Proofs.YtpolojoeabmhdaaW.PrintMore
theorem rd_cons (x : Int) (xs : List Int) (i : Int) (h : 0 ≤ i) : rd (x :: xs) (i + 1) = rd xs i := by
  unfold rd
  rw [show (i + 1).toNat = i.toNat + 1 from by omega]
  rfl
theorem rd_mem {l : List Int} {i : Int} (h0 : 0 ≤ i) (h1 : i < l.length) : rd l i ∈ l := by
  unfold rd
  rw [List.getD_eq_getElem?_getD, List.getElem?_eq_getElem (by omega)]; exact List.getElem_mem _
theorem mem_rd {l : List Int} {x : Int} (h : x ∈ l) : ∃ i : Int, 0 ≤ i ∧ i < l.length ∧ rd l i = x := by
  obtain ⟨i, hi, rfl⟩ := List.getElem_of_mem h
  refine ⟨i, by omega, by omega, ?_⟩
  unfold rd
  rw [List.getD_eq_getElem?_getD, Int.toNat_natCast, List.getElem?_eq_getElem hi]; rfl
theorem take_snoc {α : Type} (l : List α) (i : Nat) (h : i < l.length) : l.take (i + 1) = l.take i ++ [l[i]] := by
  rw [List.take_add_one, List.getElem?_eq_getElem h]; rfl
theorem chain_len (L : List S39) (la : List Int) : ∀ c v, (chain L la c v).length = c
  | 0, _ => rfl
  | c + 1, v => by simp [chain, chain_len L la c]
theorem edges_mem {n : Int} {D : List S39} (hE : EdgesOk n D) : ∀ d ∈ D, EdgeOk n d := fun d hd => by
  obtain ⟨i, hi, rfl⟩ := List.getElem_of_mem hd
  have := hE i (by omega) (by omega)
  unfold rd_T39 at this
  rw [List.getD_eq_getElem?_getD, Int.toNat_natCast, List.getElem?_eq_getElem hi] at this
  exact this
structure Asg (L : List S39) (x : Int → Int) : Prop where
  z : x 0 = 0
  p : Pot L x
def EC (n : Int) (x : List Int) (d : S39) : Prop := 0 ≤ d.f0 ∧ d.f0 < n ∧ 0 ≤ d.f1 ∧ d.f1 < n ∧ rd x d.f1 - rd x d.f0 ≤ d.f2
structure Ful (n : Int) (L : List S39) (x : List Int) : Prop where
  l : (x.length : Int) = n
  n0 : 0 < n
  z : rd x 0 = 0
  b : ∀ v, 0 ≤ v → v < n → -1099511627776 ≤ rd x v ∧ rd x v ≤ 1099511627776
  e : ∀ k, 0 ≤ k → k < (L.length : Int) → EC n x (rd_T39 L k)
theorem Ful.asg {n : Int} {L : List S39} {x : List Int} (h : Ful n L x) : Asg L (rd x) := ⟨h.z, fun k k0 k1 => (h.e k k0 k1).2.2.2.2⟩
section
variable {n : Nat} {D L : List S39}
theorem hmul (hV : Valid n D) : (n : Int) * D.length ≤ 1048576 := by
  have h1 := hV.n2
  have h2 := hV.l
  have := Int.mul_le_mul (a := (n : Int)) (b := D.length) (c := 256) (d := 4096) (by omega) (by omega) (by omega) (by omega)
  omega
theorem wk_bound {n : Int} {L : List S39} (hE : EdgesOk n L) : ∀ {u : Int} {l : List Int} {v W : Int}, Wk L u l v W → -(l.length * 1073741824) ≤ W ∧ W ≤ l.length * 1073741824
  | u, [], v, W, h => by
    obtain ⟨_, rfl⟩ := h
    simp
  | u, i :: is, v, W, h => by
    obtain ⟨⟨i0, i1⟩, _, h2⟩ := h
    have := wk_bound hE h2
    have hd := hE i i0 i1
    have := hd.e
    have := hd.f
    rw [List.length_cons]
    push_cast
    omega
theorem chain_len' (L : List S39) (la : List Int) (c : Nat) (v : Int) : (chain L la c v).length = c := chain_len L la c v
theorem solve_ful {L : List S39} (hn0 : 0 < n) (hn : n ≤ 256) (hE : EdgesOk n L) (hm : (n : Int) * L.length ≤ 1048576) (hs : Solv L) : ∃ (x : List Int) (s : Sg), Ev (fun k => diffs_solve.f k n L) (x, s.lo, s.ha, s.la, -1) ∧ Ful n L x := by
  obtain ⟨x, s, bad, h1, h2, h3, h4, h5⟩ := solve_ev hn0 (by omega) hE hm
  have ha : ∀ v, 0 ≤ v → v < (n : Int) → v ∈ allL n := fun v a b => mem_allL.2 ⟨a, b⟩
  have hb := (h2.bad_iff hE ha).2 hs
  subst hb
  obtain ⟨l1, l2⟩ := h4 rfl
  obtain ⟨y, hy⟩ := hs
  have hf := (h2.good hE hy).2
  have bd : ∀ v, 0 ≤ v → v < (n : Int) → -274877906944 ≤ rd s.lo v ∧ rd s.lo v ≤ 274877906944 := fun v v0 v1 => by
    obtain ⟨c, hc⟩ := h2.tree hE hf v0 v1 (h2.all_has ha v0 v1)
    have := wk_bound hE hc.walk
    rw [List.length_reverse, chain_len'] at this
    have := hc.few
    omega
  refine ⟨x, s, h3, by omega, by omega, ?_, fun v v0 v1 => ?_, fun k k0 k1 => ?_⟩
  · rw [l2 0 (by omega) (by omega)]; omega
  · rw [l2 v v0 v1]
    have := bd v v0 v1
    have := bd 0 (by omega) (by omega)
    omega
  · have he := hE k k0 k1
    have hp := h2.pot hE ha rfl k k0 k1
    refine ⟨he.a, he.b, he.c, he.g, ?_⟩
    rw [l2 _ he.c he.g, l2 _ he.a he.b]
    omega
structure NumOk (n : Int) (x : List Int) : Prop where
  l : (x.length : Int) = n
  b : ∀ v, 0 ≤ v → v < n → -1099511627776 ≤ rd x v ∧ rd x v ≤ 1099511627776
theorem Ful.num {n : Int} {L : List S39} {x : List Int} (h : Ful n L x) : NumOk n x := ⟨h.l, h.b⟩
theorem Ful.solv {m : Int} {x : List Int} (h : Ful m L x) : Solv L := ⟨_, h.asg.p⟩
end
end Go.Proofs.Ytpolojoeabmhdaa.A
namespace Go.Proofs.Ytpolojoeabmhdaa.A
open Go.RowKit Go.Proofs.YtpolojoeabmhdaaW.PrintWords Go.Proofs.YtpolojoeabmhdaaW.PrintLast Go.Proofs.YtpolojoeabmhdaaW.PrintMore
attribute [local go_sem] max2_int min2_int max_two min_two max_three min_three max_four min_four
def diffs_Solve.f (k : Nat) (a0_0 : Int) (l0_1 : List (S39)) : Option (List Int × Int) := (diffs_Check.f k a0_0 l0_1).bind fun t797 => (if t797 = 0 then ((diffs_solve.f k a0_0 l0_1).bind fun bt798 => (if bt798.2.2.2.2 ≥ 0 then (some (([] : List Int), 41)) else (some (bt798.1, 0)))) else (some (([] : List Int), t797)))
theorem diffs_Solve.mono : ∀ a0 a1 k, LeO (diffs_Solve.f k a0 a1) (diffs_Solve.f (k + 1) a0 a1) := by
 intro a0 a1 k; unfold diffs_Solve.f; repeat' first | (with_reducible first | exact diffs_Check.mono _ _ _ | exact diffs_solve.mono _ _ _ | exact LeO.refl _ | exact LeO.none _ | refine LeO.ite ?_ ?_ | refine LeO.bind ?_ (fun _ => ?_)) | exact diffs_Check.mono _ _ _ | exact diffs_solve.mono _ _ _ | exact LeO.none _ | refine LeO.ite ?_ ?_ | refine LeO.bind ?_ (fun _ => ?_)
set_option maxHeartbeats 8000000 in
set_option maxRecDepth 100000 in
theorem diffs_Solve.calls (k : Nat) (a0_0 : Int) (A0_1 : Option Addr) (c0_1 : Nat) (l0_1 : List (S39)) (r1 : List Int) (r2 : Int) (w : World) (hr0_1 : Kd.C k39 w A0_1 l0_1.length l0_1) (hc0_1 : l0_1.length ≤ c0_1) (h : diffs_Solve.f k a0_0 l0_1 = some (r1, r2)) :
  Calls Try.prog 39 #[.agg #[.int .i64 a0_0, .slice A0_1 l0_1.length c0_1]] w fun e w' => ∃ v0_ : Value, e = .returned (.tuple #[v0_, .int .i64 r2]) ∧ Kd.R (Kd.int .i64) 3 w' w.heap.size (fun _ => True) v0_ r1 ∧ Below w.heap.size w w' := by
 have hu24 := Try.underlying24; have hu88 := Try.underlying88; have HR0_1 := Z_ hr0_1; have HC0_1 := Z_ hc0_1; clear hr0_1 hc0_1; have HB := Z_ (Below.refl w.heap.size w); have H : ((diffs_Check.f k a0_0 l0_1).bind fun t797 => (if t797 = 0 then ((diffs_solve.f k a0_0 l0_1).bind fun bt798 => (if bt798.2.2.2.2 ≥ 0 then (some (([] : List Int), 41)) else (some (bt798.1, 0)))) else (some (([] : List Int), t797)))) = some (r1, r2) := h; clear h; replace H := oS_.mp H; obtain ⟨t797, A20, H⟩ := H; have A2 := Z_ A20; clear A20; have HF3 := Z_ H; clear H; go_enter Try.func39, Try.ntmps39; go_upto_if 11 with (first | ((with_reducible refine gate_dst (N := 1) rfl ?_); refine bX_ 1 #[.int .i64 a0_0, .slice A0_1 l0_1.length c0_1] 24 ?_; intro gb796 hg w4 hbox hb; have BK796 := Z_ (hbox); have GW796 := Z_ ((by rw [hg]; exact (fZ_ hB_) : w.heap.size ≤ gb796)); have GE796 := Z_ ((by rw [hg]; exact (fZ_ hB_) : w.heap.size ≤ gb796)); replace HB := Z_ (fS_ hB_ hb); clear hb hbox hg; obtain ⟨⟨hcz5_0, hcz5_1⟩, hfz5_0, hfz5_1⟩ := f2_ BK796.out) | ((with_reducible refine gate_callee (f := 29) rfl ?_); refine gL_ (some 9) Try.func29 #[.agg #[.int .i64 a0_0, .slice A0_1 l0_1.length c0_1]] ?_; (with_reducible refine (diffs_Check.calls k a0_0 _ _ l0_1 t797 _ ?side1 ?side2 A2.out).mono ?_); (case side1 => exact cS_ (cB_ HR0_1.out HB.out)); (case side2 => exact HC0_1.out); rintro e w6 ⟨rfl, hb⟩; refine ⟨_, rfl, ?_⟩; replace BK796 := Z_ (bB_ (g := gb796) (o := .cells #[.int .i64 a0_0, .slice A0_1 l0_1.length c0_1] 24 (0, 0)) (bR_ BK796.out) hb); replace HB := Z_ (fS_ hB_ hb); (try clear hb); (try clear hb2); (try clear hk); (try clear hi))); (try simp only [Act.put, sT_, sZ_, sS_])
 have H := HF3.out; clear HF3; by_cases c7 : t797 = 0
 ·rw [if_pos c7] at H
  obtain ⟨c7b0, c7b1⟩ := be_ c7; clear c7; (first | rw [c7b0] | (simp only [i64_w, i32_w]; rw [c7b0]) | skip)
  replace H := oS_.mp H; obtain ⟨⟨t798, t801, t804, t807, t810⟩, A80, H⟩ := H; have A8 := Z_ A80; clear A80; have HF9 := Z_ H; clear H; obtain ⟨⟨hcz10_0, hcz10_1⟩, hfz10_0, hfz10_1⟩ := f2_ BK796.out; go_upto_if 22 with (first | ((with_reducible refine gate_callee (f := 81) rfl ?_); refine gL_ (some 17) Try.func81 #[.iface 100 (.agg #[.int .i64 a0_0, .slice A0_1 l0_1.length c0_1])] ?_; (with_reducible refine (diffs_solve.calls k a0_0 _ _ l0_1 t798 t801 t804 t807 t810 _ ?side1 ?side2 A8.out).mono ?_); (case side1 => exact cS_ (cB_ HR0_1.out HB.out)); (case side2 => exact HC0_1.out); rintro e w11 ⟨v799, v802, v805, v808, rfl, ho0, ho1, ho2, ho3, hb⟩; refine ⟨_, rfl, ?_⟩; have HO800 := Z_ (rL_ ho0 (fZ_ hB_)); have HO803 := Z_ (rL_ ho1 (fZ_ hB_)); have HO806 := Z_ (rL_ ho2 (fZ_ hB_)); have HO809 := Z_ (rL_ ho3 (fZ_ hB_)); replace BK796 := Z_ (bB_ (g := gb796) (o := .cells #[.int .i64 a0_0, .slice A0_1 l0_1.length c0_1] 24 (0, 0)) (bR_ BK796.out) hb); replace HB := Z_ (fS_ hB_ hb); (try clear hb); (try clear hb2); (try clear hk); (try clear hi); (try clear ho0); (try clear ho1); (try clear ho2); (try clear ho3)) | ((with_reducible refine gate_dst (N := 6) rfl ?_); refine bX_ 6 #[.slice none 0 0, .slice none 0 0, .slice none 0 0] 88 ?_; intro gb811 hg w12 hbox hb; replace HO800 := Z_ (rB_ (rK_ HO800.out) hb); replace HO803 := Z_ (rB_ (rK_ HO803.out) hb); replace HO806 := Z_ (rB_ (rK_ HO806.out) hb); replace HO809 := Z_ (rB_ (rK_ HO809.out) hb); have BK811 := Z_ (hbox); have GW811 := Z_ ((by rw [hg]; exact (fZ_ hB_) : w.heap.size ≤ gb811)); have GE811 := Z_ ((by rw [hg]; exact (fZ_ hB_) : w.heap.size ≤ gb811)); replace HB := Z_ (fS_ hB_ hb); have NB796_811 := Z_ ((by rw [hg]; exact Nat.ne_of_lt (blk_lt (g := gb796) (o := .cells #[.int .i64 a0_0, .slice A0_1 l0_1.length c0_1] 24 (0, 0)) (bR_ BK796.out)) : gb796 ≠ gb811)); have NB811_796 := Z_ ((by rw [hg]; exact Nat.ne_of_gt (blk_lt (g := gb796) (o := .cells #[.int .i64 a0_0, .slice A0_1 l0_1.length c0_1] 24 (0, 0)) (bR_ BK796.out)) : gb811 ≠ gb796)); replace BK796 := Z_ (bB_ (g := gb796) (o := .cells #[.int .i64 a0_0, .slice A0_1 l0_1.length c0_1] 24 (0, 0)) (bR_ BK796.out) hb); clear hb hbox hg; obtain ⟨Ao13, co13, eo13⟩ := rS_ HO803.out; subst eo13; have hnb14 := NB811_796.out; have hnc14 := NB796_811.out; obtain ⟨⟨hcz15_0, hcz15_1, hcz15_2⟩, hfz15_0, hfz15_1, hfz15_2⟩ := f3_ BK811.out; obtain ⟨Ao16, co16, eo16⟩ := rS_ HO806.out; subst eo16; obtain ⟨Ao17, co17, eo17⟩ := rS_ HO809.out; subst eo17)); (try simp only [Act.put, sT_, sZ_, sS_])
  have H := HF9.out; clear HF9; by_cases c18 : t810 ≥ 0
  ·rw [if_pos c18] at H
   have c18b0 : decide (0 ≤ t810) = true := eT_ c18; clear c18; (first | rw [c18b0] | (simp only [i64_w, i32_w]; rw [c18b0]) | skip)
   simp only [oJ_, pI_] at H; obtain ⟨rfl, rfl⟩ := H; go_wp2; go_ret2; exact ⟨_, eW_, by first | exact Kd.R_nil _ _ _ _ _ | exact Kd.N_nil _ _ _ _ _ | exact Kd.V_nil _ _ _ _ _ | exact Kd.Q_nil _ _ _ _ _ | exact Kd.S_nil _ _ _ _ _, hB_⟩
  rw [if_neg c18] at H; have c18b0 : decide (0 ≤ t810) = false := eF_ c18; clear c18; (first | rw [c18b0] | (simp only [i64_w, i32_w]; rw [c18b0]) | skip)
  simp only [oJ_, pI_] at H; obtain ⟨rfl, rfl⟩ := H; go_wp2; go_ret2; exact ⟨_, eW_, by (with_reducible repeat (first | apply rN_ | apply rD_)); exact rM_ (rF_ (p := ⟨gb811, 2, none⟩) (rF_ (p := ⟨gb811, 1, none⟩) (rF_ (p := ⟨gb811, 0, none⟩) (Kd.R_types HO800.out BK811.out (by decide)) (fun _ hk => hk.2) (.slice Ao13 t801.length co13)) (fun _ hk => hk.2) (.slice Ao16 t804.length co16)) (fun _ hk => hk.2) (.slice Ao17 t807.length co17)) (fun _ hk => trivial), hB_⟩
 rw [if_neg c7] at H; obtain ⟨c7b0, c7b1⟩ := bn_ c7; (first | rw [c7b0] | (simp only [i64_w, i32_w]; rw [c7b0]) | skip)
 simp only [oJ_, pI_] at H; obtain ⟨rfl, rfl⟩ := H; go_wp2; go_ret2; exact ⟨_, eW_, by first | exact Kd.R_nil _ _ _ _ _ | exact Kd.N_nil _ _ _ _ _ | exact Kd.V_nil _ _ _ _ _ | exact Kd.Q_nil _ _ _ _ _ | exact Kd.S_nil _ _ _ _ _, hB_⟩
def diffs_numbers.f (a0 : Int) (l1 : List Int) : Option (Bool) := if (l1.length : Int) = a0 then ((cf122.f l1).bind fun t1126 => (some (!t1126))) else (some false)
set_option maxHeartbeats 8000000 in
set_option maxRecDepth 100000 in
theorem diffs_numbers.calls (a0 : Int) (A1 : Option Addr) (c1 : Nat) (l1 : List Int) (r : Bool) (w : World) (hr1 : Kd.C (Kd.int .i64) w A1 l1.length l1) (hc1 : l1.length ≤ c1) (h : diffs_numbers.f a0 l1 = some r) :
  Calls Try.prog 104 #[.int .i64 a0, .slice A1 l1.length c1] w fun e w' => e = .returned (.bool r) ∧ Below w.heap.size w w' := by
 have HR1 := Z_ hr1; have HC1 := Z_ hc1; clear hr1 hc1; have HB := Z_ (Below.refl w.heap.size w); have H : (if (l1.length : Int) = a0 then ((cf122.f l1).bind fun t1126 => (some (!t1126))) else (some false)) = some r := h; clear h; by_cases c3 : (l1.length : Int) = a0
 ·rw [if_pos c3] at H
  have c3b0 : ((l1.length : Int) == a0) = true := beq_iff_eq.mpr c3; have c3b1 : ((l1.length : Int) != a0) = false := bne_eq_false_iff_eq.mpr c3; clear c3; replace H := oS_.mp H; obtain ⟨t1126, A40, H⟩ := H; have A4 := Z_ A40; clear A40; obtain rfl := oI_ H; go_enter Try.func104, Try.ntmps104; go_wp2_with (first | (go_at_call 57; (with_reducible refine (cf122.calls _ _ l1 t1126 _ ?side1 ?side2 A4.out).mono ?_); (case side1 => exact cS_ HR1.out); (case side2 => exact HC1.out); rintro e w5 ⟨rfl, hb⟩; replace HB := Z_ (fS_ hB_ hb); (try clear hb); (try clear hb2); (try clear hk); (try clear hi))); go_ret; exact ⟨eW_, hB_⟩
 rw [if_neg c3] at H; have c3b0 : ((l1.length : Int) == a0) = false := beq_eq_false_iff_ne.mpr c3; have c3b1 : ((l1.length : Int) != a0) = true := bne_iff_ne.mpr c3; obtain rfl := oI_ H; go_enter Try.func104, Try.ntmps104; go_wp2; go_ret; exact ⟨eW_, hB_⟩
def diffs_Holds.f (k : Nat) (a0_0 : Int) (l0_1 : List (S39)) (l1 : List Int) : Option (Bool × Int) := (diffs_numbers.f a0_0 l1).bind fun t1175 => ((diffs_asked.f k a0_0 l0_1 (([t1175] : List Bool))).bind fun t1179 => (if t1179 = 0 then ((diffs_holds.f a0_0 l0_1 l1).bind fun t1180 => (some (t1180, 0))) else (some (false, t1179))))
theorem diffs_Holds.mono : ∀ a0 a1 a2 k, LeO (diffs_Holds.f k a0 a1 a2) (diffs_Holds.f (k + 1) a0 a1 a2) := by
 intro a0 a1 a2 k; unfold diffs_Holds.f; repeat' first | (with_reducible first | exact diffs_asked.mono _ _ _ _ | exact LeO.refl _ | exact LeO.none _ | refine LeO.ite ?_ ?_ | refine LeO.bind ?_ (fun _ => ?_)) | exact diffs_asked.mono _ _ _ _ | exact LeO.none _ | refine LeO.ite ?_ ?_ | refine LeO.bind ?_ (fun _ => ?_)
def diffs_Holds.T1 : Bool × List (List Nat × List Nat) := (true, [([], []), ([], []), ([1], [1]), ([], []), ([2, 3], [2, 3]), ([4], [4]), ([0, 5, 4], [0, 5]), ([6, 6, 0, 1, 2, 3, 4, 5, 6], [6])])
def diffs_Holds.B1 : List Nat := [0, 0, 2, 0, 14, 30, 63, 127]
theorem diffs_Holds.tab1 : rtab .any (opsOf Try.f56 1) = diffs_Holds.T1 := by kernel_rfl
theorem diffs_Holds.bits1 : waitsOk diffs_Holds.T1.2 diffs_Holds.B1 = true := by kernel_rfl
set_option maxHeartbeats 8000000 in
set_option maxRecDepth 100000 in
theorem diffs_Holds.calls (k : Nat) (a0_0 : Int) (A0_1 : Option Addr) (c0_1 : Nat) (l0_1 : List (S39)) (A1 : Option Addr) (c1 : Nat) (l1 : List Int) (r1 : Bool) (r2 : Int) (w : World) (hr0_1 : Kd.C k39 w A0_1 l0_1.length l0_1) (hc0_1 : l0_1.length ≤ c0_1) (hr1 : Kd.C (Kd.int .i64) w A1 l1.length l1) (hc1 : l1.length ≤ c1) (h : diffs_Holds.f k a0_0 l0_1 l1 = some (r1, r2)) :
  Calls Try.prog 56 #[.agg #[.int .i64 a0_0, .slice A0_1 l0_1.length c0_1], .slice A1 l1.length c1] w fun e w' => e = .returned (.tuple #[.bool r1, .int .i64 r2]) ∧ Below w.heap.size w w' := by
 have hu24 := Try.underlying24; have HR0_1 := Z_ hr0_1; have HC0_1 := Z_ hc0_1; clear hr0_1 hc0_1; have HR1 := Z_ hr1; have HC1 := Z_ hc1; clear hr1 hc1; have HB := Z_ (Below.refl w.heap.size w); have H : ((diffs_numbers.f a0_0 l1).bind fun t1175 => ((diffs_asked.f k a0_0 l0_1 (([t1175] : List Bool))).bind fun t1179 => (if t1179 = 0 then ((diffs_holds.f a0_0 l0_1 l1).bind fun t1180 => (some (t1180, 0))) else (some (false, t1179))))) = some (r1, r2) := h; clear h; replace H := oS_.mp H; obtain ⟨t1175, A30, H⟩ := H; have A3 := Z_ A30; clear A30; obtain ⟨y1176, hy1176⟩ : ∃ y_ : List Bool, y_ = (([t1175] : List Bool)) := ⟨_, rfl⟩; replace H : ((diffs_asked.f k a0_0 l0_1 y1176).bind fun t1179 => (if t1179 = 0 then ((diffs_holds.f a0_0 l0_1 l1).bind fun t1180 => (some (t1180, 0))) else (some (false, t1179)))) = some (r1, r2) := by first | (rw [hy1176]; with_reducible exact H) | (have H2_ := (oB_ _ _).symm.trans H; rw [hy1176]; with_reducible exact H2_) | (have H2_ := (oB_ _ _).symm.trans H; with_reducible exact H2_) | with_reducible exact H | (rw [hy1176]; exact H) | exact H
 have Ny1176 := Z_ hy1176; clear hy1176; replace H := oS_.mp H; obtain ⟨t1179, A40, H⟩ := H; have A4 := Z_ A40; clear A40; have HF5 := Z_ H; clear H; go_enter Try.func56, Try.ntmps56; try go_wp2_with (first | ((with_reducible refine gate_dst (N := 2) rfl ?_); refine bX_ 2 #[.int .i64 a0_0, .slice A0_1 l0_1.length c0_1] 24 ?_; intro gb1174 hg w6 hbox hb; have BK1174 := Z_ (hbox); have GW1174 := Z_ ((by rw [hg]; exact (fZ_ hB_) : w.heap.size ≤ gb1174)); have GE1174 := Z_ ((by rw [hg]; exact (fZ_ hB_) : w.heap.size ≤ gb1174)); replace HB := Z_ (fS_ hB_ hb); clear hb hbox hg))
 replace BK1174 := Z_ (bD_ BK1174.out); replace HB := Z_ (fD_ HB.out); refine start_ (n := 8) (S := fun w' => w'.cell? ⟨gb1174, 0, none⟩ = some (.int .i64 a0_0) ∧ w'.cell? ⟨gb1174, 1, none⟩ = some (.slice A0_1 l0_1.length c0_1)) (ds := []) #[false, false, false, false, false, false, false, false] (by kernel_rfl) rfl rfl ⟨(bC_ BK1174.out 0).trans rfl, (bC_ BK1174.out 1).trans rfl⟩ (fun hHeld => ?_); refine with_tabW diffs_Holds.tab1 diffs_Holds.bits1 (fun HT_ HW_ => ?_); generalize w6.drew = w7 at BK1174 HB hHeld ⊢; refine pP_ 1 8 ?_; refine pP_ 3 10 ?_; refine pT_ 0 7 ?_; refine pT_ 2 9 ?_; refine oN_ 4 (some 11) (fun K hK => ?_); refine gO_ Try.func104 #[.int .i64 a0_0, .slice A1 l1.length c1] ?_; with_reducible refine (diffs_numbers.calls a0_0 _ _ l1 t1175 _ ?side1 ?side2 A3.out).mono ?_
 (case side1 => exact cS_ (cB_ HR1.out HB.out))
 (case side2 => exact HC1.out)
 rintro e w8 ⟨rfl, hb⟩; refine ⟨_, rfl, ?_⟩; replace BK1174 := Z_ (bB_ (g := gb1174) (o := .cells #[.int .i64 a0_0, .slice A0_1 l0_1.length c0_1] 24 (0, 0)) (bR_ BK1174.out) hb); replace HB := Z_ (fS_ hB_ hb); (try clear hb)
 (try clear hb2)
 (try clear hk)
 (try clear hi)
 refine hK.out _ _ ⟨(bC_ BK1174.out 0).trans rfl, (bC_ BK1174.out 1).trans rfl⟩ (fun hHeld => ?_); clear hK K; refine nP_ 11 ?_; refine oN_ 5 (some 12) (fun K hK => ?_); refine Kd.R_lit_step Kd.bool _ 4 ?hg (N := 12) ?hd (xs := ([t1175] : List Bool)) (inner := [.bool t1175]) (ok := fun _ => True) (okp := fun _ => True) ?hr ?hp (fun _ hk => hk) trivial (Below.refl _ _) (nR_ _) (by simp) ?_; (case hd => rfl); (case hg => rfl); (case hr => first | (go_simp; done) | (go_simp; rfl)); (case hp => exact (Reps.one (show Kd.M Kd.bool _ _ _ t1175 [.bool t1175] from rfl) (Reps.none _ _))); intro v1177 w9 ho10 hb hg_ hnew_; clear hg_ hnew_; (first | rw [← Ny1176.out] at ho10 | (simp only [Int.reduceToNat] at ho10; rw [← Ny1176.out] at ho10))
 have HO1178 := Z_ (rL_ ho10 (fZ_ hB_)); replace BK1174 := Z_ (bB_ (g := gb1174) (o := .cells #[.int .i64 a0_0, .slice A0_1 l0_1.length c0_1] 24 (0, 0)) (bR_ BK1174.out) hb); replace HB := Z_ (fS_ hB_ hb); clear hb ho10; obtain ⟨Ao11, co11, eo11⟩ := rS_ HO1178.out; (first | subst eo11 | (injection eo11 with f1_ f2_ f3_; have f4_ := f1_.symm; have f5_ := f3_.symm; clear f1_ f2_ f3_; subst f4_; subst f5_))
 refine hK.out _ _ ⟨(bC_ BK1174.out 0).trans rfl, (bC_ BK1174.out 1).trans rfl⟩ (fun hHeld => ?_); clear hK K; refine nP_ 12 ?_; refine oN_ 6 (some 13) (fun K hK => ?_); refine gO_ Try.func77 #[.agg #[.int .i64 a0_0, .slice A0_1 l0_1.length c0_1], .slice Ao11 y1176.length co11] ?_; with_reducible refine (diffs_asked.calls k a0_0 _ _ l0_1 _ _ y1176 t1179 _ ?side1 ?side2 ?side3 ?side4 A4.out).mono ?_
 (case side1 => exact cS_ (cB_ HR0_1.out HB.out))
 (case side2 => exact HC0_1.out)
 (case side3 => repeat (first | exact (rR_ HO1178.out).2.2 | (with_reducible refine Kd.C_alloc ?_ _) | (with_reducible refine Kd.C_drewN ?_ _) | (with_reducible refine Kd.C_drew ?_)))
 (case side4 => exact (rR_ HO1178.out).2.1)
 rintro e w12 ⟨rfl, hb⟩; refine ⟨_, rfl, ?_⟩; replace HO1178 := Z_ (rB_ (rK_ HO1178.out) hb); replace BK1174 := Z_ (bB_ (g := gb1174) (o := .cells #[.int .i64 a0_0, .slice A0_1 l0_1.length c0_1] 24 (0, 0)) (bR_ BK1174.out) hb); replace HB := Z_ (fS_ hB_ hb); (try clear hb)
 (try clear hb2)
 (try clear hk)
 (try clear hi)
 refine hK.out _ _ ⟨(bC_ BK1174.out 0).trans rfl, (bC_ BK1174.out 1).trans rfl⟩ (fun hHeld => ?_); clear hK K; refine nP_ 13 ?_; refine pP_ 7 6 ?_; refine dN_ ?_; go_upto_if 15 with (fail); have H := HF5.out; clear HF5; by_cases c13 : t1179 = 0
 ·rw [if_pos c13] at H
  obtain ⟨c13b0, c13b1⟩ := be_ c13; clear c13; (first | rw [c13b0] | (simp only [i64_w, i32_w]; rw [c13b0]) | skip)
  replace H := oS_.mp H; obtain ⟨t1180, A140, H⟩ := H; have A14 := Z_ A140; clear A140; simp only [oJ_, pI_] at H; obtain ⟨rfl, rfl⟩ := H; obtain ⟨⟨hcz15_0, hcz15_1⟩, hfz15_0, hfz15_1⟩ := f2_ BK1174.out; go_wp2_with (first | ((with_reducible refine gate_callee (f := 105) rfl ?_); refine gL_ (some 19) Try.func105 #[.agg #[.int .i64 a0_0, .slice A0_1 l0_1.length c0_1], .slice A1 l1.length c1] ?_; (with_reducible refine (diffs_holds.calls a0_0 _ _ l0_1 _ _ l1 t1180 _ ?side1 ?side2 ?side3 ?side4 A14.out).mono ?_); (case side1 => exact cS_ (cB_ HR0_1.out HB.out)); (case side2 => exact HC0_1.out); (case side3 => exact cS_ (cB_ HR1.out HB.out)); (case side4 => exact HC1.out); rintro e w16 ⟨rfl, hb⟩; refine ⟨_, rfl, ?_⟩; replace HO1178 := Z_ (rB_ (rK_ HO1178.out) hb); replace BK1174 := Z_ (bB_ (g := gb1174) (o := .cells #[.int .i64 a0_0, .slice A0_1 l0_1.length c0_1] 24 (0, 0)) (bR_ BK1174.out) hb); replace HB := Z_ (fS_ hB_ hb); (try clear hb); (try clear hb2); (try clear hk); (try clear hi))); go_ret2; exact ⟨eW_, hB_⟩
 rw [if_neg c13] at H; obtain ⟨c13b0, c13b1⟩ := bn_ c13; (first | rw [c13b0] | (simp only [i64_w, i32_w]; rw [c13b0]) | skip)
 simp only [oJ_, pI_] at H; obtain ⟨rfl, rfl⟩ := H; go_wp2; go_ret2; exact ⟨eW_, hB_⟩
end Go.Proofs.Ytpolojoeabmhdaa.A
/- Holds, Solve: what they answer. -/
namespace Go.Proofs.Ytpolojoeabmhdaa.A
open Go.RowKit Go.Proofs.YtpolojoeabmhdaaW.PrintWords Go.Proofs.YtpolojoeabmhdaaW.PrintLast Go.Proofs.YtpolojoeabmhdaaW.PrintMore
theorem numbers_some (n : Int) (x : List Int) : ∃ b, diffs_numbers.f n x = some b ∧ (b = true ↔ NumOk n x) := by
  unfold diffs_numbers.f
  by_cases c : (x.length : Int) = n
  · rw [if_pos c]
    unfold cf122.f
    refine ⟨_, rfl, ?_⟩
    rw [Bool.not_eq_true', List.any_eq_false]
    constructor
    · intro h
      refine ⟨c, fun v v0 v1 => ?_⟩
      have := h (rd x v) (rd_mem v0 (by omega))
      simpa [in_] using this
    · intro h y hy
      obtain ⟨v, v0, v1, rfl⟩ := mem_rd hy
      have := h.b v v0 (by omega)
      simp [in_, this.1, this.2]
  · rw [if_neg c]
    exact ⟨false, rfl, fun h => (by cases h), fun h => absurd h.l c⟩
section
variable {n : Nat} {L : List S39}
theorem holds_some (hV : Valid n L) {x : List Int} (hx : NumOk n x) : ∃ b, diffs_holds.f n L x = some b ∧ (b = true ↔ Ful n L x) := by
  have hn1 := hV.n1
  have hl := hx.l
  have hE := edges_mem hV.e
  unfold diffs_holds.f
  rw [if_neg (by omega)]
  by_cases c : rd x 0 = 0
  · have hok : L.all (holdsOk x) = true := by
      rw [List.all_eq_true]
      intro d hd
      have he := hE d hd
      have b0 := hx.b _ he.a he.b
      have b1 := hx.b _ he.c he.g
      unfold holdsOk
      simp only [Bool.and_eq_true, decide_eq_true_eq]
      have h1 := he.a
      have h2 := he.b
      have h3 := he.c
      have h4 := he.g
      exact ⟨⟨⟨⟨⟨h1, by omega⟩, h3⟩, by omega⟩, by omega⟩, by omega⟩
    rw [if_pos c, if_pos hok]
    refine ⟨_, rfl, ?_⟩
    rw [List.all_eq_true]
    constructor
    · intro h
      refine ⟨hl, by omega, c, hx.b, fun k k0 k1 => ?_⟩
      have he := hV.e k k0 k1
      have hm : rd_T39 L k ∈ L := by
        unfold rd_T39
        rw [List.getD_eq_getElem?_getD, List.getElem?_eq_getElem (by omega)]; exact List.getElem_mem _
      exact ⟨he.a, he.b, he.c, he.g, by simpa using h _ hm⟩
    · intro h d hd
      obtain ⟨i, hi, rfl⟩ := List.getElem_of_mem hd
      have := (h.e i (by omega) (by omega)).2.2.2.2
      unfold rd_T39 at this
      rw [List.getD_eq_getElem?_getD, Int.toNat_natCast, List.getElem?_eq_getElem hi] at this
      exact decide_eq_true this
  · rw [if_neg c]
    exact ⟨false, rfl, fun h => (by cases h), fun h => absurd h.z c⟩
theorem holds_ev (hV : Valid n L) (x : List Int) : ∃ b e, Ev (fun k => diffs_Holds.f k n L x) (b, e) ∧ (b = true ↔ Ful n L x) ∧ (¬ NumOk n x → e = 1) ∧ (NumOk n x → e = 0) := by
  obtain ⟨p, p1, p2⟩ := numbers_some n x
  have hask := asked_ev n L [p] (by simp)
  rw [if_pos (validB_iff.2 hV)] at hask
  unfold diffs_Holds.f
  rw [p1]
  simp only [Option.bind_some]
  cases p with
  | false => exact ⟨false, 1, hask.bind (Ev.neg (by decide) (Ev.now _)), ⟨fun h => (by cases h), fun h => p2.2 h.num⟩, fun _ => rfl, fun h => absurd (p2.2 h) (by decide)⟩
  | true =>
    have hx := p2.1 rfl
    obtain ⟨b, b1, b2⟩ := holds_some hV hx
    rw [b1]
    exact ⟨b, 0, hask.bind (Ev.pos (by decide) (Ev.now _)), b2, fun h => absurd hx h, fun _ => rfl⟩
theorem holds_bad {m : Int} (hv : ¬ validB m L = true) (x : List Int) : Ev (fun k => diffs_Holds.f k m L x) (false, 40) := by
  obtain ⟨p, p1, p2⟩ := numbers_some m x
  have hask := asked_ev m L [p] (by simp)
  rw [if_neg hv] at hask
  unfold diffs_Holds.f
  rw [p1]
  simp only [Option.bind_some]
  exact hask.bind (Ev.neg (by decide) (Ev.now _))
theorem dsolve_ev (hV : Valid n L) : ∃ x e, Ev (fun k => diffs_Solve.f k n L) (x, e) ∧ (Solv L → e = 0 ∧ Ful n L x) ∧ (¬ Solv L → e = 41 ∧ x = []) := by
  have hn0 : 0 < n := by have := hV.n1; omega
  have hn : n ≤ 256 := by have := hV.n2; omega
  have hc := check_ev n L
  rw [if_pos (validB_iff.2 hV)] at hc
  unfold diffs_Solve.f
  by_cases hs : Solv L
  · obtain ⟨x, s, h1, h2⟩ := solve_ful hn0 hn hV.e (hmul hV) hs
    exact ⟨x, 0, hc.bind (Ev.pos rfl (h1.bind (Ev.neg (by simp) (Ev.now _)))), fun _ => ⟨rfl, h2⟩, fun h => absurd hs h⟩
  · obtain ⟨x, s, bad, h1, h2, h3, h4, h5⟩ := solve_ev hn0 (by omega) hV.e (hmul hV)
    have hb : ¬ bad = -1 := fun e => hs ((h2.bad_iff hV.e (fun v a b => mem_allL.2 ⟨a, b⟩)).1 e)
    exact ⟨[], 41, hc.bind (Ev.pos rfl (h3.bind (Ev.pos (by rcases h2.res with ⟨a, _⟩ | ⟨a, _⟩; exact absurd a hb; exact a) (Ev.now _)))), fun h => absurd h hs, fun _ => ⟨rfl, rfl⟩⟩
theorem dsolve_bad {m : Int} (hv : ¬ validB m L = true) : Ev (fun k => diffs_Solve.f k m L) ([], 40) := by
  have hc := check_ev m L
  rw [if_neg hv] at hc
  unfold diffs_Solve.f
  exact hc.bind (Ev.neg (by decide) (Ev.now _))
end
end Go.Proofs.Ytpolojoeabmhdaa.A
/- Rows of indices, walks, a list turned round. -/
namespace Go.Proofs.Ytpolojoeabmhdaa.A
open Go.RowKit Go.Proofs.YtpolojoeabmhdaaW.PrintWords Go.Proofs.YtpolojoeabmhdaaW.PrintLast Go.Proofs.YtpolojoeabmhdaaW.PrintMore
theorem rd_ext {l m : List Int} (h : l.length = m.length) (hr : ∀ v, 0 ≤ v → v < (l.length : Int) → rd l v = rd m v) : l = m := by
  refine List.ext_getElem h (fun i h1 h2 => ?_)
  have := hr i (by omega) (by omega)
  unfold rd at this
  rw [List.getD_eq_getElem?_getD, List.getD_eq_getElem?_getD, show ((i : Nat) : Int).toNat = i from by omega, List.getElem?_eq_getElem h1, List.getElem?_eq_getElem h2] at this
  exact this
theorem rd_reverse (l : List Int) {v : Int} (h0 : 0 ≤ v) (h1 : v < l.length) : rd l.reverse v = rd l (l.length - 1 - v) := by
  unfold rd
  rw [List.getD_eq_getElem?_getD, List.getD_eq_getElem?_getD, List.getElem?_reverse (by omega)]
  congr 2
  omega
theorem reverse_l0 (l : List Int) (hl : l.length ≤ 65536) : ∀ (q : Nat) (i : Int) (s : List Int), (l.length : Int) - 2 * i ≤ 2 * (q : Int) → 0 ≤ i → s.length = l.length → (∀ v, 0 ≤ v → v < (l.length : Int) → rd s v = if v < i ∨ (l.length : Int) - 1 - i < v then rd l (l.length - 1 - v) else rd l v) →
    Ev (fun k => slices_Reverse_int_int.l0 k s i (l.length - 1 - i)) l.reverse := by
  intro q
  have fin : ∀ (i : Int) (s : List Int), 0 ≤ i → ¬ i < (l.length : Int) - 1 - i → s.length = l.length → (∀ v, 0 ≤ v → v < (l.length : Int) → rd s v = if v < i ∨ (l.length : Int) - 1 - i < v then rd l (l.length - 1 - v) else rd l v) → s = l.reverse := by
    intro i s hi hc hs hz
    refine rd_ext (by rw [List.length_reverse]; exact hs) (fun v v0 v1 => ?_)
    rw [rd_reverse l v0 (by omega), hz v v0 (by omega)]
    split
    · rfl
    · rw [show (l.length : Int) - 1 - v = v from by omega]
  induction q with
  | zero =>
    intro i s hq hi hs hz
    rw [← fin i s hi (by omega) hs hz]
    exact Ev.step (f := fun _ => some s) (fun k => by rw [slices_Reverse_int_int.l0, if_neg (by omega)]) (Ev.now _)
  | succ q ih =>
    intro i s hq hi hs hz
    by_cases hc : i < (l.length : Int) - 1 - i
    case neg =>
      rw [← fin i s hi hc hs hz]
      exact Ev.step (f := fun _ => some s) (fun k => by rw [slices_Reverse_int_int.l0, if_neg (by omega)]) (Ev.now _)
    refine Ev.step (fun k => ?_) (ih (i + 1) ((s.set i.toNat (rd s (l.length - 1 - i))).set ((l.length : Int) - 1 - i).toNat (rd s i)) (by omega) (by omega) (by rw [List.length_set, List.length_set]; exact hs) (fun v v0 v1 => ?_))
    · rw [slices_Reverse_int_int.l0, if_pos hc, if_pos (by omega), if_pos (by omega), if_pos (by omega), if_pos (by omega), wrap_id (x := i + 1) (by omega) (by omega), wrap_id (x := (l.length : Int) - 1 - i - 1) (by omega) (by omega), show (l.length : Int) - 1 - i - 1 = (l.length : Int) - 1 - (i + 1) from by omega]
    · have ei : rd s i = rd l i := by rw [hz i hi (by omega), if_neg (by omega)]
      have ej : rd s ((l.length : Int) - 1 - i) = rd l ((l.length : Int) - 1 - i) := by rw [hz ((l.length : Int) - 1 - i) (by omega) (by omega), if_neg (by omega)]
      rw [rd_set _ _ _ _ (by omega) (by rw [List.length_set]; omega) v0, rd_set _ _ _ _ hi (by omega) v0, ei, ej, hz v v0 v1]
      by_cases e1 : v = (l.length : Int) - 1 - i
      · rw [if_pos e1, if_pos (by omega), show (l.length : Int) - 1 - v = i from by omega]
      · rw [if_neg e1]
        by_cases e2 : v = i
        · rw [if_pos e2, if_pos (by omega), e2]
        · rw [if_neg e2]
          by_cases e3 : v < i ∨ (l.length : Int) - 1 - i < v
          · rw [if_pos e3, if_pos (by omega)]
          · rw [if_neg e3, if_neg (by omega)]
theorem reverse_ev (l : List Int) (hl : l.length ≤ 65536) : Ev (fun k => slices_Reverse_int_int.f k l) l.reverse := by
  have := reverse_l0 l hl l.length 0 l (by omega) (by omega) rfl (fun v v0 v1 => by rw [if_neg (by omega)])
  unfold slices_Reverse_int_int.f
  rw [wrap_id (by omega) (by omega)]
  rw [Int.sub_zero] at this
  exact this
section
variable {n : Nat} {L : List S39}
def Idx (L : List S39) (l : List Int) : Prop := ∀ i, 0 ≤ i → i < (l.length : Int) → 0 ≤ rd l i ∧ rd l i < (L.length : Int)
theorem indices_iff {n : Int} {l : List Int} : ∃ b, diffs_indices.f n L l = some b ∧ (b = true ↔ Idx L l) := by
  refine ⟨_, rfl, ?_⟩
  rw [List.all_eq_true]
  constructor
  · intro h i i0 i1
    have := h (rd l i) (rd_mem i0 i1)
    simp [in_] at this
    omega
  · intro h x hx
    obtain ⟨i, i0, i1, rfl⟩ := mem_rd hx
    have := h i i0 i1
    simp [in_]
    omega
theorem walk_l0 (hE : EdgesOk n L) {l : List Int} (hi : Idx L l) (hl : l.length ≤ 17592186044416) (tt N : Int) : ∀ (q : Nat) (i at_ acc : Int), (q : Int) + i = l.length → 0 ≤ i → (l.length ≤ 65536 → -(i * 1073741824) ≤ acc ∧ acc ≤ i * 1073741824) →
    ∃ W b, Ev (fun k => diffs_walk.l0 k at_ tt acc l l.length i N L) (W, b) ∧ (b = true → ∃ W', Wk L at_ (l.drop i.toNat) tt W' ∧ (l.length ≤ 65536 → W' = W - acc)) ∧ (b = false → ∀ W', ¬ Wk L at_ (l.drop i.toNat) tt W') := by
  intro q
  induction q with
  | zero =>
    intro i at_ acc hq h0 h1
    rw [List.drop_eq_nil_of_le (by omega)]
    refine ⟨acc, (at_ == tt), Ev.step (f := fun _ => some (acc, (at_ == tt))) (fun k => by rw [diffs_walk.l0, if_neg (by omega)]) (Ev.now _), fun h => ⟨0, ⟨(beq_iff_eq.mp h).symm, rfl⟩, fun _ => by omega⟩, fun h W' hW => ?_⟩
    rw [hW.1] at h
    simp at h
  | succ q ih =>
    intro i at_ acc hq h0 h1
    have hlt : i < (l.length : Int) := by omega
    have hx := hi i h0 hlt
    have hd := hE _ hx.1 hx.2
    have d1 := hd.e
    have d2 := hd.f
    rw [drop_rd l i h0 hlt]
    by_cases hc : (rd_T39 L (rd l i)).f0 = at_
    · have hacc : l.length ≤ 65536 → wrap64 (acc + (rd_T39 L (rd l i)).f2) = acc + (rd_T39 L (rd l i)).f2 := fun hs => by
        have := h1 hs
        exact wrap_id (by omega) (by omega)
      obtain ⟨W, b, g1, g2, g3⟩ := ih (i + 1) (rd_T39 L (rd l i)).f1 (wrap64 (acc + (rd_T39 L (rd l i)).f2)) (by omega) (by omega) (fun hs => by rw [hacc hs]; have := h1 hs; omega)
      refine ⟨W, b, Ev.step (fun k => ?_) g1, fun hb => ?_, fun hb W' hW => g3 hb _ hW.2.2⟩
      · rw [diffs_walk.l0, if_pos hlt, if_pos h0, if_pos hlt, if_pos hx.1, if_pos hx.2, if_pos hc, wrap_id (x := i + 1) (by omega) (by omega)]
      · obtain ⟨W', w1, w2⟩ := g2 hb
        refine ⟨W' + (rd_T39 L (rd l i)).f2, ⟨hx, hc, ?_⟩, fun hs => ?_⟩
        · rw [show W' + (rd_T39 L (rd l i)).f2 - (rd_T39 L (rd l i)).f2 = W' from by omega]
          exact w1
        · have := w2 hs
          rw [hacc hs] at this
          omega
    · exact ⟨0, false, Ev.step (f := fun _ => some (0, false)) (fun k => by rw [diffs_walk.l0, if_pos hlt, if_pos h0, if_pos hlt, if_pos hx.1, if_pos hx.2, if_neg hc]) (Ev.now _), fun h => (by cases h), fun _ W' hW => hc hW.2.1⟩
theorem walk_ev (hE : EdgesOk n L) {l : List Int} (hi : Idx L l) (hl : l.length ≤ 17592186044416) (N u v : Int) : ∃ W b, Ev (fun k => diffs_walk.f k N L u v l) (W, b) ∧ (b = true → ∃ W', Wk L u l v W' ∧ (l.length ≤ 65536 → W' = W)) ∧ (b = false → ∀ W', ¬ Wk L u l v W') := by
  obtain ⟨W, b, h1, h2, h3⟩ := walk_l0 hE hi hl v N l.length 0 u 0 (by omega) (by omega) (by omega)
  rw [Int.sub_zero] at h2
  exact ⟨W, b, h1, h2, h3⟩
theorem Wk.unique : ∀ {l : List Int} {u v W W' : Int}, Wk L u l v W → Wk L u l v W' → W = W'
  | [], u, v, W, W', h, h' => by rw [h.2, h'.2]
  | i :: is, u, v, W, W', h, h' => by
    have := Wk.unique h.2.2 h'.2.2
    omega
end
/-- An answer in numbers: 1, 43 or 0. -/
structure Code (A P : Prop) (e : Int) : Prop where
  arg : ¬ A → e = 1
  no : A → ¬ P → e = 43
  yes : A → P → e = 0
theorem Code.unique {A P : Prop} {e e' : Int} (h : Code A P e) (h' : Code A P e') : e = e' := by
  by_cases a : A
  · by_cases p : P
    · rw [h.yes a p, h'.yes a p]
    · rw [h.no a p, h'.no a p]
  · rw [h.arg a, h'.arg a]
theorem Code.zero {A P : Prop} {e : Int} (h : Code A P e) (hp : P → A) : e = 0 ↔ P := by
  constructor
  · intro he
    apply Classical.byContradiction
    intro p
    by_cases a : A
    · have := h.no a p; omega
    · have := h.arg a; omega
  · intro p
    exact h.yes (hp p) p
end Go.Proofs.Ytpolojoeabmhdaa.A
/- Clash and CheckClash: what they answer. -/
namespace Go.Proofs.Ytpolojoeabmhdaa.A
open Go.RowKit Go.Proofs.YtpolojoeabmhdaaW.PrintWords Go.Proofs.YtpolojoeabmhdaaW.PrintLast Go.Proofs.YtpolojoeabmhdaaW.PrintMore
theorem least (P : Nat → Prop) : ∀ n, P n → ∃ c, P c ∧ ∀ d, d < c → ¬ P d := by
  intro n
  induction n using Nat.strongRecOn with
  | ind n ih =>
    intro h
    by_cases hd : ∃ d, d < n ∧ P d
    · obtain ⟨d, d1, d2⟩ := hd
      exact ih d d1 d2
    · exact ⟨n, h, fun d d1 d2 => hd ⟨d, d1, d2⟩⟩
theorem rd_chain (L : List S39) (la : List Int) : ∀ (c : Nat) (v : Int) (i : Nat), i < c → rd (chain L la c v) i = rd la (it L la i v)
  | c + 1, v, 0, _ => rfl
  | c + 1, v, i + 1, h => by
    have := rd_chain L la c (bk L la v) i (by omega)
    rw [chain, show (((i + 1 : Nat)) : Int) = (i : Int) + 1 from by omega, rd_cons _ _ _ (by omega), this]
    rfl
theorem chain_snoc (L : List S39) (la : List Int) : ∀ (c : Nat) (v : Int), chain L la (c + 1) v = chain L la c v ++ [rd la (it L la c v)]
  | 0, v => rfl
  | c + 1, v => by
    rw [chain, chain_snoc L la c (bk L la v)]
    rfl
theorem it_succ (L : List S39) (la : List Int) (c : Nat) (v : Int) : it L la (c + 1) v = bk L la (it L la c v) := by
  rw [it_add L la c 1 v]; rfl
section
variable {n : Nat} {L : List S39}
/-- The start of the difference i of a row. -/
abbrev st (L : List S39) (l : List Int) (i : Int) : Int := (rd_T39 L (rd l i)).f0
structure ClashIs (n : Nat) (L : List S39) (l : List Int) : Prop where
  i : Idx L l
  n0 : 0 < l.length
  n1 : (l.length : Int) ≤ n
  d : ∀ i j : Int, 0 ≤ i → i < j → j < l.length → st L l i ≠ st L l j
  w : ∃ W, W < 0 ∧ Wk L (st L l 0) l (st L l 0) W
theorem cclash_l0 (hE : EdgesOk n L) {l : List Int} (hi : Idx L l) (h0 : 0 < l.length) (hn : (l.length : Int) ≤ n) (hn2 : n ≤ 256) (N : Int) : ∀ (q : Nat) (i : Int) (s : List Bool), (q : Int) + i = l.length → 0 ≤ i → s.length = n → (∀ v, 0 ≤ v → v < (n : Int) → (rdOf false s v = true ↔ ∃ j, 0 ≤ j ∧ j < i ∧ st L l j = v)) → (∀ a b, 0 ≤ a → a < b → b < i → st L l a ≠ st L l b) →
    ∃ e, Ev (fun k => diffs_CheckClash.l0 k l s l l.length i N L) e ∧ (ClashIs n L l → e = 0) ∧ (¬ ClashIs n L l → e = 43) := by
  intro q
  induction q with
  | zero =>
    intro i s hq hi0 hs hz hd
    have x0 := hi 0 (by omega) (by omega)
    obtain ⟨W, b, g1, g2, g3⟩ := walk_ev hE hi (by omega) N (st L l 0) (st L l 0)
    have hin : ∀ {e}, Ev (fun k => if b = true then diffs_CheckClash.j2 k (decide (W ≥ 0)) else diffs_CheckClash.j2 k true) e → Ev (fun k => diffs_CheckClash.l0 k l s l l.length i N L) e := fun h =>
      Ev.step (f := fun k => (diffs_walk.f k N L (st L l 0) (st L l 0) l).bind fun t => if t.2 = true then diffs_CheckClash.j2 k (decide (t.1 ≥ 0)) else diffs_CheckClash.j2 k true) (fun k => by rw [diffs_CheckClash.l0, if_neg (by omega), if_pos (by omega), if_pos x0.1, if_pos x0.2]) (g1.bind h)
    have hT : Ev (fun k => diffs_CheckClash.j2 k true) 43 := Ev.step (f := fun _ => some 43) (fun k => by rw [diffs_CheckClash.j2]; rfl) (Ev.now _)
    cases b with
    | false => exact ⟨43, hin (Ev.neg (by decide) hT), fun h => by
        obtain ⟨W', _, h2⟩ := h.w
        exact absurd h2 (g3 rfl _), fun _ => rfl⟩
    | true =>
      obtain ⟨W', w1, w2⟩ := g2 rfl
      obtain rfl := w2 (by omega)
      by_cases hW : W' ≥ 0
      · refine ⟨43, hin (Ev.pos rfl ?_), fun h => ?_, fun _ => rfl⟩
        · rw [decide_eq_true hW]; exact hT
        · obtain ⟨W', h1, h2⟩ := h.w
          have := w1.unique h2
          omega
      · refine ⟨0, hin (Ev.pos rfl ?_), fun _ => rfl, fun h => absurd ⟨hi, h0, hn, fun a b a0 ab b1 => hd a b a0 ab (by omega), _, by omega, w1⟩ h⟩
        rw [decide_eq_false hW]
        exact Ev.step (f := fun _ => some 0) (fun k => by rw [diffs_CheckClash.j2]; rfl) (Ev.now _)
  | succ q ih =>
    intro i s hq hi0 hs hz hdd
    have hlt : i < (l.length : Int) := by omega
    have hx := hi i hi0 hlt
    have hd := hE _ hx.1 hx.2
    have d1 := hd.a
    have d2 := hd.b
    by_cases hc : rdOf false s (st L l i) = true
    · refine ⟨43, Ev.step (f := fun _ => some 43) (fun k => ?_) (Ev.now _), fun h => ?_, fun _ => rfl⟩
      · rw [diffs_CheckClash.l0, if_pos hlt, if_pos hi0, if_pos hlt, if_pos hx.1, if_pos hx.2, if_pos d1, if_pos (by omega), if_pos hc]
      · obtain ⟨j, j0, j1, j2⟩ := (hz _ d1 d2).1 hc
        exact absurd j2 (h.d j i j0 j1 hlt)
    · obtain ⟨e, g1, g2⟩ := ih (i + 1) (s.set (st L l i).toNat true) (by omega) (by omega) (by rw [List.length_set]; exact hs) (fun v v0 v1 => by
        rw [rdOf_set _ _ _ _ _ d1 (by omega) v0]
        by_cases ev : v = st L l i
        · rw [if_pos ev]
          exact ⟨fun _ => ⟨i, hi0, by omega, ev.symm⟩, fun _ => rfl⟩
        · rw [if_neg ev, hz v v0 v1]
          constructor
          · rintro ⟨j, j0, j1, j2⟩; exact ⟨j, j0, by omega, j2⟩
          · rintro ⟨j, j0, j1, j2⟩
            exact ⟨j, j0, by
              by_cases e : j = i
              · rw [e] at j2; exact absurd j2.symm ev
              · omega, j2⟩) (fun a b a0 ab b1 => by
        by_cases e : b = i
        · intro h2
          rw [e] at h2
          exact hc ((hz _ d1 d2).2 ⟨a, a0, by omega, h2⟩)
        · exact hdd a b a0 ab (by omega))
      refine ⟨e, Ev.step (fun k => ?_) g1, g2⟩
      rw [diffs_CheckClash.l0, if_pos hlt, if_pos hi0, if_pos hlt, if_pos hx.1, if_pos hx.2, if_pos d1, if_pos (by omega), if_neg hc, wrap_id (x := i + 1) (by omega) (by omega)]
theorem cclash_ev (hV : Valid n L) (l : List Int) : ∃ e, Ev (fun k => diffs_CheckClash.f k n L l) e ∧ Code (Idx L l) (ClashIs n L l) e := by
  have hn1 := hV.n1
  have hn2 := hV.n2
  obtain ⟨b, b1, b2⟩ := indices_iff (n := (n : Int)) (L := L) (l := l)
  have hask := asked_ev n L [b] (by simp)
  rw [if_pos (validB_iff.2 hV)] at hask
  unfold diffs_CheckClash.f
  rw [b1]
  simp only [Option.bind_some]
  cases b with
  | false => exact ⟨1, hask.bind (Ev.neg (by decide) (Ev.now _)), fun _ => rfl, fun h => absurd (b2.2 h) (by decide), fun h => absurd (b2.2 h) (by decide)⟩
  | true =>
    have hi := b2.1 rfl
    have hT : Ev (fun k => diffs_CheckClash.j0 k l true n L) 43 := Ev.step (f := fun _ => some 43) (fun k => by rw [diffs_CheckClash.j0]; rfl) (Ev.now _)
    by_cases c1 : (l.length : Int) = 0
    · exact ⟨43, hask.bind (Ev.pos (by decide) (Ev.pos c1 hT)), fun h => absurd hi h, fun _ _ => rfl, fun _ h => by have := h.n0; omega⟩
    by_cases c2 : (l.length : Int) > n
    · refine ⟨43, hask.bind (Ev.pos (by decide) (Ev.neg c1 ?_)), fun h => absurd hi h, fun _ _ => rfl, fun _ h => by have := h.n1; omega⟩
      rw [decide_eq_true c2]; exact hT
    · obtain ⟨e, g1, g2, g3⟩ := cclash_l0 hV.e hi (by omega) (by omega) (by omega) n l.length 0 (List.replicate (n : Int).toNat false) (by omega) (by omega) (by rw [List.length_replicate]; omega) (fun v v0 v1 => by
        constructor
        · intro h
          unfold rdOf at h
          rw [List.getD_eq_getElem?_getD, List.getElem?_replicate] at h
          split at h <;> simp at h
        · rintro ⟨j, j0, j1, _⟩; omega) (fun a b a0 ab b1 => by omega)
      refine ⟨e, hask.bind (Ev.pos (by decide) (Ev.neg c1 ?_)), fun h => absurd hi h, fun _ h => g3 h, fun _ h => g2 h⟩
      rw [decide_eq_false c2]
      exact Ev.step (fun k => by rw [diffs_CheckClash.j0, if_neg (by decide), if_pos (by omega), if_pos (by omega)]) g1
theorem cclash_bad {m : Int} (hv : ¬ validB m L = true) (l : List Int) : Ev (fun k => diffs_CheckClash.f k m L l) 40 := by
  obtain ⟨b, b1, _⟩ := indices_iff (n := m) (L := L) (l := l)
  have hask := asked_ev m L [b] (by simp)
  rw [if_neg hv] at hask
  unfold diffs_CheckClash.f
  rw [b1]
  simp only [Option.bind_some]
  exact hask.bind (Ev.neg (by decide) (Ev.now _))
theorem clash_bad {m : Int} (hv : ¬ validB m L = true) : Ev (fun k => diffs_Clash.f k m L) ([], false, 40) := by
  have hc := check_ev m L
  rw [if_neg hv] at hc
  unfold diffs_Clash.f
  exact hc.bind (Ev.neg (by decide) (Ev.now _))
theorem ClashIs.no {l : List Int} (h : ClashIs n L l) : ¬ Solv L := fun ⟨x, hx⟩ => by
  obtain ⟨W, w1, w2⟩ := h.w
  have := hx.walk w2
  omega
/-- The way back round, from a node on it. -/
theorem clash_l0 {la : List Int} (hla : la.length = n) (hn : n ≤ 256) {v : Int} {c : Nat} (hc : 0 < c) (hcn : (c : Int) ≤ n) (hg : Goes L la c v) (he : it L la c v = v) (hmin : ∀ d, 0 < d → d < c → it L la d v ≠ v) (hnode : ∀ i, i ≤ c → 0 ≤ it L la i v ∧ it L la i v < n) (hidx : ∀ i, i < c → 0 ≤ rd la (it L la i v) ∧ rd la (it L la i v) < (L.length : Int)) (N : Int) (lo : List Int) (ha : List Bool) : ∀ (q i : Nat), q + i + 1 = c →
    Ev (fun k => diffs_Clash.l0 k v (chain L la i v) (it L la i v) N L lo ha la) ((chain L la c v).reverse, true, 0) := by
  have hstep : ∀ i : Nat, i < c → ∀ {r : List Int × Bool × Int}, Ev (fun k => if it L la (i + 1) v = v then ((slices_Reverse_int_int.f k (chain L la (i + 1) v)).bind fun t => some (t, true, 0)) else diffs_Clash.l0 k v (chain L la (i + 1) v) (it L la (i + 1) v) N L lo ha la) r → Ev (fun k => diffs_Clash.l0 k v (chain L la i v) (it L la i v) N L lo ha la) r := fun i hi r h => by
    have hx := hidx i hi
    have hy := hnode i (by omega)
    refine Ev.step (fun k => ?_) h
    rw [diffs_Clash.l0, if_pos hy.1, if_pos (by omega), if_pos (by rw [chain_len L la]; omega), Option.bind_some, if_pos hx.1, if_pos hx.2, chain_snoc, it_succ]
    rfl
  intro q
  induction q with
  | zero =>
    intro i hi
    obtain rfl : c = i + 1 := by omega
    refine hstep i (by omega) (Ev.pos he ((reverse_ev _ (by rw [chain_len L la]; omega)).bind (Ev.now _)))
  | succ q ih =>
    intro i hi
    exact hstep i (by omega) (Ev.neg (hmin (i + 1) (by omega) (by omega)) (ih (i + 1) (by omega)))
theorem clash_ev (hV : Valid n L) (hs : ¬ Solv L) : ∃ r, Ev (fun k => diffs_Clash.f k n L) (r, true, 0) ∧ ClashIs n L r := by
  have hn0 : 0 < n := by have := hV.n1; omega
  have hn : n ≤ 256 := by have := hV.n2; omega
  have hc := check_ev n L
  rw [if_pos (validB_iff.2 hV)] at hc
  obtain ⟨x, s, bad, h1, h2, h3, h4, h5⟩ := solve_ev hn0 (by omega) hV.e (hmul hV)
  have hb : ¬ bad = -1 := fun e => hs ((h2.bad_iff hV.e (fun v a b => mem_allL.2 ⟨a, b⟩)).1 e)
  rcases h2.res with ⟨a, _⟩ | ⟨hbad, hr⟩
  · exact absurd a hb
  obtain ⟨v0, v1, hex⟩ := hr
  obtain ⟨c', hc'⟩ := hex
  obtain ⟨c, ⟨c0, cg, ce⟩, hmin⟩ := least (fun c => 0 < c ∧ Goes L s.la c bad ∧ it L s.la c bad = bad) c' hc'
  obtain ⟨b, T, _, _, hB⟩ := h2.bf
  have l3 := hB.l3
  obtain ⟨W, w1, w2⟩ := hB.round hV.e v0 v1 cg c0 ce
  have hnode : ∀ i, i ≤ c → 0 ≤ it L s.la i bad ∧ it L s.la i bad < n := fun i hi => hB.it_node hV.e i v0 v1 (goes_le cg hi)
  have hidx : ∀ i, i < c → 0 ≤ rd s.la (it L s.la i bad) ∧ rd s.la (it L s.la i bad) < (L.length : Int) := fun i hi => by
    have hg := (goes_add L s.la i 1 bad).1 (goes_le cg (by omega))
    have hp := hg.2.1
    have hy := hnode i (by omega)
    have := hB.p _ hy.1 hy.2 (hB.la_pos hy.1 hy.2 hp)
    exact ⟨this.1, this.2.1⟩
  have hmin' : ∀ d, 0 < d → d < c → it L s.la d bad ≠ bad := fun d d0 d1 e => hmin d d1 ⟨d0, goes_le cg (by omega), e⟩
  have hne : ∀ i j : Nat, 1 ≤ i → i < j → j ≤ c → it L s.la i bad ≠ it L s.la j bad := fun i j i1 ij jc e => by
    have e1 : it L s.la (j + (c - j)) bad = it L s.la (i + (c - j)) bad := by rw [it_add, it_add, e]
    rw [show j + (c - j) = c from by omega, ce] at e1
    exact hmin' (i + (c - j)) (by omega) (by omega) e1.symm
  have hcn : (c : Int) ≤ n := by
    by_cases h : c ≤ n
    · omega
    · obtain ⟨i, j, ij, jn, e⟩ := pigeon n (fun i => it L s.la (i + 1) bad) (fun i hi => hnode (i + 1) (by omega))
      exact absurd e (hne (i + 1) (j + 1) (by omega) (by omega) (by omega))
  have hlen : (chain L s.la c bad).reverse.length = c := by rw [List.length_reverse, chain_len L s.la]
  have hrd : ∀ i : Int, 0 ≤ i → i < c → rd (chain L s.la c bad).reverse i = rd s.la (it L s.la (c - 1 - i.toNat) bad) := fun i i0 i1 => by
    rw [rd_reverse _ i0 (by rw [chain_len L s.la]; omega), chain_len L s.la, show (c : Int) - 1 - i = ((c - 1 - i.toNat : Nat) : Int) from by omega, rd_chain L s.la c bad _ (by omega)]
  have hst : ∀ i : Int, 0 ≤ i → i < c → st L (chain L s.la c bad).reverse i = it L s.la (c - i.toNat) bad := fun i i0 i1 => by
    unfold st
    rw [hrd i i0 i1, show c - i.toNat = (c - 1 - i.toNat) + 1 from by omega, it_succ]
    rfl
  refine ⟨(chain L s.la c bad).reverse, ?_, fun i i0 i1 => ?_, by omega, by omega, fun i j i0 ij j1 => ?_, W, w1, ?_⟩
  · unfold diffs_Clash.f
    refine hc.bind (Ev.pos rfl (h3.bind (Ev.neg (by simp only; omega) ?_)))
    exact clash_l0 (by omega) hn c0 hcn cg ce hmin' hnode hidx n s.lo s.ha (c - 1) 0 (by omega)
  · rw [hlen] at i1
    rw [hrd i i0 i1]
    exact hidx _ (by omega)
  · rw [hlen] at j1
    rw [hst i i0 (by omega), hst j (by omega) j1]
    exact fun e => hne (c - j.toNat) (c - i.toNat) (by omega) (by omega) (by omega) e.symm
  · rw [hst 0 (by omega) (by omega), show c - (0 : Int).toNat = c from by simp, ce]
    exact w2
theorem clash_no (hV : Valid n L) (hs : Solv L) : Ev (fun k => diffs_Clash.f k n L) ([], false, 0) := by
  have hn0 : 0 < n := by have := hV.n1; omega
  have hn : n ≤ 256 := by have := hV.n2; omega
  have hc := check_ev n L
  rw [if_pos (validB_iff.2 hV)] at hc
  obtain ⟨x, s, bad, h1, h2, h3, h4, h5⟩ := solve_ev hn0 (by omega) hV.e (hmul hV)
  have hb := (h2.bad_iff hV.e (fun v a b => mem_allL.2 ⟨a, b⟩)).2 hs
  unfold diffs_Clash.f
  exact hc.bind (Ev.pos rfl (h3.bind (Ev.pos (by simp only; omega) (Ev.now _))))
end
end Go.Proofs.Ytpolojoeabmhdaa.A
namespace Go.Proofs.Ytpolojoeabmhdaa.A
open Go.RowKit Go.Proofs.YtpolojoeabmhdaaW.PrintWords Go.Proofs.YtpolojoeabmhdaaW.PrintLast Go.Proofs.YtpolojoeabmhdaaW.PrintMore
attribute [local go_sem] max2_int min2_int max_two min_two max_three min_three max_four min_four
mutual
def diffs_Path.j0 : Nat → Int → Int → Bool → Int → List (S39) → List Int → List Bool → List Int → Option (List Int × Bool × Int)
 | 0, _, _, _, _, _, _, _, _ => none
 | k + 1, x2, x11, x45, x866000, x866001, x883000, x883001, x883002 => if x45 = true then (some (([] : List Int), false, x11)) else (diffs_Path.l0 k ([] : List Int) x2 x866000 x866001 x883000 x883001 x883002)
def diffs_Path.l0 : Nat → List Int → Int → Int → List (S39) → List Int → List Bool → List Int → Option (List Int × Bool × Int)
 | 0, _, _, _, _, _, _, _ => none
 | k + 1, x12, x13, x866000, x866001, x883000, x883001, x883002 => if 0 ≤ x13 then (if x13 < (x883002.length : Int) then (if (rd x883002 x13) ≥ 0 then (if x12.length < 17592186044416 then (if 0 ≤ (rd x883002 x13) then (if (rd x883002 x13) < (x866001.length : Int) then (diffs_Path.l0 k (x12 ++ [rd x883002 x13]) ((rd_T39 x866001 (rd x883002 x13)).f0) x866000 x866001 x883000 x883001 x883002) else (none)) else (none)) else (none)) else ((slices_Reverse_int_int.f k x12).bind fun t891 => (some (t891, true, 0)))) else (none)) else (none)
end
def diffs_Path.f (k : Nat) (a0_0 : Int) (l0_1 : List (S39)) (a1 : Int) (a2 : Int) : Option (List Int × Bool × Int) := (diffs_in.f a1 0 (wrap64 (a0_0 - 1))).bind fun t866 => ((diffs_in.f a2 0 (wrap64 (a0_0 - 1))).bind fun t867 => ((diffs_asked.f k a0_0 l0_1 (([t866, t867] : List Bool))).bind fun t871 => (if t871 = 0 then ((diffs_reach.f k a0_0 l0_1 a1).bind fun bt872 => (if bt872.2.2.2 = 0 then (if 0 ≤ a2 then (if a2 < (bt872.2.1.length : Int) then (diffs_Path.j0 k a2 bt872.2.2.2 (!(rdOf false bt872.2.1 a2)) a0_0 l0_1 bt872.1 bt872.2.1 bt872.2.2.1) else (none)) else (none)) else (diffs_Path.j0 k a2 bt872.2.2.2 true a0_0 l0_1 bt872.1 bt872.2.1 bt872.2.2.1))) else (some (([] : List Int), false, t871)))))
theorem diffs_Path.mono_l : ∀ k, (∀ y0 y1 y2 y3 y4 y5 y6 y7, LeO (diffs_Path.j0 k y0 y1 y2 y3 y4 y5 y6 y7) (diffs_Path.j0 (k + 1) y0 y1 y2 y3 y4 y5 y6 y7)) ∧ (∀ y0 y1 y2 y3 y4 y5 y6, LeO (diffs_Path.l0 k y0 y1 y2 y3 y4 y5 y6) (diffs_Path.l0 (k + 1) y0 y1 y2 y3 y4 y5 y6))
 | 0 => ⟨fun _ _ _ _ _ _ _ _ r h => by simp [diffs_Path.j0] at h, fun _ _ _ _ _ _ _ r h => by simp [diffs_Path.l0] at h⟩
 | k + 1 => by
  obtain ⟨ih0, ih1⟩ := diffs_Path.mono_l k; refine ⟨?_, ?_⟩ <;> intros <;> (first | unfold diffs_Path.j0 | unfold diffs_Path.l0) <;> repeat' first | (with_reducible first | exact ih0 _ _ _ _ _ _ _ _ | exact ih1 _ _ _ _ _ _ _ | exact diffs_asked.mono _ _ _ _ | exact diffs_reach.mono _ _ _ _ | exact slices_Reverse_int_int.mono _ _ | exact LeO.refl _ | exact LeO.none _ | refine LeO.ite ?_ ?_ | refine LeO.bind ?_ (fun _ => ?_)) | exact ih0 _ _ _ _ _ _ _ _ | exact ih1 _ _ _ _ _ _ _ | exact diffs_asked.mono _ _ _ _ | exact diffs_reach.mono _ _ _ _ | exact slices_Reverse_int_int.mono _ _ | exact LeO.none _ | refine LeO.ite ?_ ?_ | refine LeO.bind ?_ (fun _ => ?_)
theorem diffs_Path.mono : ∀ a0 a1 a2 a3 k, LeO (diffs_Path.f k a0 a1 a2 a3) (diffs_Path.f (k + 1) a0 a1 a2 a3) := by
 intro a0 a1 a2 a3 k; obtain ⟨ih0, ih1⟩ := diffs_Path.mono_l k; unfold diffs_Path.f; repeat' first | (with_reducible first | exact ih0 _ _ _ _ _ _ _ _ | exact ih1 _ _ _ _ _ _ _ | exact diffs_asked.mono _ _ _ _ | exact diffs_reach.mono _ _ _ _ | exact slices_Reverse_int_int.mono _ _ | exact LeO.refl _ | exact LeO.none _ | refine LeO.ite ?_ ?_ | refine LeO.bind ?_ (fun _ => ?_)) | exact ih0 _ _ _ _ _ _ _ _ | exact ih1 _ _ _ _ _ _ _ | exact diffs_asked.mono _ _ _ _ | exact diffs_reach.mono _ _ _ _ | exact slices_Reverse_int_int.mono _ _ | exact LeO.none _ | refine LeO.ite ?_ ?_ | refine LeO.bind ?_ (fun _ => ?_)
def diffs_Path.T1 : Bool × List (List Nat × List Nat) := (true, [([], []), ([], []), ([], []), ([2], [2]), ([3], [3]), ([1, 4], [1, 4]), ([], []), ([], []), ([7], [7]), ([8], [8]), ([6, 9, 5], [6, 9]), ([5, 10], [5, 10]), ([0, 11, 10], [0, 11]), ([12, 12, 0, 1, 2, 3, 4, 5, 6, 7, 8, 9, 10, 11, 12], [12])])
def diffs_Path.B1 : List Nat := [0, 0, 0, 4, 12, 30, 0, 0, 128, 384, 1022, 2046, 4095, 8191]
theorem diffs_Path.tab1 : rtab .any (opsOf Try.f46 1) = diffs_Path.T1 := by kernel_rfl
theorem diffs_Path.bits1 : waitsOk diffs_Path.T1.2 diffs_Path.B1 = true := by kernel_rfl
def diffs_Path.T10 : Bool × List (List Nat × List Nat) := (true, [([], []), ([0], [0]), ([], []), ([2], [2]), ([], []), ([3, 4], [3, 4]), ([5], [5]), ([1, 6], [1, 6]), ([7], [7]), ([8], [8]), ([9, 0, 1, 2, 3, 4, 5, 6, 7, 8, 9], [4, 9])])
def diffs_Path.B10 : List Nat := [0, 1, 0, 4, 0, 28, 60, 127, 255, 511, 1023]
theorem diffs_Path.tab10 : rtab .any (opsOf Try.f46 10) = diffs_Path.T10 := by kernel_rfl
theorem diffs_Path.bits10 : waitsOk diffs_Path.T10.2 diffs_Path.B10 = true := by kernel_rfl
set_option maxHeartbeats 8000000 in
set_option maxRecDepth 100000 in
theorem diffs_Path.calls (k : Nat) (a0_0 : Int) (A0_1 : Option Addr) (c0_1 : Nat) (l0_1 : List (S39)) (a1 : Int) (a2 : Int) (r1 : List Int) (r2 : Bool) (r3 : Int) (w : World) (hr0_1 : Kd.C k39 w A0_1 l0_1.length l0_1) (hc0_1 : l0_1.length ≤ c0_1) (h : diffs_Path.f k a0_0 l0_1 a1 a2 = some (r1, r2, r3)) :
  Calls Try.prog 46 #[.agg #[.int .i64 a0_0, .slice A0_1 l0_1.length c0_1], .int .i64 a1, .int .i64 a2] w fun e w' => ∃ v0_ : Value, e = .returned (.tuple #[v0_, .bool r2, .int .i64 r3]) ∧ Kd.R (Kd.int .i64) 3 w' w.heap.size (fun _ => True) v0_ r1 ∧ Below w.heap.size w w' := by
 have hu24 := Try.underlying24; have hu88 := Try.underlying88; have HR0_1 := Z_ hr0_1; have HC0_1 := Z_ hc0_1; clear hr0_1 hc0_1; have HB := Z_ (Below.refl w.heap.size w); have H : ((diffs_in.f a1 0 (wrap64 (a0_0 - 1))).bind fun t866 => ((diffs_in.f a2 0 (wrap64 (a0_0 - 1))).bind fun t867 => ((diffs_asked.f k a0_0 l0_1 (([t866, t867] : List Bool))).bind fun t871 => (if t871 = 0 then ((diffs_reach.f k a0_0 l0_1 a1).bind fun bt872 => (if bt872.2.2.2 = 0 then (if 0 ≤ a2 then (if a2 < (bt872.2.1.length : Int) then (diffs_Path.j0 k a2 bt872.2.2.2 (!(rdOf false bt872.2.1 a2)) a0_0 l0_1 bt872.1 bt872.2.1 bt872.2.2.1) else (none)) else (none)) else (diffs_Path.j0 k a2 bt872.2.2.2 true a0_0 l0_1 bt872.1 bt872.2.1 bt872.2.2.1))) else (some (([] : List Int), false, t871)))))) = some (r1, r2, r3) := h; clear h; replace H := oS_.mp H; obtain ⟨t866, A40, H⟩ := H; have A4 := Z_ A40; clear A40; replace H := oS_.mp H; obtain ⟨t867, A50, H⟩ := H; have A5 := Z_ A50; clear A50; obtain ⟨y868, hy868⟩ : ∃ y_ : List Bool, y_ = (([t866, t867] : List Bool)) := ⟨_, rfl⟩; replace H : ((diffs_asked.f k a0_0 l0_1 y868).bind fun t871 => (if t871 = 0 then ((diffs_reach.f k a0_0 l0_1 a1).bind fun bt872 => (if bt872.2.2.2 = 0 then (if 0 ≤ a2 then (if a2 < (bt872.2.1.length : Int) then (diffs_Path.j0 k a2 bt872.2.2.2 (!(rdOf false bt872.2.1 a2)) a0_0 l0_1 bt872.1 bt872.2.1 bt872.2.2.1) else (none)) else (none)) else (diffs_Path.j0 k a2 bt872.2.2.2 true a0_0 l0_1 bt872.1 bt872.2.1 bt872.2.2.1))) else (some (([] : List Int), false, t871)))) = some (r1, r2, r3) := by first | (rw [hy868]; with_reducible exact H) | (have H2_ := (oB_ _ _).symm.trans H; rw [hy868]; with_reducible exact H2_) | (have H2_ := (oB_ _ _).symm.trans H; with_reducible exact H2_) | with_reducible exact H | (rw [hy868]; exact H) | exact H
 have Ny868 := Z_ hy868; clear hy868; replace H := oS_.mp H; obtain ⟨t871, A60, H⟩ := H; have A6 := Z_ A60; clear A60; have HF7 := Z_ H; clear H; go_enter Try.func46, Try.ntmps46; try go_wp2_with (first | ((with_reducible refine gate_dst (N := 3) rfl ?_); refine bX_ 3 #[.int .i64 a0_0, .slice A0_1 l0_1.length c0_1] 24 ?_; intro gb865 hg w8 hbox hb; have BK865 := Z_ (hbox); have GW865 := Z_ ((by rw [hg]; exact (fZ_ hB_) : w.heap.size ≤ gb865)); have GE865 := Z_ ((by rw [hg]; exact (fZ_ hB_) : w.heap.size ≤ gb865)); replace HB := Z_ (fS_ hB_ hb); clear hb hbox hg))
 replace BK865 := Z_ (bD_ BK865.out); replace HB := Z_ (fD_ HB.out); refine start_ (n := 14) (S := fun w' => w'.cell? ⟨gb865, 0, none⟩ = some (.int .i64 a0_0) ∧ w'.cell? ⟨gb865, 1, none⟩ = some (.slice A0_1 l0_1.length c0_1)) (ds := []) #[false, false, false, false, false, false, false, false, false, false, false, false, false, false] (by kernel_rfl) rfl rfl ⟨(bC_ BK865.out 0).trans rfl, (bC_ BK865.out 1).trans rfl⟩ (fun hHeld => ?_); refine with_tabW diffs_Path.tab1 diffs_Path.bits1 (fun HT_ HW_ => ?_); generalize w8.drew = w9 at BK865 HB hHeld ⊢; refine pP_ 1 15 ?_; refine pP_ 2 16 ?_; refine pP_ 6 20 ?_; refine pP_ 7 21 ?_; refine pT_ 0 14 ?_; refine pT_ 3 17 ?_; refine pP_ 4 18 ?_; refine pT_ 8 22 ?_; refine pP_ 9 23 ?_; refine oN_ 5 (some 19) (fun K hK => ?_); refine gO_ Try.func75 #[.int .i64 a1, .int .i64 0, .int .i64 (wrap64 (a0_0 - 1))] ?_; with_reducible refine (diffs_in.calls a1 0 (wrap64 (a0_0 - 1)) t866 _ A4.out).mono ?_
 rintro e w' ⟨rfl, ⟨nd, rfl⟩⟩; refine ⟨_, rfl, ?_⟩; refine hK.out _ _ ⟨(bC_ BK865.out 0).trans rfl, (bC_ BK865.out 1).trans rfl⟩ (fun hHeld => ?_); clear hK K; refine nP_ 19 ?_; refine oN_ 10 (some 24) (fun K hK => ?_); refine gO_ Try.func75 #[.int .i64 a2, .int .i64 0, .int .i64 (wrap64 (a0_0 - 1))] ?_; with_reducible refine (diffs_in.calls a2 0 (wrap64 (a0_0 - 1)) t867 _ A5.out).mono ?_
 rintro e w' ⟨rfl, ⟨nd, rfl⟩⟩; refine ⟨_, rfl, ?_⟩; refine hK.out _ _ ⟨(bC_ BK865.out 0).trans rfl, (bC_ BK865.out 1).trans rfl⟩ (fun hHeld => ?_); clear hK K; refine nP_ 24 ?_; refine oN_ 11 (some 25) (fun K hK => ?_); refine Kd.R_lit_step Kd.bool _ 4 ?hg (N := 25) ?hd (xs := ([t866, t867] : List Bool)) (inner := [.bool t866, .bool t867]) (ok := fun _ => True) (okp := fun _ => True) ?hr ?hp (fun _ hk => hk) trivial (Below.refl _ _) (nR_ _) (by simp) ?_; (case hd => rfl); (case hg => rfl); (case hr => first | (go_simp; done) | (go_simp; rfl)); (case hp => exact (Reps.one (show Kd.M Kd.bool _ _ _ t866 [.bool t866] from rfl) (Reps.one (show Kd.M Kd.bool _ _ _ t867 [.bool t867] from rfl) (Reps.none _ _)))); intro v869 w10 ho11 hb hg_ hnew_; clear hg_ hnew_; (first | rw [← Ny868.out] at ho11 | (simp only [Int.reduceToNat] at ho11; rw [← Ny868.out] at ho11))
 have HO870 := Z_ (rL_ ho11 (fZ_ hB_)); replace BK865 := Z_ (bB_ (g := gb865) (o := .cells #[.int .i64 a0_0, .slice A0_1 l0_1.length c0_1] 24 (0, 0)) (bR_ BK865.out) hb); replace HB := Z_ (fS_ hB_ hb); clear hb ho11; obtain ⟨Ao12, co12, eo12⟩ := rS_ HO870.out; (first | subst eo12 | (injection eo12 with f1_ f2_ f3_; have f4_ := f1_.symm; have f5_ := f3_.symm; clear f1_ f2_ f3_; subst f4_; subst f5_))
 refine hK.out _ _ ⟨(bC_ BK865.out 0).trans rfl, (bC_ BK865.out 1).trans rfl⟩ (fun hHeld => ?_); clear hK K; refine nP_ 25 ?_; refine oN_ 12 (some 26) (fun K hK => ?_); refine gO_ Try.func77 #[.agg #[.int .i64 a0_0, .slice A0_1 l0_1.length c0_1], .slice Ao12 y868.length co12] ?_; with_reducible refine (diffs_asked.calls k a0_0 _ _ l0_1 _ _ y868 t871 _ ?side1 ?side2 ?side3 ?side4 A6.out).mono ?_
 (case side1 => exact cS_ (cB_ HR0_1.out HB.out))
 (case side2 => exact HC0_1.out)
 (case side3 => repeat (first | exact (rR_ HO870.out).2.2 | (with_reducible refine Kd.C_alloc ?_ _) | (with_reducible refine Kd.C_drewN ?_ _) | (with_reducible refine Kd.C_drew ?_)))
 (case side4 => exact (rR_ HO870.out).2.1)
 rintro e w13 ⟨rfl, hb⟩; refine ⟨_, rfl, ?_⟩; replace HO870 := Z_ (rB_ (rK_ HO870.out) hb); replace BK865 := Z_ (bB_ (g := gb865) (o := .cells #[.int .i64 a0_0, .slice A0_1 l0_1.length c0_1] 24 (0, 0)) (bR_ BK865.out) hb); replace HB := Z_ (fS_ hB_ hb); (try clear hb)
 (try clear hb2)
 (try clear hk)
 (try clear hi)
 refine hK.out _ _ ⟨(bC_ BK865.out 0).trans rfl, (bC_ BK865.out 1).trans rfl⟩ (fun hHeld => ?_); clear hK K; refine nP_ 26 ?_; refine pP_ 13 9 ?_; refine dN_ ?_; go_upto_if 28 with (fail); have H := HF7.out; clear HF7; by_cases c14 : t871 = 0
 ·rw [if_pos c14] at H
  obtain ⟨c14b0, c14b1⟩ := be_ c14; clear c14; (first | rw [c14b0] | (simp only [i64_w, i32_w]; rw [c14b0]) | skip)
  replace H := oS_.mp H; obtain ⟨⟨t872, t875, t878, t881⟩, A150, H⟩ := H; have A15 := Z_ A150; clear A150; have HC16 := Z_ H; clear H; obtain ⟨⟨hcz17_0, hcz17_1⟩, hfz17_0, hfz17_1⟩ := f2_ BK865.out; go_upto_region 5 with (first | ((with_reducible refine gate_callee (f := 78) rfl ?_); refine gL_ (some 33) Try.func78 #[.agg #[.int .i64 a0_0, .slice A0_1 l0_1.length c0_1], .int .i64 a1] ?_; (with_reducible refine (diffs_reach.calls k a0_0 _ _ l0_1 a1 t872 t875 t878 t881 _ ?side1 ?side2 A15.out).mono ?_); (case side1 => exact cS_ (cB_ HR0_1.out HB.out)); (case side2 => exact HC0_1.out); rintro e w18 ⟨v873, v876, v879, rfl, ho0, ho1, ho2, hb⟩; refine ⟨_, rfl, ?_⟩; have HO874 := Z_ (rL_ ho0 (fZ_ hB_)); have HO877 := Z_ (rL_ (Kd.R_new' ho1 (Kd.R_lt (rK_ HO870.out))) (fZ_ hB_)); replace HO870 := Z_ (Kd.R_elder' (rK_ HO870.out) (Kd.R_base ho1) hb); have HO880 := Z_ (rL_ ho2 (fZ_ hB_)); replace BK865 := Z_ (bB_ (g := gb865) (o := .cells #[.int .i64 a0_0, .slice A0_1 l0_1.length c0_1] 24 (0, 0)) (bR_ BK865.out) hb); replace HB := Z_ (fS_ hB_ hb); (try clear hb); (try clear hb2); (try clear hk); (try clear hi); (try clear ho0); (try clear ho1); (try clear ho2)) | ((with_reducible refine gate_dst (N := 10) rfl ?_); refine bX_ 10 #[.slice none 0 0, .slice none 0 0, .slice none 0 0] 88 ?_; intro gb882 hg w19 hbox hb; replace HO870 := Z_ (rB_ (rK_ HO870.out) hb); replace HO874 := Z_ (rB_ (rK_ HO874.out) hb); replace HO877 := Z_ (rB_ (rK_ HO877.out) hb); replace HO880 := Z_ (rB_ (rK_ HO880.out) hb); have BK882 := Z_ (hbox); have GW882 := Z_ ((by rw [hg]; exact (fZ_ hB_) : w.heap.size ≤ gb882)); have GE882 := Z_ ((by rw [hg]; exact (fZ_ hB_) : w.heap.size ≤ gb882)); replace HB := Z_ (fS_ hB_ hb); have NB865_882 := Z_ ((by rw [hg]; exact Nat.ne_of_lt (blk_lt (g := gb865) (o := .cells #[.int .i64 a0_0, .slice A0_1 l0_1.length c0_1] 24 (0, 0)) (bR_ BK865.out)) : gb865 ≠ gb882)); have NB882_865 := Z_ ((by rw [hg]; exact Nat.ne_of_gt (blk_lt (g := gb865) (o := .cells #[.int .i64 a0_0, .slice A0_1 l0_1.length c0_1] 24 (0, 0)) (bR_ BK865.out)) : gb882 ≠ gb865)); replace BK865 := Z_ (bB_ (g := gb865) (o := .cells #[.int .i64 a0_0, .slice A0_1 l0_1.length c0_1] 24 (0, 0)) (bR_ BK865.out) hb); clear hb hbox hg; obtain ⟨Ao20, co20, eo20⟩ := rS_ HO874.out; subst eo20; have hnb21 := NB882_865.out; have hnc21 := NB865_882.out; obtain ⟨⟨hcz22_0, hcz22_1, hcz22_2⟩, hfz22_0, hfz22_1, hfz22_2⟩ := f3_ BK882.out; obtain ⟨Ao23, co23, eo23⟩ := rS_ HO877.out; subst eo23; obtain ⟨Ao24, co24, eo24⟩ := rS_ HO880.out; subst eo24)); (try simp only [Act.put, sT_, sZ_, sS_])
  go_cut [45] (fun v45 wc => ∃ (kq : Nat) (x45_15 : Bool), v45 = .bool x45_15 ∧ Aside0 (diffs_Path.j0 kq a2 t881 x45_15 a0_0 l0_1 t872 t875 t878 = some (r1, r2, r3)) ∧ Aside0 (kq ≤ k) ∧ Aside0 (Kd.R (Kd.int .i64) 3 wc w.heap.size (fun k_ => some k_ ≠ ((.slice Ao24 t878.length co24) : Value).ownBlock) (.slice Ao20 t872.length co20) t872) ∧ Aside0 (Kd.R Kd.bool 4 wc w.heap.size (fun _ => True) (.slice Ao23 t875.length co23) t875) ∧ Aside0 (Kd.R (Kd.int .i64) 3 wc w.heap.size (fun k_ => some k_ ≠ ((.slice Ao20 t872.length co20) : Value).ownBlock) (.slice Ao24 t878.length co24) t878) ∧ Aside0 (wc.heap[gb865]? = some (.cells #[.int .i64 a0_0, (.slice A0_1 l0_1.length c0_1)] 24 (0, 0))) ∧ Aside0 (wc.heap[gb882]? = some (.cells #[(.slice Ao20 t872.length co20), (.slice Ao23 t875.length co23), (.slice Ao24 t878.length co24)] 88 (0, 0))) ∧ Aside0 (Below w.heap.size w wc))
  case first =>
   have H := HC16.out; clear HC16; by_cases c25 : t881 = 0
   ·rw [if_pos c25] at H
    obtain ⟨c25b0, c25b1⟩ := be_ c25; clear c25; (first | rw [c25b0] | (simp only [i64_w, i32_w]; rw [c25b0]) | skip)
    by_cases c26 : 0 ≤ a2
    ·rw [if_pos c26] at H
     have c26b0 : decide (0 ≤ a2) = true := eT_ c26; clear c26; by_cases c27 : a2 < (t875.length : Int)
     ·rw [if_pos c27] at H
      have c27b0 : decide (a2 < (t875.length : Int)) = true := eT_ c27; clear c27; have H' := Z_ H; clear H; have hnb28 := NB882_865.out; have hnc28 := NB865_882.out; obtain ⟨⟨hcz29_0, hcz29_1, hcz29_2⟩, hfz29_0, hfz29_1, hfz29_2⟩ := f3_ BK882.out; have p883 : 0 ≤ (a2 : Int) := dT_ as_; have q883 : a2 < (t875.length : Int) := dT_ as_; obtain ⟨ad883, e883, hx883_0⟩ := Kd.at_bool (rR_ HO877.out).2.2 a2 p883 q883; cases e883
      have hn883_0 : ad883.block ≠ gb882 := Kd.own_blk (Kd.R_ne HO877.out BK882.out (by decide)); have hn883_1 : ad883.block ≠ gb882 := Kd.own_blk (Kd.R_ne HO877.out BK882.out (by decide)); have hn883_2 : ad883.block ≠ gb882 := Kd.own_blk (Kd.R_ne HO877.out BK882.out (by decide)); replace hx883_0 := (cell_far (p := ⟨gb882, 0, none⟩) (by first | (rw [add_block]; exact hn883_0) | (show (Addr.add _ _).block ≠ _; rw [add_block]; exact hn883_0) | exact hn883_0) (.slice Ao20 t872.length co20)).trans hx883_0; replace hx883_0 := (cell_far (p := ⟨gb882, 1, none⟩) (by first | (rw [add_block]; exact hn883_1) | (show (Addr.add _ _).block ≠ _; rw [add_block]; exact hn883_1) | exact hn883_1) (.slice (some ad883) t875.length co23)).trans hx883_0; replace hx883_0 := (cell_far (p := ⟨gb882, 2, none⟩) (by first | (rw [add_block]; exact hn883_2) | (show (Addr.add _ _).block ≠ _; rw [add_block]; exact hn883_2) | exact hn883_2) (.slice Ao24 t878.length co24)).trans hx883_0; clear hn883_0; clear hn883_1; clear hn883_2; replace p883 := eq_true p883; replace q883 := eq_true q883; go_wp2; go_meet
      case rel => exact ⟨_, (!(rdOf false t875 a2)), rf_, H', ⟨oL_⟩, ⟨by (with_reducible repeat (first | apply rN_ | apply rD_)); exact rM_ (rF_ (p := ⟨gb882, 2, none⟩) (rF_ (p := ⟨gb882, 1, none⟩) (rF_ (p := ⟨gb882, 0, none⟩) (Kd.R_types HO874.out BK882.out (by decide)) (fun _ hk => hk.2) (.slice Ao20 t872.length co20)) (fun _ hk => hk.2) (.slice (some ad883) t875.length co23)) (fun _ hk => hk.2) (.slice Ao24 t878.length co24)) (fun _ hk => hk.1)⟩, ⟨by (with_reducible repeat (first | apply rN_ | apply rD_)); exact rM_ (rF_ (p := ⟨gb882, 2, none⟩) (rF_ (p := ⟨gb882, 1, none⟩) (rF_ (p := ⟨gb882, 0, none⟩) (Kd.R_types HO877.out BK882.out (by decide)) (fun _ hk => hk.2) (.slice Ao20 t872.length co20)) (fun _ hk => hk.2) (.slice (some ad883) t875.length co23)) (fun _ hk => hk.2) (.slice Ao24 t878.length co24)) (fun _ hk => trivial)⟩, ⟨by (with_reducible repeat (first | apply rN_ | apply rD_)); exact rM_ (rF_ (p := ⟨gb882, 2, none⟩) (rF_ (p := ⟨gb882, 1, none⟩) (rF_ (p := ⟨gb882, 0, none⟩) (Kd.R_types HO880.out BK882.out (by decide)) (fun _ hk => hk.2) (.slice Ao20 t872.length co20)) (fun _ hk => hk.2) (.slice (some ad883) t875.length co23)) (fun _ hk => hk.2) (.slice Ao24 t878.length co24)) (fun _ hk => hk.1)⟩, ⟨by (with_reducible repeat (first | refine bN_ ?_ _ | refine bD_ ?_)); refine blk_far ?_ NB865_882.out _; (with_reducible repeat (first | refine bN_ ?_ _ | refine bD_ ?_)); refine blk_far ?_ NB865_882.out _; (with_reducible repeat (first | refine bN_ ?_ _ | refine bD_ ?_)); refine blk_far ?_ NB865_882.out _; (with_reducible repeat (first | refine bN_ ?_ _ | refine bD_ ?_)); exact BK865.out⟩, ⟨by (with_reducible repeat (first | refine bN_ ?_ _ | refine bD_ ?_)); refine blk_put (cs := #[.slice Ao20 t872.length co20, .slice (some ad883) t875.length co23, .slice none 0 0]) ?_ 2 _ rfl; (with_reducible repeat (first | refine bN_ ?_ _ | refine bD_ ?_)); refine blk_put (cs := #[.slice Ao20 t872.length co20, .slice none 0 0, .slice none 0 0]) ?_ 1 _ rfl; (with_reducible repeat (first | refine bN_ ?_ _ | refine bD_ ?_)); refine blk_put (cs := #[.slice none 0 0, .slice none 0 0, .slice none 0 0]) ?_ 0 _ rfl; (with_reducible repeat (first | refine bN_ ?_ _ | refine bD_ ?_)); exact BK882.out⟩, ⟨hB_⟩⟩
     rw [if_neg c27] at H; exact absurd H (by simp)
    rw [if_neg c26] at H; exact absurd H (by simp)
   rw [if_neg c25] at H; obtain ⟨c25b0, c25b1⟩ := bn_ c25; (first | rw [c25b0] | (simp only [i64_w, i32_w]; rw [c25b0]) | skip)
   have H' := Z_ H; clear H; go_wp2; go_meet
   case rel => exact ⟨_, (true), rf_, H', ⟨oL_⟩, ⟨by (with_reducible repeat (first | apply rN_ | apply rD_)); exact rM_ (rF_ (p := ⟨gb882, 2, none⟩) (rF_ (p := ⟨gb882, 1, none⟩) (rF_ (p := ⟨gb882, 0, none⟩) (Kd.R_types HO874.out BK882.out (by decide)) (fun _ hk => hk.2) (.slice Ao20 t872.length co20)) (fun _ hk => hk.2) (.slice Ao23 t875.length co23)) (fun _ hk => hk.2) (.slice Ao24 t878.length co24)) (fun _ hk => hk.1)⟩, ⟨by (with_reducible repeat (first | apply rN_ | apply rD_)); exact rM_ (rF_ (p := ⟨gb882, 2, none⟩) (rF_ (p := ⟨gb882, 1, none⟩) (rF_ (p := ⟨gb882, 0, none⟩) (Kd.R_types HO877.out BK882.out (by decide)) (fun _ hk => hk.2) (.slice Ao20 t872.length co20)) (fun _ hk => hk.2) (.slice Ao23 t875.length co23)) (fun _ hk => hk.2) (.slice Ao24 t878.length co24)) (fun _ hk => trivial)⟩, ⟨by (with_reducible repeat (first | apply rN_ | apply rD_)); exact rM_ (rF_ (p := ⟨gb882, 2, none⟩) (rF_ (p := ⟨gb882, 1, none⟩) (rF_ (p := ⟨gb882, 0, none⟩) (Kd.R_types HO880.out BK882.out (by decide)) (fun _ hk => hk.2) (.slice Ao20 t872.length co20)) (fun _ hk => hk.2) (.slice Ao23 t875.length co23)) (fun _ hk => hk.2) (.slice Ao24 t878.length co24)) (fun _ hk => hk.1)⟩, ⟨by (with_reducible repeat (first | refine bN_ ?_ _ | refine bD_ ?_)); refine blk_far ?_ NB865_882.out _; (with_reducible repeat (first | refine bN_ ?_ _ | refine bD_ ?_)); refine blk_far ?_ NB865_882.out _; (with_reducible repeat (first | refine bN_ ?_ _ | refine bD_ ?_)); refine blk_far ?_ NB865_882.out _; (with_reducible repeat (first | refine bN_ ?_ _ | refine bD_ ?_)); exact BK865.out⟩, ⟨by (with_reducible repeat (first | refine bN_ ?_ _ | refine bD_ ?_)); refine blk_put (cs := #[.slice Ao20 t872.length co20, .slice Ao23 t875.length co23, .slice none 0 0]) ?_ 2 _ rfl; (with_reducible repeat (first | refine bN_ ?_ _ | refine bD_ ?_)); refine blk_put (cs := #[.slice Ao20 t872.length co20, .slice none 0 0, .slice none 0 0]) ?_ 1 _ rfl; (with_reducible repeat (first | refine bN_ ?_ _ | refine bD_ ?_)); refine blk_put (cs := #[.slice none 0 0, .slice none 0 0, .slice none 0 0]) ?_ 0 _ rfl; (with_reducible repeat (first | refine bN_ ?_ _ | refine bD_ ?_)); exact BK882.out⟩, ⟨hB_⟩⟩
  case rest =>
   clear HC16; (try clear c1); (try clear c2); (try clear p2); (try clear c4); (try clear p6); (try clear c7); (try clear p8); (try clear q8); (try clear hx8); (try clear c14); (try clear c14b0); (try clear c14b1); (try clear c21); (try clear c25); (try clear c25b0); (try clear c25b1); (try clear c26); (try clear c26b0); (try clear c27); (try clear c27b0); (try clear c28); (try clear hcz17_0); (try clear hcz17_1); (try clear hcz22_0); (try clear hcz22_1); (try clear hcz22_2); (try clear hcz29_0); (try clear hcz29_1); (try clear hcz29_2); (try clear hfz17_0); (try clear hfz17_1); (try clear hfz22_0); (try clear hfz22_1); (try clear hfz22_2); (try clear hfz29_0); (try clear hfz29_1); (try clear hfz29_2); (try clear hx883_0); (try clear p883); (try clear q883)
   obtain ⟨kq, x45_15, rfl, HA, HJ15, HO_883000, HO_883001, HO_883002, BK865, BK882, HB⟩ := hcut
   cases kq with
   | zero => exact absurd HA.out (by simp [diffs_Path.j0])
   | succ kj15 =>
    have H := HA.out; clear HA; simp only [diffs_Path.j0] at H; by_cases c30 : x45_15 = true
    ·subst c30
     rw [if_pos rfl] at H; simp only [oJ_, pI_] at H; obtain ⟨rfl, rfl, rfl⟩ := H; go_wp2; go_ret3; exact ⟨_, eW_, by first | exact Kd.R_nil _ _ _ _ _ | exact Kd.N_nil _ _ _ _ _ | exact Kd.V_nil _ _ _ _ _ | exact Kd.Q_nil _ _ _ _ _ | exact Kd.S_nil _ _ _ _ _, hB_⟩
    replace c30 := bE_.mpr c30; subst c30; have H1 : (diffs_Path.l0 kj15 ([] : List Int) a2 a0_0 l0_1 t872 t875 t878) = some (r1, r2, r3) := by rw [if_neg (show ¬ (false = true) by decide)] at H; exact H
    clear H; have H := H1; clear H1; have H' := Z_ H; clear H; go_wp2; go_loopg [12, 13] kj15 (fun kq v12 v13 w' => ∃ (x12_2 : List Int) (x13_2 : Int), v13 = .int .i64 x13_2 ∧ Aside0 (diffs_Path.l0 kq x12_2 x13_2 a0_0 l0_1 t872 t875 t878 = some (r1, r2, r3)) ∧ Aside0 (kq ≤ kj15) ∧ Aside0 (Kd.R (Kd.int .i64) 3 w' w.heap.size (fun k_ => some k_ ≠ ((.slice Ao20 t872.length co20) : Value).ownBlock ∧ some k_ ≠ ((.slice Ao24 t878.length co24) : Value).ownBlock) v12 x12_2) ∧ Aside0 (Kd.R (Kd.int .i64) 3 w' w.heap.size (fun k_ => some k_ ≠ (v12 : Value).ownBlock ∧ some k_ ≠ ((.slice Ao24 t878.length co24) : Value).ownBlock) (.slice Ao20 t872.length co20) t872) ∧ Aside0 (Kd.R Kd.bool 4 w' w.heap.size (fun _ => True) (.slice Ao23 t875.length co23) t875) ∧ Aside0 (Kd.R (Kd.int .i64) 3 w' w.heap.size (fun k_ => some k_ ≠ (v12 : Value).ownBlock ∧ some k_ ≠ ((.slice Ao20 t872.length co20) : Value).ownBlock) (.slice Ao24 t878.length co24) t878) ∧ Aside0 (w'.heap[gb865]? = some (.cells #[.int .i64 a0_0, (.slice A0_1 l0_1.length c0_1)] 24 (0, 0))) ∧ Aside0 (w'.heap[gb882]? = some (.cells #[(.slice Ao20 t872.length co20), (.slice Ao23 t875.length co23), (.slice Ao24 t878.length co24)] 88 (0, 0))) ∧ Aside0 (Below w.heap.size w w'))
    case atStart => exact ⟨(([] : List Int)), (a2), rf_, H', ⟨nR_ _⟩, ⟨by first | exact Kd.R_nil _ _ _ _ _ | exact Kd.N_nil _ _ _ _ _ | exact Kd.V_nil _ _ _ _ _ | exact Kd.Q_nil _ _ _ _ _ | exact Kd.S_nil _ _ _ _ _⟩, ⟨by (with_reducible repeat (first | apply rN_ | apply rD_)); exact rM_ HO_883000.out (fun _ hk => ⟨(by simp [Value.ownBlock]), hk⟩)⟩, ⟨rK_ HO_883001.out⟩, ⟨by (with_reducible repeat (first | apply rN_ | apply rD_)); exact rM_ HO_883002.out (fun _ hk => ⟨(by simp [Value.ownBlock]), hk⟩)⟩, ⟨bR_ BK865.out⟩, ⟨bR_ BK882.out⟩, ⟨hB_⟩⟩
    case round =>
     clear H'; (try clear c1); (try clear c2); (try clear p2); (try clear c3); (try clear c4); (try clear p6); (try clear c7); (try clear p8); (try clear q8); (try clear hx8); (try clear c14); (try clear c14b0); (try clear c14b1); (try clear c21); (try clear c25); (try clear c25b0); (try clear c25b1); (try clear c26); (try clear c26b0); (try clear c27); (try clear c27b0); (try clear c28); (try clear c30); (try clear hcz17_0); (try clear hcz17_1); (try clear hcz22_0); (try clear hcz22_1); (try clear hcz22_2); (try clear hcz29_0); (try clear hcz29_1); (try clear hcz29_2); (try clear hfz17_0); (try clear hfz17_1); (try clear hfz22_0); (try clear hfz22_1); (try clear hfz22_2); (try clear hfz29_0); (try clear hfz29_1); (try clear hfz29_2); (try clear hx883_0); (try clear p2); (try clear p6); (try clear p8); (try clear p883); (try clear q8); (try clear q883)
     obtain ⟨x12_2, x13_2, rfl, HA, HK2, HO_12, HO_883000, HO_883001, HO_883002, BK865, BK882, HB⟩ := hrel
     cases gk with
     | zero => exact absurd HA.out (by simp [diffs_Path.l0])
     | succ k2 =>
      have H := HA.out; clear HA; simp only [diffs_Path.l0] at H; by_cases c31 : 0 ≤ x13_2
      ·rw [if_pos c31] at H
       have c31b0 : decide (0 ≤ x13_2) = true := eT_ c31; clear c31; by_cases c32 : x13_2 < (t878.length : Int)
       ·rw [if_pos c32] at H
        have c32b0 : decide (x13_2 < (t878.length : Int)) = true := eT_ c32; clear c32; by_cases c33 : (rd t878 x13_2) ≥ 0
        ·rw [if_pos c33] at H
         have c33b0 : decide (0 ≤ (rd t878 x13_2)) = true := eT_ c33; clear c33; by_cases c34 : x12_2.length < 17592186044416
         ·rw [if_pos c34] at H
          have LMc34 := Z_ c34; clear c34; obtain ⟨y886, hy886⟩ : ∃ y_ : List Int, y_ = (x12_2 ++ [rd t878 x13_2]) := ⟨_, rfl⟩; replace H : (if 0 ≤ (rd t878 x13_2) then (if (rd t878 x13_2) < (l0_1.length : Int) then (diffs_Path.l0 k2 y886 ((rd_T39 l0_1 (rd t878 x13_2)).f0) a0_0 l0_1 t872 t875 t878) else (none)) else (none)) = some (r1, r2, r3) := by first | (rw [hy886]; with_reducible exact H) | (have H2_ := (oB_ _ _).symm.trans H; rw [hy886]; with_reducible exact H2_) | (have H2_ := (oB_ _ _).symm.trans H; with_reducible exact H2_) | with_reducible exact H | (rw [hy886]; exact H) | exact H
          have Ny886 := Z_ hy886; clear hy886; by_cases c35 : 0 ≤ (rd t878 x13_2)
          ·rw [if_pos c35] at H
           have c35b0 : decide (0 ≤ (rd t878 x13_2)) = true := eT_ c35; clear c35; by_cases c36 : (rd t878 x13_2) < (l0_1.length : Int)
           ·rw [if_pos c36] at H
            have c36b0 : decide ((rd t878 x13_2) < (l0_1.length : Int)) = true := eT_ c36; clear c36; have H' := Z_ H; clear H; have hnb37 := NB882_865.out; have hnc37 := NB865_882.out; obtain ⟨⟨hcz38_0, hcz38_1, hcz38_2⟩, hfz38_0, hfz38_1, hfz38_2⟩ := f3_ BK882.out; have p884 : 0 ≤ (x13_2 : Int) := dT_ as_; have q884 : x13_2 < (t878.length : Int) := dT_ as_; obtain ⟨ad884, e884, hx884_0⟩ := Kd.at_int (rR_ HO_883002.out).2.2 x13_2 p884 q884; cases e884
            replace p884 := eq_true p884; replace q884 := eq_true q884; have p885 : 0 ≤ (x13_2 : Int) := dT_ as_; have q885 : x13_2 < (t878.length : Int) := dT_ as_; obtain ⟨ad885, e885, hx885_0⟩ := Kd.at_int (rR_ HO_883002.out).2.2 x13_2 p885 q885; obtain rfl : ad884 = ad885 := (by injection e885); replace p885 := eq_true p885; replace q885 := eq_true q885; try go_wp2_with (first | ((with_reducible refine gate_builtin (b := .append) (xs := #[.tmp 64, .tmp 70]) rfl ?_); at_builtin; refine Kd.R_append (Kd.int .i64) (w0 := w) w.heap.size rfl (.tmp 64) (.tmp 70) 29 3 (.int .i64 0) 8 rfl Try.underlying29 info3 rfl (by decide) (by omega) u12 x12_2 (rd t878 x13_2) [.int .i64 (rd t878 x13_2)] (fun k_ => some k_ ≠ (.slice Ao20 t872.length co20 : Value).ownBlock ∧ some k_ ≠ (.slice (some ad884) t878.length co24 : Value).ownBlock) (fun _ => False) rfl rfl ?aP (fun _ hk => hk.elim) ?aF ?aO ?aB ?aS ?aL ?_; (case aP => exact rfl); (case aB => exact hB_); (case aF => exact (fun k_ hk => ⟨Kd.fresh' (Kd.R_lt (rK_ HO_883000.out)) k_ hk, Kd.fresh' (Kd.R_lt (rK_ HO_883002.out)) k_ hk⟩)); (case aO => exact (rK_ HO_12.out)); (case aS => exact (fZ_ hB_)); (case aL => have := LMc34.out; omega); intro v887 w39 ho hb hg hat; rw [← Ny886.out] at ho; replace HO_883000 := Z_ (Kd.R_after (ok := (fun k_ => some k_ ≠ (.slice (some ad884) t878.length co24 : Value).ownBlock)) (by (with_reducible repeat (first | apply rN_ | apply rD_)); exact rM_ HO_883000.out (fun _ hk => ⟨hk.2, hk.1⟩)) hg hat); replace HO_883001 := Z_ (Kd.R_over' (rK_ HO_883001.out) (Kd.R_typed (rK_ HO_12.out)) (by decide) hg); replace HO_883002 := Z_ (Kd.R_after (ok := (fun k_ => some k_ ≠ (.slice Ao20 t872.length co20 : Value).ownBlock)) (by (with_reducible repeat (first | apply rN_ | apply rD_)); exact rM_ HO_883002.out (fun _ hk => ⟨hk.2, hk.1⟩)) hg hat); replace BK865 := Z_ (blk_grown (g := gb865) (o := .cells #[.int .i64 a0_0, .slice A0_1 l0_1.length c0_1] 24 (0, 0)) (bR_ BK865.out) hg (Kd.R_ne HO_12.out BK865.out (by decide))); replace BK882 := Z_ (blk_grown (g := gb882) (o := .cells #[.slice Ao20 t872.length co20, .slice Ao23 t875.length co23, .slice (some ad884) t878.length co24] 88 (0, 0)) (bR_ BK882.out) hg (Kd.R_ne HO_12.out BK882.out (by decide))); replace HB := Z_ (hb); have HO888 := Z_ (ho); clear HO_12; clear ho hb hg hat))
            replace HO_883000 := Z_ (rD_ HO_883000.out); replace HO_883001 := Z_ (rD_ HO_883001.out); replace HO_883002 := Z_ (rD_ HO_883002.out); replace HO888 := Z_ (rD_ HO888.out); replace BK865 := Z_ (bD_ BK865.out); replace BK882 := Z_ (bD_ BK882.out); replace HB := Z_ (fD_ HB.out); have p889 : 0 ≤ (x13_2 : Int) := dT_ as_; have q889 : x13_2 < (t878.length : Int) := dT_ as_; obtain ⟨ad889, e889, hx889_0⟩ := Kd.at_int (rR_ HO_883002.out).2.2 x13_2 p889 q889; obtain rfl : ad884 = ad889 := (by injection e889); replace p889 := eq_true p889; replace q889 := eq_true q889; have p890 : 0 ≤ ((rd t878 x13_2) : Int) := dT_ as_; have q890 : (rd t878 x13_2) < (l0_1.length : Int) := dT_ as_; obtain ⟨ad890, e890, hx890_0, hx890_1, hx890_2⟩ := at_T39 HR0_1.out (rd t878 x13_2) p890 q890; have hw890_2 := hx890_2; have hw890_1 := hx890_1; have hw890_0 := hx890_0; cases e890
            replace hx890_0 := (HB.out.cell (World.block_lt_of_cell? w _ hx890_0)).trans hx890_0; replace hx890_1 := (HB.out.cell (World.block_lt_of_cell? w _ hx890_1)).trans hx890_1; replace hx890_2 := (HB.out.cell (World.block_lt_of_cell? w _ hx890_2)).trans hx890_2; replace p890 := eq_true p890; replace q890 := eq_true q890; refine start_ (n := 11) (S := fun w' => w'.cell? ⟨gb865, 0, none⟩ = some (.int .i64 a0_0) ∧ w'.cell? ⟨gb865, 1, none⟩ = some (.slice (some ad890) l0_1.length c0_1) ∧ w'.cell? ⟨gb882, 0, none⟩ = some (.slice Ao20 t872.length co20) ∧ w'.cell? ⟨gb882, 1, none⟩ = some (.slice Ao23 t875.length co23) ∧ w'.cell? ⟨gb882, 2, none⟩ = some (.slice (some ad884) t878.length co24) ∧ w'.cell? (ad884.add (x13_2).toNat) = some (.int .i64 (rd t878 x13_2)) ∧ w'.cell? (ad890.add (((rd t878 x13_2)).toNat * 3)) = some (.int .i64 ((rd_T39 l0_1 (rd t878 x13_2)).f0)) ∧ w'.cell? ⟨(ad890.add (((rd t878 x13_2)).toNat * 3)).block, (ad890.add (((rd t878 x13_2)).toNat * 3)).off + 1, none⟩ = some (.int .i64 ((rd_T39 l0_1 (rd t878 x13_2)).f1)) ∧ w'.cell? ⟨(ad890.add (((rd t878 x13_2)).toNat * 3)).block, (ad890.add (((rd t878 x13_2)).toNat * 3)).off + 2, none⟩ = some (.int .i64 ((rd_T39 l0_1 (rd t878 x13_2)).f2))) (ds := []) #[false, false, false, false, false, false, false, false, false, false, false] (by kernel_rfl) rfl rfl ⟨(bC_ BK865.out 0).trans rfl, (bC_ BK865.out 1).trans rfl, (bC_ BK882.out 0).trans rfl, (bC_ BK882.out 1).trans rfl, (bC_ BK882.out 2).trans rfl, hx889_0, ((HB.out.cell (World.block_lt_of_cell? w _ hw890_0)).trans hw890_0), ((HB.out.cell (World.block_lt_of_cell? w _ hw890_1)).trans hw890_1), ((HB.out.cell (World.block_lt_of_cell? w _ hw890_2)).trans hw890_2)⟩ (fun hHeld => ?_); refine with_tabW diffs_Path.tab10 diffs_Path.bits10 (fun HT_ HW_ => ?_); generalize w39.drew = w40 at HO_883000 HO_883001 HO_883002 HO888 BK865 BK882 HB hx889_0 hx890_0 hx890_1 hx890_2 hHeld ⊢; refine pP_ 0 54 ?_; refine pP_ 2 56 ?_; refine pP_ 4 58 ?_; refine pT_ 1 55 ?_; refine pT_ 3 57 ?_; refine pP_ 5 59 ?_; refine pT_ 6 60 ?_; refine pP_ 7 61 ?_; refine pP_ 8 62 ?_; refine pT_ 9 63 ?_; refine pP_ 10 13 ?_; refine dN_ ?_; try go_wp2
            go_roundg k2
            case measure => have := HJ15.out; have := HK2.out; omega
            case rel => exact ⟨(y886), ((rd_T39 l0_1 (rd t878 x13_2)).f0), rf_, H', ⟨by have := HJ15.out; have := HK2.out; omega⟩, ⟨rK_ HO888.out⟩, ⟨by (with_reducible repeat (first | apply rN_ | apply rD_)); exact rM_ HO_883000.out (fun _ hk => ⟨hk.2, hk.1⟩)⟩, ⟨rK_ HO_883001.out⟩, ⟨by (with_reducible repeat (first | apply rN_ | apply rD_)); exact rM_ HO_883002.out (fun _ hk => ⟨hk.2, hk.1⟩)⟩, ⟨bR_ BK865.out⟩, ⟨bR_ BK882.out⟩, ⟨hB_⟩⟩
           rw [if_neg c36] at H; exact absurd H (by simp)
          rw [if_neg c35] at H; exact absurd H (by simp)
         rw [if_neg c34] at H; exact absurd H (by simp)
        rw [if_neg c33] at H; have c33b0 : decide (0 ≤ (rd t878 x13_2)) = false := eF_ c33; clear c33; replace H := oS_.mp H; obtain ⟨t891, A410, H⟩ := H; have A41 := Z_ A410; clear A410; simp only [oJ_, pI_] at H; obtain ⟨rfl, rfl, rfl⟩ := H; have hnb42 := NB882_865.out; have hnc42 := NB865_882.out; obtain ⟨⟨hcz43_0, hcz43_1, hcz43_2⟩, hfz43_0, hfz43_1, hfz43_2⟩ := f3_ BK882.out; have p884 : 0 ≤ (x13_2 : Int) := dT_ as_; have q884 : x13_2 < (t878.length : Int) := dT_ as_; obtain ⟨ad884, e884, hx884_0⟩ := Kd.at_int (rR_ HO_883002.out).2.2 x13_2 p884 q884; cases e884
        replace p884 := eq_true p884; replace q884 := eq_true q884; obtain ⟨Ao44, co44, eo44⟩ := rS_ HO_12.out; subst eo44; go_wp2_with (first | ((with_reducible refine gate_callee (f := 94) rfl ?_); refine gL_ (some 73) Try.func94 #[.slice Ao44 x12_2.length co44] ?_; (with_reducible refine (slices_Reverse_int_int.calls k2 (fun k_ => some k_ = (.slice Ao44 x12_2.length co44 : Value).ownBlock) (.slice Ao44 x12_2.length co44) x12_2 t891 w _ ?side1 ?side2 A41.out).mono ?_); (case side1 => repeat (first | (with_reducible first | exact HB.out | apply fA_ | apply pB_ | apply fD_ | refine fE_ ?_ GE865.out | refine fE_ ?_ GE882.out) | exact HB.out)); (case side2 => exact Kd.R_tight rfl HO_12.out); rintro e w45 ⟨rfl, hy0, hb, hkp⟩; refine ⟨_, rfl, ?_⟩; replace HO_883000 := Z_ (rM_ (ok' := fun k_ => some k_ ≠ (.slice Ao44 x12_2.length co44 : Value).ownBlock ∧ some k_ ≠ (.slice (some ad884) t878.length co24 : Value).ownBlock) (Kd.R_keptB (HO_883000.out) hkp (fun k_ hk_ hs_ => (hk_.1) hs_)) (fun k_ hk_ => ⟨hk_.1.1, hk_.1.2⟩)); replace HO_883001 := Z_ (rM_ (ok' := fun k_ => True) (Kd.R_keptB ((Kd.R_apart' HO_883001.out (Kd.R_typed HO_12.out) (by decide))) hkp (fun k_ hk_ hs_ => (hk_.2) hs_)) (fun k_ hk_ => trivial)); replace HO_883002 := Z_ (rM_ (ok' := fun k_ => some k_ ≠ (.slice Ao44 x12_2.length co44 : Value).ownBlock ∧ some k_ ≠ (.slice Ao20 t872.length co20 : Value).ownBlock) (Kd.R_keptB (HO_883002.out) hkp (fun k_ hk_ hs_ => (hk_.1) hs_)) (fun k_ hk_ => ⟨hk_.1.1, hk_.1.2⟩)); replace BK865 := Z_ (blk_kept (bR_ BK865.out) hkp (fun hs_ => (fun e_ => (Kd.R_ne HO_12.out BK865.out (by decide)) e_) hs_)); replace BK882 := Z_ (blk_kept (bR_ BK882.out) hkp (fun hs_ => (fun e_ => (Kd.R_ne HO_12.out BK882.out (by decide)) e_) hs_)); replace HO_12 := Z_ (Kd.R_reok rfl hy0 (fun k_ e_ => HO_12.out.1 k_ e_)); replace HB := Z_ (hb); (try clear hb); (try clear hkp); (try clear hy0))); go_ret3; exact ⟨_, eW_, by (with_reducible repeat (first | apply rN_ | apply rD_)); exact rM_ HO_12.out (fun _ hk => trivial), hB_⟩
       rw [if_neg c32] at H; exact absurd H (by simp)
      rw [if_neg c31] at H; exact absurd H (by simp)
 rw [if_neg c14] at H; obtain ⟨c14b0, c14b1⟩ := bn_ c14; (first | rw [c14b0] | (simp only [i64_w, i32_w]; rw [c14b0]) | skip)
 simp only [oJ_, pI_] at H; obtain ⟨rfl, rfl, rfl⟩ := H; go_wp2; go_ret3; exact ⟨_, eW_, by first | exact Kd.R_nil _ _ _ _ _ | exact Kd.N_nil _ _ _ _ _ | exact Kd.V_nil _ _ _ _ _ | exact Kd.Q_nil _ _ _ _ _ | exact Kd.S_nil _ _ _ _ _, hB_⟩
end Go.Proofs.Ytpolojoeabmhdaa.A
/- CheckPath, Apart, Path: what they answer. -/
namespace Go.Proofs.Ytpolojoeabmhdaa.A
open Go.RowKit Go.Proofs.YtpolojoeabmhdaaW.PrintWords Go.Proofs.YtpolojoeabmhdaaW.PrintLast Go.Proofs.YtpolojoeabmhdaaW.PrintMore
section
variable {n : Nat} {L : List S39}
structure PathIs (n : Nat) (L : List S39) (u v a : Int) (l : List Int) : Prop where
  i : Idx L l
  c : (l.length : Int) ≤ n - 1
  w : ∃ W, W ≤ a ∧ Wk L u l v W
def Nodes (n : Nat) (u v : Int) : Prop := (0 ≤ u ∧ u < n) ∧ (0 ≤ v ∧ v < n)
/-- CheckPath of the program. -/
theorem cpath_ev (hV : Valid n L) (u v a : Int) (l : List Int) (hl : l.length ≤ 17592186044416) : ∃ e, Ev (fun k => diffs_CheckPath.f k n L u v a l) e ∧ Code (Nodes n u v ∧ Idx L l) (PathIs n L u v a l) e := by
  have hn1 := hV.n1
  have hn2 := hV.n2
  obtain ⟨b, b1, b2⟩ := indices_iff (n := (n : Int)) (L := L) (l := l)
  have hask := fun p q r : Bool => asked_ev n L [p, q, r] (by simp)
  simp only [if_pos (validB_iff.2 hV)] at hask
  unfold diffs_CheckPath.f
  simp only [in_some, b1, Option.bind_some, wrap_id (show (-9223372036854775808 : Int) ≤ (n : Int) - 1 by omega) (show (n : Int) - 1 < 9223372036854775808 by omega)]
  have e1 : (decide (0 ≤ u) && decide (u ≤ (n : Int) - 1)) = true ↔ 0 ≤ u ∧ u < (n : Int) := by simp; omega
  have e2 : (decide (0 ≤ v) && decide (v ≤ (n : Int) - 1)) = true ↔ 0 ≤ v ∧ v < (n : Int) := by simp; omega
  generalize (decide (0 ≤ u) && decide (u ≤ (n : Int) - 1)) = p at e1 ⊢
  generalize (decide (0 ≤ v) && decide (v ≤ (n : Int) - 1)) = q at e2 ⊢
  by_cases hA : p = true ∧ q = true ∧ b = true
  case neg =>
    have h1 : Ev (fun k => diffs_asked.f k n L [p, q, b]) 1 := by
      have := hask p q b
      rw [if_pos (by cases p <;> cases q <;> cases b <;> first | rfl | exact absurd ⟨rfl, rfl, rfl⟩ hA)] at this
      exact this
    have hno : ¬ (Nodes n u v ∧ Idx L l) := fun h => hA ⟨e1.2 h.1.1, e2.2 h.1.2, b2.2 h.2⟩
    exact ⟨1, h1.bind (Ev.neg (by decide) (Ev.now _)), fun _ => rfl, fun h => absurd h hno, fun h => absurd h hno⟩
  obtain ⟨rfl, rfl, rfl⟩ := hA
  have hi := b2.1 rfl
  have hN : Nodes n u v := ⟨e1.1 rfl, e2.1 rfl⟩
  have h0 : Ev (fun k => diffs_asked.f k n L [true, true, true]) 0 := by
    have := hask true true true
    rw [if_neg (by decide)] at this
    exact this
  obtain ⟨W, c, g1, g2, g3⟩ := walk_ev hV.e hi hl n u v
  have hT : Ev (fun k => diffs_CheckPath.j0 k true) 43 := Ev.step (f := fun _ => some 43) (fun k => by rw [diffs_CheckPath.j0]; rfl) (Ev.now _)
  have hF : Ev (fun k => diffs_CheckPath.j0 k false) 0 := Ev.step (f := fun _ => some 0) (fun k => by rw [diffs_CheckPath.j0]; rfl) (Ev.now _)
  cases c with
  | false =>
    exact ⟨43, h0.bind (Ev.pos rfl (g1.bind (Ev.neg (by simp) hT))), fun h => absurd ⟨hN, hi⟩ h, fun _ _ => rfl, fun _ h => by
      obtain ⟨W', _, h2⟩ := h.w
      exact absurd h2 (g3 rfl _)⟩
  | true =>
    obtain ⟨W', w1, w2⟩ := g2 rfl
    by_cases c1 : (l.length : Int) > (n : Int) - 1
    · exact ⟨43, h0.bind (Ev.pos rfl (g1.bind (Ev.pos rfl (Ev.pos c1 hT)))), fun h => absurd ⟨hN, hi⟩ h, fun _ _ => rfl, fun _ h => by have := h.c; omega⟩
    obtain rfl := w2 (by omega)
    by_cases c2 : W' > a
    · refine ⟨43, h0.bind (Ev.pos rfl (g1.bind (Ev.pos rfl (Ev.neg c1 ?_)))), fun h => absurd ⟨hN, hi⟩ h, fun _ _ => rfl, fun _ h => by
        obtain ⟨W'', h1, h2⟩ := h.w
        have := w1.unique h2
        omega⟩
      simp only [decide_eq_true c2]; exact hT
    · refine ⟨0, h0.bind (Ev.pos rfl (g1.bind (Ev.pos rfl (Ev.neg c1 ?_)))), fun h => absurd ⟨hN, hi⟩ h, fun _ h => absurd ⟨hi, by omega, W', by omega, w1⟩ h, fun _ _ => rfl⟩
      simp only [decide_eq_false c2]; exact hF
theorem cpath_bad {m : Int} (hv : ¬ validB m L = true) (u v a : Int) (l : List Int) : Ev (fun k => diffs_CheckPath.f k m L u v a l) 40 := by
  obtain ⟨b, b1, _⟩ := indices_iff (n := m) (L := L) (l := l)
  unfold diffs_CheckPath.f
  simp only [in_some, b1, Option.bind_some]
  generalize (decide (0 ≤ u) && decide (u ≤ wrap64 (m - 1))) = p
  generalize (decide (0 ≤ v) && decide (v ≤ wrap64 (m - 1))) = q
  have hask := asked_ev m L [p, q, b] (by simp)
  rw [if_neg hv] at hask
  exact hask.bind (Ev.neg (by decide) (Ev.now _))
/-- A walk that comes to no node twice. -/
def Simple (L : List S39) (l : List Int) : Prop := (∀ i j : Int, 0 ≤ i → i < j → j < l.length → (rd_T39 L (rd l i)).f1 ≠ (rd_T39 L (rd l j)).f1)
theorem path_l0 {la : List Int} (hla : la.length = n) (hn : n ≤ 256) {v : Int} {c : Nat} (hcn : (c : Int) < n) (hnode : ∀ i, i ≤ c → 0 ≤ it L la i v ∧ it L la i v < n) (hidx : ∀ i, i < c → 0 ≤ rd la (it L la i v) ∧ rd la (it L la i v) < (L.length : Int)) (hr : rd la (it L la c v) = -1) (N : Int) (lo : List Int) (ha : List Bool) : ∀ (q i : Nat), q + i = c →
    Ev (fun k => diffs_Path.l0 k (chain L la i v) (it L la i v) N L lo ha la) ((chain L la c v).reverse, true, 0) := by
  intro q
  induction q with
  | zero =>
    intro i hi
    obtain rfl : i = c := by omega
    have hy := hnode i (Nat.le_refl _)
    refine Ev.step (f := fun k => (slices_Reverse_int_int.f k (chain L la i v)).bind fun t => some (t, true, 0)) (fun k => ?_) ((reverse_ev _ (by rw [chain_len L la]; omega)).bind (Ev.now _))
    rw [diffs_Path.l0, if_pos hy.1, if_pos (by omega), hr, if_neg (by omega)]
  | succ q ih =>
    intro i hi
    have hx := hidx i (by omega)
    have hy := hnode i (by omega)
    refine Ev.step (fun k => ?_) (ih (i + 1) (by omega))
    rw [diffs_Path.l0, if_pos hy.1, if_pos (by omega), if_pos hx.1, if_pos (by rw [chain_len L la]; omega), if_pos hx.1, if_pos hx.2, chain_snoc, it_succ]
    rfl
/-- Apart and Path together. -/
theorem apath_ev (hV : Valid n L) (u v : Int) : ∃ a b e p, Ev (fun k => diffs_Apart.f k n L u v) (a, b, e) ∧ ApartIs n L u v a b e ∧ Ev (fun k => diffs_Path.f k n L u v) (p, b, e) ∧ (b = false → p = []) ∧ (b = true → Nodes n u v ∧ Idx L p ∧ (p.length : Int) ≤ n - 1 ∧ Wk L u p v a ∧ Simple L p ∧ ∀ i : Int, 0 ≤ i → i < p.length → (rd_T39 L (rd p i)).f1 ≠ u) := by
  have hn0 : 0 < n := by have := hV.n1; omega
  have hn : n ≤ 256 := by have := hV.n2; omega
  have hm := hmul hV
  obtain ⟨a, b, e, g1, g2⟩ := apart_ev hV hm u v
  have hask : ∀ p q : Bool, Ev (fun k => diffs_asked.f k n L [p, q]) (if (p && q) = true then 0 else 1) := fun p q => by
    have := asked_ev n L [p, q] (by simp)
    rw [if_pos (validB_iff.2 hV)] at this
    cases p <;> cases q <;> exact this
  have hT : ∀ e', Ev (fun k => diffs_Path.j0 k v e' true n L [] [] []) ([], false, e') := fun e' => Ev.step (f := fun _ => some ([], false, e')) (fun k => by rw [diffs_Path.j0]; rfl) (Ev.now _)
  have hpath : ∃ p, Ev (fun k => diffs_Path.f k n L u v) (p, b, e) ∧ (b = false → p = []) ∧ (b = true → Nodes n u v ∧ Idx L p ∧ (p.length : Int) ≤ n - 1 ∧ Wk L u p v a ∧ Simple L p ∧ ∀ i : Int, 0 ≤ i → i < p.length → (rd_T39 L (rd p i)).f1 ≠ u) := by
    unfold diffs_Path.f
    simp only [in_some, Option.bind_some, wrap_id (show (-9223372036854775808 : Int) ≤ (n : Int) - 1 by omega) (show (n : Int) - 1 < 9223372036854775808 by omega)]
    by_cases hnode : 0 ≤ u ∧ u < (n : Int) ∧ 0 ≤ v ∧ v < (n : Int)
    · have e1 : (decide (0 ≤ u) && decide (u ≤ (n : Int) - 1)) = true := by simp; omega
      have e2 : (decide (0 ≤ v) && decide (v ≤ (n : Int) - 1)) = true := by simp; omega
      rw [e1, e2]
      have hA := hask true true
      rw [if_pos (by simp)] at hA
      by_cases hs : Solv L
      · obtain ⟨rfl, hsh⟩ := g2.ok hnode hs
        obtain ⟨s, k1, k2, hf, k3⟩ := reach_yes hn0 (by omega) hV.e hm hs hnode.1 hnode.2.1
        have hsh2 := tree_short hV.e hnode.1 hnode.2.1 k2 hf hnode.2.2.1 hnode.2.2.2
        obtain ⟨hab, hbb⟩ := hsh.unique hsh2
        obtain ⟨B, T, hb, hb2, hB⟩ := k2.bf
        have l1 := hB.l1
        have l2 := hB.l2
        have l3 := hB.l3
        have hin : ∀ {r}, Ev (fun k => diffs_Path.j0 k v 0 (!(rdOf false s.ha v)) n L s.lo s.ha s.la) r → Ev (fun k => (diffs_asked.f k n L [true, true]).bind fun t871 => (if t871 = 0 then ((diffs_reach.f k n L u).bind fun bt872 => (if bt872.2.2.2 = 0 then (if 0 ≤ v then (if v < (bt872.2.1.length : Int) then (diffs_Path.j0 k v bt872.2.2.2 (!(rdOf false bt872.2.1 v)) n L bt872.1 bt872.2.1 bt872.2.2.1) else (none)) else (none)) else (diffs_Path.j0 k v bt872.2.2.2 true n L bt872.1 bt872.2.1 bt872.2.2.1))) else (some (([] : List Int), false, t871)))) r := fun h =>
          hA.bind (Ev.pos rfl (k3.bind (Ev.pos rfl (Ev.pos hnode.2.2.1 (Ev.pos (by simp only; omega) h)))))
        cases b with
        | false =>
          rw [← hbb] at hin
          refine ⟨[], hin (Ev.step (f := fun _ => some ([], false, 0)) (fun k => by rw [diffs_Path.j0]; rfl) (Ev.now _)), fun _ => rfl, fun h => by cases h⟩
        | true =>
          rw [← hbb] at hin
          obtain ⟨c, hc⟩ := k2.tree hV.e hf hnode.2.2.1 hnode.2.2.2 hbb.symm
          have hsrc : it L s.la c v = u := by have := hc.src; simpa using this
          have hidx : ∀ i, i < c → 0 ≤ rd s.la (it L s.la i v) ∧ rd s.la (it L s.la i v) < (L.length : Int) := fun i hi => by
            have hg := (goes_add L s.la i 1 v).1 (goes_le hc.goes (by omega))
            have hp := hg.2.1
            have hy := hc.node i (by omega)
            have := hB.p _ hy.1 hy.2 (hB.la_pos hy.1 hy.2 hp)
            exact ⟨this.1, this.2.1⟩
          have hlen : (chain L s.la c v).reverse.length = c := by rw [List.length_reverse, chain_len L s.la]
          have hfew := hc.few
          have hrd : ∀ i : Int, 0 ≤ i → i < c → rd (chain L s.la c v).reverse i = rd s.la (it L s.la (c - 1 - i.toNat) v) := fun i i0 i1 => by
            rw [rd_reverse _ i0 (by rw [chain_len L s.la]; omega), chain_len L s.la, show (c : Int) - 1 - i = ((c - 1 - i.toNat : Nat) : Int) from by omega, rd_chain L s.la c v _ (by omega)]
          have hto : ∀ i : Int, 0 ≤ i → i < c → (rd_T39 L (rd (chain L s.la c v).reverse i)).f1 = it L s.la (c - 1 - i.toNat) v := fun i i0 i1 => by
            rw [hrd i i0 i1]
            have hg := (goes_add L s.la (c - 1 - i.toNat) 1 v).1 (goes_le hc.goes (by omega))
            have hy := hc.node (c - 1 - i.toNat) (by omega)
            exact (hB.p _ hy.1 hy.2 (hB.la_pos hy.1 hy.2 hg.2.1)).2.2.2.1
          refine ⟨(chain L s.la c v).reverse, hin (Ev.step (f := fun k => diffs_Path.l0 k [] v n L s.lo s.ha s.la) (fun k => by rw [diffs_Path.j0]; rfl) ?_), fun h => (by cases h), fun _ => ⟨⟨⟨hnode.1, hnode.2.1⟩, hnode.2.2⟩, fun i i0 i1 => ?_, by omega, ?_, fun i j i0 ij j1 => ?_, fun i i0 i1 => ?_⟩⟩
          · exact path_l0 (by omega) hn hfew hc.node hidx hc.root n s.lo s.ha c 0 (by omega)
          · rw [hlen] at i1
            rw [hrd i i0 i1]
            exact hidx _ (by omega)
          · have := hc.walk
            rw [hsrc, ← hab] at this
            exact this
          · rw [hlen] at j1
            rw [hto i i0 (by omega), hto j (by omega) j1]
            exact fun h => hc.apart (c - 1 - j.toNat) (c - 1 - i.toNat) (by omega) (by omega) h.symm
          · rw [hlen] at i1
            rw [hto i i0 i1, ← hsrc]
            exact hc.apart (c - 1 - i.toNat) c (by omega) (Nat.le_refl _)
      · obtain ⟨rfl, rfl, rfl⟩ := g2.clash hnode hs
        exact ⟨[], hA.bind (Ev.pos rfl ((reach_no hn0 (by omega) hV.e hm hs u).bind (Ev.neg (by decide) (hT 41)))), fun _ => rfl, fun h => by cases h⟩
    · obtain ⟨rfl, rfl, rfl⟩ := g2.arg hnode
      have e : ((decide (0 ≤ u) && decide (u ≤ (n : Int) - 1)) && (decide (0 ≤ v) && decide (v ≤ (n : Int) - 1))) = false := by
        rw [Bool.eq_false_iff]
        simp only [ne_eq, Bool.and_eq_true, decide_eq_true_eq]
        omega
      have hA := hask (decide (0 ≤ u) && decide (u ≤ (n : Int) - 1)) (decide (0 ≤ v) && decide (v ≤ (n : Int) - 1))
      rw [e, if_neg (by simp)] at hA
      exact ⟨[], hA.bind (Ev.neg (by decide) (Ev.now _)), fun _ => rfl, fun h => by cases h⟩
  obtain ⟨p, p1, p2, p3⟩ := hpath
  exact ⟨a, b, e, p, g1, g2, p1, p2, p3⟩
end
end Go.Proofs.Ytpolojoeabmhdaa.A
namespace Go.Proofs.Ytpolojoeabmhdaa.A
open Go.RowKit Go.Proofs.YtpolojoeabmhdaaW.PrintWords Go.Proofs.YtpolojoeabmhdaaW.PrintLast Go.Proofs.YtpolojoeabmhdaaW.PrintMore
attribute [local go_sem] max2_int min2_int max_two min_two max_three min_three max_four min_four
mutual
def snowlinelaw04_fulfils.j0 : Nat → List Int → Bool → Int → List (S39) → Option (Bool)
 | 0, _, _, _, _ => none
 | k + 1, x1, x24, x922000, x922001 => if x24 = true then (some false) else (snowlinelaw04_fulfils.l0 k x1 x1 (x1.length : Int) 0 x922000 x922001)
def snowlinelaw04_fulfils.l0 : Nat → List Int → List Int → Int → Int → Int → List (S39) → Option (Bool)
 | 0, _, _, _, _, _, _ => none
 | k + 1, x1, x25, x26, x27, x922000, x922001 => if x27 < x26 then (if 0 ≤ x27 then (if x27 < (x25.length : Int) then (if (rd x25 x27) < (-1099511627776) then (snowlinelaw04_fulfils.j2 k x1 x25 x26 x27 true x922000 x922001) else (snowlinelaw04_fulfils.j2 k x1 x25 x26 x27 (decide ((rd x25 x27) > 1099511627776)) x922000 x922001)) else (none)) else (none)) else (snowlinelaw04_fulfils.l1 k x1 x922001 (x922001.length : Int) 0)
def snowlinelaw04_fulfils.j2 : Nat → List Int → List Int → Int → Int → Bool → Int → List (S39) → Option (Bool)
 | 0, _, _, _, _, _, _, _ => none
 | k + 1, x1, x25, x26, x27, x36, x922000, x922001 => if x36 = true then (some false) else (snowlinelaw04_fulfils.l0 k x1 x25 x26 (wrap64 (x27 + 1)) x922000 x922001)
def snowlinelaw04_fulfils.l1 : Nat → List Int → List (S39) → Int → Int → Option (Bool)
 | 0, _, _, _, _ => none
 | k + 1, x1, x39, x40, x41 => if x41 < x40 then (if 0 ≤ x41 then (if x41 < (x39.length : Int) then (if ((rd_T39 x39 x41).f0) < 0 then (snowlinelaw04_fulfils.j4 k x1 x39 x40 x41 true) else (if ((rd_T39 x39 x41).f0) ≥ (x1.length : Int) then (snowlinelaw04_fulfils.j4 k x1 x39 x40 x41 true) else (if ((rd_T39 x39 x41).f1) < 0 then (snowlinelaw04_fulfils.j4 k x1 x39 x40 x41 true) else (if ((rd_T39 x39 x41).f1) ≥ (x1.length : Int) then (snowlinelaw04_fulfils.j4 k x1 x39 x40 x41 true) else (if 0 ≤ ((rd_T39 x39 x41).f1) then (if ((rd_T39 x39 x41).f1) < (x1.length : Int) then (if 0 ≤ ((rd_T39 x39 x41).f0) then (if ((rd_T39 x39 x41).f0) < (x1.length : Int) then (snowlinelaw04_fulfils.j4 k x1 x39 x40 x41 (decide ((wrap64 ((rd x1 ((rd_T39 x39 x41).f1)) - (rd x1 ((rd_T39 x39 x41).f0)))) > ((rd_T39 x39 x41).f2)))) else (none)) else (none)) else (none)) else (none)))))) else (none)) else (none)) else (some true)
def snowlinelaw04_fulfils.j4 : Nat → List Int → List (S39) → Int → Int → Bool → Option (Bool)
 | 0, _, _, _, _, _ => none
 | k + 1, x1, x39, x40, x41, x82 => if x82 = true then (some false) else (snowlinelaw04_fulfils.l1 k x1 x39 x40 (wrap64 (x41 + 1)))
end
def snowlinelaw04_fulfils.f (k : Nat) (a0_0 : Int) (l0_1 : List (S39)) (l1 : List Int) : Option (Bool) := if (l1.length : Int) = a0_0 then (if (l1.length : Int) = 0 then (snowlinelaw04_fulfils.j0 k l1 true a0_0 l0_1) else (if 0 < (l1.length : Int) then (snowlinelaw04_fulfils.j0 k l1 ((rd l1 0) != 0) a0_0 l0_1) else (none))) else (snowlinelaw04_fulfils.j0 k l1 true a0_0 l0_1)
theorem snowlinelaw04_fulfils.mono_l : ∀ k, (∀ y0 y1 y2 y3, LeO (snowlinelaw04_fulfils.j0 k y0 y1 y2 y3) (snowlinelaw04_fulfils.j0 (k + 1) y0 y1 y2 y3)) ∧ (∀ y0 y1 y2 y3 y4 y5, LeO (snowlinelaw04_fulfils.l0 k y0 y1 y2 y3 y4 y5) (snowlinelaw04_fulfils.l0 (k + 1) y0 y1 y2 y3 y4 y5)) ∧ (∀ y0 y1 y2 y3 y4 y5 y6, LeO (snowlinelaw04_fulfils.j2 k y0 y1 y2 y3 y4 y5 y6) (snowlinelaw04_fulfils.j2 (k + 1) y0 y1 y2 y3 y4 y5 y6)) ∧ (∀ y0 y1 y2 y3, LeO (snowlinelaw04_fulfils.l1 k y0 y1 y2 y3) (snowlinelaw04_fulfils.l1 (k + 1) y0 y1 y2 y3)) ∧ (∀ y0 y1 y2 y3 y4, LeO (snowlinelaw04_fulfils.j4 k y0 y1 y2 y3 y4) (snowlinelaw04_fulfils.j4 (k + 1) y0 y1 y2 y3 y4))
 | 0 => ⟨fun _ _ _ _ r h => by simp [snowlinelaw04_fulfils.j0] at h, fun _ _ _ _ _ _ r h => by simp [snowlinelaw04_fulfils.l0] at h, fun _ _ _ _ _ _ _ r h => by simp [snowlinelaw04_fulfils.j2] at h, fun _ _ _ _ r h => by simp [snowlinelaw04_fulfils.l1] at h, fun _ _ _ _ _ r h => by simp [snowlinelaw04_fulfils.j4] at h⟩
 | k + 1 => by
  obtain ⟨ih0, ih1, ih2, ih3, ih4⟩ := snowlinelaw04_fulfils.mono_l k; refine ⟨?_, ?_, ?_, ?_, ?_⟩ <;> intros <;> (first | unfold snowlinelaw04_fulfils.j0 | unfold snowlinelaw04_fulfils.l0 | unfold snowlinelaw04_fulfils.j2 | unfold snowlinelaw04_fulfils.l1 | unfold snowlinelaw04_fulfils.j4) <;> repeat' first | (with_reducible first | exact ih0 _ _ _ _ | exact ih1 _ _ _ _ _ _ | exact ih2 _ _ _ _ _ _ _ | exact ih3 _ _ _ _ | exact ih4 _ _ _ _ _ | exact LeO.refl _ | exact LeO.none _ | refine LeO.ite ?_ ?_ | refine LeO.bind ?_ (fun _ => ?_)) | exact ih0 _ _ _ _ | exact ih1 _ _ _ _ _ _ | exact ih2 _ _ _ _ _ _ _ | exact ih3 _ _ _ _ | exact ih4 _ _ _ _ _ | exact LeO.none _ | refine LeO.ite ?_ ?_ | refine LeO.bind ?_ (fun _ => ?_)
theorem snowlinelaw04_fulfils.mono : ∀ a0 a1 a2 k, LeO (snowlinelaw04_fulfils.f k a0 a1 a2) (snowlinelaw04_fulfils.f (k + 1) a0 a1 a2) := by
 intro a0 a1 a2 k; obtain ⟨ih0, ih1, ih2, ih3, ih4⟩ := snowlinelaw04_fulfils.mono_l k; unfold snowlinelaw04_fulfils.f; repeat' first | (with_reducible first | exact ih0 _ _ _ _ | exact ih1 _ _ _ _ _ _ | exact ih2 _ _ _ _ _ _ _ | exact ih3 _ _ _ _ | exact ih4 _ _ _ _ _ | exact LeO.refl _ | exact LeO.none _ | refine LeO.ite ?_ ?_ | refine LeO.bind ?_ (fun _ => ?_)) | exact ih0 _ _ _ _ | exact ih1 _ _ _ _ _ _ | exact ih2 _ _ _ _ _ _ _ | exact ih3 _ _ _ _ | exact ih4 _ _ _ _ _ | exact LeO.none _ | refine LeO.ite ?_ ?_ | refine LeO.bind ?_ (fun _ => ?_)
set_option maxHeartbeats 8000000 in
set_option maxRecDepth 100000 in
theorem snowlinelaw04_fulfils.calls (k : Nat) (a0_0 : Int) (A0_1 : Option Addr) (c0_1 : Nat) (l0_1 : List (S39)) (A1 : Option Addr) (c1 : Nat) (l1 : List Int) (r : Bool) (w : World) (hr0_1 : Kd.C k39 w A0_1 l0_1.length l0_1) (hc0_1 : l0_1.length ≤ c0_1) (hr1 : Kd.C (Kd.int .i64) w A1 l1.length l1) (hc1 : l1.length ≤ c1) (h : snowlinelaw04_fulfils.f k a0_0 l0_1 l1 = some r) :
  Calls Try.prog 48 #[.agg #[.int .i64 a0_0, .slice A0_1 l0_1.length c0_1], .slice A1 l1.length c1] w fun e w' => e = .returned (.bool r) ∧ Below w.heap.size w w' := by
 have hu24 := Try.underlying24; have hu39 := Try.underlying39; have HR0_1 := Z_ hr0_1; have HC0_1 := Z_ hc0_1; clear hr0_1 hc0_1; have HR1 := Z_ hr1; have HC1 := Z_ hc1; clear hr1 hc1; have HB := Z_ (Below.refl w.heap.size w); have H : (if (l1.length : Int) = a0_0 then (if (l1.length : Int) = 0 then (snowlinelaw04_fulfils.j0 k l1 true a0_0 l0_1) else (if 0 < (l1.length : Int) then (snowlinelaw04_fulfils.j0 k l1 ((rd l1 0) != 0) a0_0 l0_1) else (none))) else (snowlinelaw04_fulfils.j0 k l1 true a0_0 l0_1)) = some r := h; clear h; have HC3 := Z_ H; clear H; go_enter Try.func48, Try.ntmps48; go_upto_region 1 with (first | ((with_reducible refine gate_dst (N := 2) rfl ?_); (try (refine gate_guard (by rfl) ?_; dsimp only)); refine bX_ 2 #[.int .i64 a0_0, .slice A0_1 l0_1.length c0_1] 24 ?_; intro gb921 hg w4 hbox hb; have BK921 := Z_ (hbox); have GW921 := Z_ ((by rw [hg]; exact (fZ_ hB_) : w.heap.size ≤ gb921)); have GE921 := Z_ ((by rw [hg]; exact (fZ_ hB_) : w.heap.size ≤ gb921)); replace HB := Z_ (fS_ hB_ hb); clear hb hbox hg)); repeat (go_quiet (first | ((with_reducible refine gate_dst (N := 2) rfl ?_); (try (refine gate_guard (by rfl) ?_; dsimp only)); refine bX_ 2 #[.int .i64 a0_0, .slice A0_1 l0_1.length c0_1] 24 ?_; intro gb921 hg w4 hbox hb; have BK921 := Z_ (hbox); have GW921 := Z_ ((by rw [hg]; exact (fZ_ hB_) : w.heap.size ≤ gb921)); have GE921 := Z_ ((by rw [hg]; exact (fZ_ hB_) : w.heap.size ≤ gb921)); replace HB := Z_ (fS_ hB_ hb); clear hb hbox hg)); go_upto_region 1 with (first | ((with_reducible refine gate_dst (N := 2) rfl ?_); (try (refine gate_guard (by rfl) ?_; dsimp only)); refine bX_ 2 #[.int .i64 a0_0, .slice A0_1 l0_1.length c0_1] 24 ?_; intro gb921 hg w4 hbox hb; have BK921 := Z_ (hbox); have GW921 := Z_ ((by rw [hg]; exact (fZ_ hB_) : w.heap.size ≤ gb921)); have GE921 := Z_ ((by rw [hg]; exact (fZ_ hB_) : w.heap.size ≤ gb921)); replace HB := Z_ (fS_ hB_ hb); clear hb hbox hg)))
 (try simp only [Act.put, sT_, sZ_, sS_])
 go_cut [24] (fun v24 wc => ∃ (kq : Nat) (x24_2 : Bool), v24 = .bool x24_2 ∧ Aside0 (snowlinelaw04_fulfils.j0 kq l1 x24_2 a0_0 l0_1 = some r) ∧ Aside0 (kq ≤ k) ∧ Aside0 (wc.heap[gb921]? = some (.cells #[.int .i64 a0_0, (.slice A0_1 l0_1.length c0_1)] 24 (0, 0))) ∧ Aside0 (Below w.heap.size w wc))
 case first =>
  have H := HC3.out; clear HC3; by_cases c5 : (l1.length : Int) = a0_0
  ·rw [if_pos c5] at H
   have c5b0 : ((l1.length : Int) == a0_0) = true := beq_iff_eq.mpr c5; have c5b1 : ((l1.length : Int) != a0_0) = false := bne_eq_false_iff_eq.mpr c5; clear c5; (first | rw [c5b0] | (simp only [i64_w, i32_w]; rw [c5b0]) | skip)
   by_cases c6 : (l1.length : Int) = 0
   ·rw [if_pos c6] at H
    have c6b0 : ((l1.length : Int) == 0) = true := beq_iff_eq.mpr c6; have c6b1 : ((l1.length : Int) != 0) = false := bne_eq_false_iff_eq.mpr c6; clear c6; have H' := Z_ H; clear H; obtain ⟨⟨hcz7_0, hcz7_1⟩, hfz7_0, hfz7_1⟩ := f2_ BK921.out; go_wp2; repeat (go_quiet (fail); try go_wp2)
    go_meet
    case rel => exact ⟨_, (true), rf_, H', ⟨oL_⟩, ⟨bR_ BK921.out⟩, ⟨hB_⟩⟩
   rw [if_neg c6] at H; have c6b0 : ((l1.length : Int) == 0) = false := beq_eq_false_iff_ne.mpr c6; have c6b1 : ((l1.length : Int) != 0) = true := bne_iff_ne.mpr c6; have c6b2 : ¬ (l1 = []) := fun h_ => c6 (by rw [h_]; rfl)
   by_cases c8 : 0 < (l1.length : Int)
   ·rw [if_pos c8] at H
    have c8b0 : decide (0 < (l1.length : Int)) = true := eT_ c8; have c8b1 : decide (0 < l1.length) = true := eT_ (by omega); clear c8; have H' := Z_ H; clear H; obtain ⟨⟨hcz9_0, hcz9_1⟩, hfz9_0, hfz9_1⟩ := f2_ BK921.out; have p922 : 0 ≤ (0 : Int) := (by omega); have q922 : 0 < (l1.length : Int) := dT_ as_; obtain ⟨ad922, e922, hx922_0⟩ := Kd.at_int HR1.out 0 p922 q922; cases e922
    have qi922 : (0 < l1.length) = True := eq_true (by omega); (try rw [show ((0 : Int)).toNat = 0 from rfl] at hx922_0)
    (try rw [Addr.add_zero'] at hx922_0)
    replace hx922_0 := (HB.out.cell (World.block_lt_of_cell? w _ hx922_0)).trans hx922_0; replace p922 := eq_true p922; replace q922 := eq_true q922; go_wp2; repeat (go_quiet (fail); try go_wp2)
    go_meet
    case rel => exact ⟨_, (((rd l1 0) != 0)), rf_, H', ⟨oL_⟩, ⟨bR_ BK921.out⟩, ⟨hB_⟩⟩
   rw [if_neg c8] at H; exact absurd H (by simp)
  rw [if_neg c5] at H; have c5b0 : ((l1.length : Int) == a0_0) = false := beq_eq_false_iff_ne.mpr c5; have c5b1 : ((l1.length : Int) != a0_0) = true := bne_iff_ne.mpr c5; (first | rw [c5b0] | (simp only [i64_w, i32_w]; rw [c5b0]) | skip)
  have H' := Z_ H; clear H; obtain ⟨⟨hcz10_0, hcz10_1⟩, hfz10_0, hfz10_1⟩ := f2_ BK921.out; go_wp2; repeat (go_quiet (fail); try go_wp2)
  go_meet
  case rel => exact ⟨_, (true), rf_, H', ⟨oL_⟩, ⟨bR_ BK921.out⟩, ⟨hB_⟩⟩
 case rest =>
  clear HC3; (try clear c1); (try clear p2); (try clear c4); (try clear c5); (try clear c5b0); (try clear c5b1); (try clear c6); (try clear c6b0); (try clear c6b1); (try clear c6b2); (try clear c8); (try clear c8b0); (try clear c8b1); (try clear p9); (try clear q9); (try clear hx9); (try clear qi9); (try clear hcz10_0); (try clear hcz10_1); (try clear hcz7_0); (try clear hcz7_1); (try clear hcz9_0); (try clear hcz9_1); (try clear hfz10_0); (try clear hfz10_1); (try clear hfz7_0); (try clear hfz7_1); (try clear hfz9_0); (try clear hfz9_1); (try clear hx922_0); (try clear p922); (try clear q922)
  obtain ⟨kq, x24_2, rfl, HA, HJ2, BK921, HB⟩ := hcut
  cases kq with
  | zero => exact absurd HA.out (by simp [snowlinelaw04_fulfils.j0])
  | succ kj2 =>
   have H := HA.out; clear HA; simp only [snowlinelaw04_fulfils.j0] at H; by_cases c11 : x24_2 = true
   ·subst c11
    rw [if_pos rfl] at H; obtain rfl := oI_ H; go_wp2; repeat (go_quiet (fail); try go_wp2)
    go_ret; exact ⟨eW_, hB_⟩
   replace c11 := bE_.mpr c11; subst c11; have H1 : (snowlinelaw04_fulfils.l0 kj2 l1 l1 (l1.length : Int) 0 a0_0 l0_1) = some r := by rw [if_neg (show ¬ (false = true) by decide)] at H; exact H
   clear H; have H := H1; clear H1; have H' := Z_ H; clear H; go_wp2; repeat (go_quiet (fail); try go_wp2)
   go_loopg [27] kj2 (fun kq v27 w' => ∃ (x27_2 : Int), v27 = .int .i64 x27_2 ∧ Aside0 (snowlinelaw04_fulfils.l0 kq l1 l1 (l1.length : Int) x27_2 a0_0 l0_1 = some r) ∧ Aside0 (kq ≤ kj2) ∧ Aside0 (w'.heap[gb921]? = some (.cells #[.int .i64 a0_0, (.slice A0_1 l0_1.length c0_1)] 24 (0, 0))) ∧ Aside0 (Below w.heap.size w w'))
   case atStart => exact ⟨(0), rf_, H', ⟨nR_ _⟩, ⟨bR_ BK921.out⟩, ⟨hB_⟩⟩
   case round =>
    clear H'; (try clear c1); (try clear p2); (try clear c4); (try clear c5); (try clear c5b0); (try clear c5b1); (try clear c6); (try clear c6b0); (try clear c6b1); (try clear c6b2); (try clear c8); (try clear c8b0); (try clear c8b1); (try clear p9); (try clear q9); (try clear hx9); (try clear qi9); (try clear c11); (try clear hcz10_0); (try clear hcz10_1); (try clear hcz7_0); (try clear hcz7_1); (try clear hcz9_0); (try clear hcz9_1); (try clear hfz10_0); (try clear hfz10_1); (try clear hfz7_0); (try clear hfz7_1); (try clear hfz9_0); (try clear hfz9_1); (try clear hx922_0); (try clear p2); (try clear p9); (try clear p922); (try clear q9); (try clear q922)
    obtain ⟨x27_2, rfl, HA, HK2, BK921, HB⟩ := hrel
    cases gk with
    | zero => exact absurd HA.out (by simp [snowlinelaw04_fulfils.l0])
    | succ k2 =>
     have H := HA.out; clear HA; simp only [snowlinelaw04_fulfils.l0] at H; by_cases c12 : x27_2 < (l1.length : Int)
     ·rw [if_pos c12] at H
      have c12b0 : decide (x27_2 < (l1.length : Int)) = true := eT_ c12; clear c12; by_cases c13 : 0 ≤ x27_2
      ·rw [if_pos c13] at H
       have c13b0 : decide (0 ≤ x27_2) = true := eT_ c13; clear c13; by_cases c14 : x27_2 < (l1.length : Int)
       ·rw [if_pos c14] at H
        have c14b0 : decide (x27_2 < (l1.length : Int)) = true := eT_ c14; clear c14; have HC15 := Z_ H; clear H; have p923 : 0 ≤ (x27_2 : Int) := dT_ as_; have q923 : x27_2 < (l1.length : Int) := dT_ as_; obtain ⟨ad923, e923, hx923_0⟩ := Kd.at_int HR1.out x27_2 p923 q923; cases e923
        replace hx923_0 := (HB.out.cell (World.block_lt_of_cell? w _ hx923_0)).trans hx923_0; replace p923 := eq_true p923; replace q923 := eq_true q923; go_upto_region 6 with (fail); repeat (go_quiet (fail); go_upto_region 6 with (fail))
        go_cut [36] (fun v36 wc => ∃ (kq : Nat) (x36_14 : Bool), v36 = .bool x36_14 ∧ Aside0 (snowlinelaw04_fulfils.j2 kq l1 l1 (l1.length : Int) x27_2 x36_14 a0_0 l0_1 = some r) ∧ Aside0 (kq ≤ k2) ∧ Aside0 (wc.heap[gb921]? = some (.cells #[.int .i64 a0_0, (.slice A0_1 l0_1.length c0_1)] 24 (0, 0))) ∧ Aside0 (Below w.heap.size w wc))
        case first =>
         have H := HC15.out; clear HC15; by_cases c16 : (rd l1 x27_2) < (-1099511627776)
         ·rw [if_pos c16] at H
          have c16b0 : decide ((rd l1 x27_2) < (-1099511627776)) = true := eT_ c16; clear c16; (first | rw [c16b0] | (simp only [i64_w, i32_w]; rw [c16b0]) | skip)
          have H' := Z_ H; clear H; go_wp2; repeat (go_quiet (fail); try go_wp2)
          go_meet
          case rel => exact ⟨_, (true), rf_, H', ⟨by have := HJ2.out; have := HK2.out; first | omega | exact nR_ _⟩, ⟨bR_ BK921.out⟩, ⟨hB_⟩⟩
         rw [if_neg c16] at H; have c16b0 : decide ((rd l1 x27_2) < (-1099511627776)) = false := eF_ c16; clear c16; (first | rw [c16b0] | (simp only [i64_w, i32_w]; rw [c16b0]) | skip)
         have H' := Z_ H; clear H; go_wp2; repeat (go_quiet (fail); try go_wp2)
         go_meet
         case rel => exact ⟨_, (decide ((rd l1 x27_2) > 1099511627776)), rf_, H', ⟨by have := HJ2.out; have := HK2.out; first | omega | exact nR_ _⟩, ⟨bR_ BK921.out⟩, ⟨hB_⟩⟩
        case rest =>
         clear HC15; (try clear c1); (try clear p2); (try clear c4); (try clear c5); (try clear c5b0); (try clear c5b1); (try clear c6); (try clear c6b0); (try clear c6b1); (try clear c6b2); (try clear c8); (try clear c8b0); (try clear c8b1); (try clear p9); (try clear q9); (try clear hx9); (try clear qi9); (try clear c11); (try clear c12); (try clear c12b0); (try clear c13); (try clear c13b0); (try clear c14); (try clear c14b0); (try clear c16); (try clear c16b0); (try clear hcz10_0); (try clear hcz10_1); (try clear hcz7_0); (try clear hcz7_1); (try clear hcz9_0); (try clear hcz9_1); (try clear hfz10_0); (try clear hfz10_1); (try clear hfz7_0); (try clear hfz7_1); (try clear hfz9_0); (try clear hfz9_1); (try clear hx922_0); (try clear hx923_0); (try clear p2); (try clear p9); (try clear p922); (try clear p923); (try clear q9); (try clear q922); (try clear q923)
         obtain ⟨kq, x36_14, rfl, HA, HJ14, BK921, HB⟩ := hcut
         cases kq with
         | zero => exact absurd HA.out (by simp [snowlinelaw04_fulfils.j2])
         | succ kj14 =>
          have H := HA.out; clear HA; simp only [snowlinelaw04_fulfils.j2] at H; by_cases c17 : x36_14 = true
          ·subst c17
           rw [if_pos rfl] at H; obtain rfl := oI_ H; go_wp2; repeat (go_quiet (fail); try go_wp2)
           go_ret; exact ⟨eW_, hB_⟩
          replace c17 := bE_.mpr c17; subst c17; have H1 : (snowlinelaw04_fulfils.l0 kj14 l1 l1 (l1.length : Int) (wrap64 (x27_2 + 1)) a0_0 l0_1) = some r := by rw [if_neg (show ¬ (false = true) by decide)] at H; exact H
          clear H; have H := H1; clear H1; have H' := Z_ H; clear H; go_wp2; repeat (go_quiet (fail); try go_wp2)
          go_roundg kj14
          case measure => have := HJ2.out; have := HK2.out; have := HJ14.out; omega
          case rel => exact ⟨(wrap64 (x27_2 + 1)), rf_, H', ⟨by have := HJ2.out; have := HK2.out; have := HJ14.out; omega⟩, ⟨bR_ BK921.out⟩, ⟨hB_⟩⟩
       rw [if_neg c14] at H; exact absurd H (by simp)
      rw [if_neg c13] at H; exact absurd H (by simp)
     rw [if_neg c12] at H; have c12b0 : decide (x27_2 < (l1.length : Int)) = false := eF_ c12; clear c12; have H' := Z_ H; clear H; obtain ⟨⟨hcz18_0, hcz18_1⟩, hfz18_0, hfz18_1⟩ := f2_ BK921.out; go_wp2; repeat (go_quiet (fail); try go_wp2)
     go_loopg [41] k2 (fun kq v41 w' => ∃ (x41_3 : Int), v41 = .int .i64 x41_3 ∧ Aside0 (snowlinelaw04_fulfils.l1 kq l1 l0_1 (l0_1.length : Int) x41_3 = some r) ∧ Aside0 (kq ≤ k2) ∧ Aside0 (w'.heap[gb921]? = some (.cells #[.int .i64 a0_0, (.slice A0_1 l0_1.length c0_1)] 24 (0, 0))) ∧ Aside0 (Below w.heap.size w w'))
     case atStart => exact ⟨(0), rf_, H', ⟨nR_ _⟩, ⟨bR_ BK921.out⟩, ⟨hB_⟩⟩
     case round =>
      clear H'; (try clear c1); (try clear p2); (try clear c4); (try clear c5); (try clear c5b0); (try clear c5b1); (try clear c6); (try clear c6b0); (try clear c6b1); (try clear c6b2); (try clear p6); (try clear c8); (try clear c8b0); (try clear c8b1); (try clear p9); (try clear q9); (try clear hx9); (try clear qi9); (try clear c11); (try clear c12); (try clear c12b0); (try clear c13); (try clear c13b0); (try clear c14); (try clear c14b0); (try clear c16); (try clear c16b0); (try clear c17); (try clear hcz10_0); (try clear hcz10_1); (try clear hcz18_0); (try clear hcz18_1); (try clear hcz7_0); (try clear hcz7_1); (try clear hcz9_0); (try clear hcz9_1); (try clear hfz10_0); (try clear hfz10_1); (try clear hfz18_0); (try clear hfz18_1); (try clear hfz7_0); (try clear hfz7_1); (try clear hfz9_0); (try clear hfz9_1); (try clear hx922_0); (try clear hx923_0); (try clear p2); (try clear p9); (try clear p922); (try clear p923); (try clear q9); (try clear q922); (try clear q923)
      obtain ⟨x41_3, rfl, HA, HK3, BK921, HB⟩ := hrel
      cases gk with
      | zero => exact absurd HA.out (by simp [snowlinelaw04_fulfils.l1])
      | succ k3 =>
       have H := HA.out; clear HA; simp only [snowlinelaw04_fulfils.l1] at H; by_cases c19 : x41_3 < (l0_1.length : Int)
       ·rw [if_pos c19] at H
        have c19b0 : decide (x41_3 < (l0_1.length : Int)) = true := eT_ c19; clear c19; by_cases c20 : 0 ≤ x41_3
        ·rw [if_pos c20] at H
         have c20b0 : decide (0 ≤ x41_3) = true := eT_ c20; clear c20; by_cases c21 : x41_3 < (l0_1.length : Int)
         ·rw [if_pos c21] at H
          have c21b0 : decide (x41_3 < (l0_1.length : Int)) = true := eT_ c21; clear c21; have HC22 := Z_ H; clear H; have p924 : 0 ≤ (x41_3 : Int) := dT_ as_; have q924 : x41_3 < (l0_1.length : Int) := dT_ as_; obtain ⟨ad924, e924, hx924_0, hx924_1, hx924_2⟩ := at_T39 HR0_1.out x41_3 p924 q924; cases e924
          replace hx924_0 := (HB.out.cell (World.block_lt_of_cell? w _ hx924_0)).trans hx924_0; replace hx924_1 := (HB.out.cell (World.block_lt_of_cell? w _ hx924_1)).trans hx924_1; replace hx924_2 := (HB.out.cell (World.block_lt_of_cell? w _ hx924_2)).trans hx924_2; replace p924 := eq_true p924; replace q924 := eq_true q924; go_upto_region 12 with (first | ((with_reducible refine gate_dst (N := 8) rfl ?_); (try (refine gate_guard (by rfl) ?_; dsimp only)); refine bX_ 8 #[.int .i64 0, .int .i64 0, .int .i64 0] 39 ?_; intro gb925 hg w23 hbox hb; have BK925 := Z_ (hbox); have GW925 := Z_ ((by rw [hg]; exact (fZ_ hB_) : w.heap.size ≤ gb925)); have GE925 := Z_ ((by rw [hg]; exact (fZ_ hB_) : w.heap.size ≤ gb925)); replace HB := Z_ (fS_ hB_ hb); have NB921_925 := Z_ ((by rw [hg]; exact Nat.ne_of_lt (blk_lt (g := gb921) (o := .cells #[.int .i64 a0_0, .slice (some ad924) l0_1.length c0_1] 24 (0, 0)) (bR_ BK921.out)) : gb921 ≠ gb925)); have NB925_921 := Z_ ((by rw [hg]; exact Nat.ne_of_gt (blk_lt (g := gb921) (o := .cells #[.int .i64 a0_0, .slice (some ad924) l0_1.length c0_1] 24 (0, 0)) (bR_ BK921.out)) : gb925 ≠ gb921)); replace BK921 := Z_ (bB_ (g := gb921) (o := .cells #[.int .i64 a0_0, .slice (some ad924) l0_1.length c0_1] 24 (0, 0)) (bR_ BK921.out) hb); clear hb hbox hg; have hnb24 := NB925_921.out; have hnc24 := NB921_925.out; obtain ⟨⟨hcz25_0, hcz25_1, hcz25_2⟩, hfz25_0, hfz25_1, hfz25_2⟩ := f3_ BK925.out)); repeat (go_quiet (first | ((with_reducible refine gate_dst (N := 8) rfl ?_); (try (refine gate_guard (by rfl) ?_; dsimp only)); refine bX_ 8 #[.int .i64 0, .int .i64 0, .int .i64 0] 39 ?_; intro gb925 hg w23 hbox hb; have BK925 := Z_ (hbox); have GW925 := Z_ ((by rw [hg]; exact (fZ_ hB_) : w.heap.size ≤ gb925)); have GE925 := Z_ ((by rw [hg]; exact (fZ_ hB_) : w.heap.size ≤ gb925)); replace HB := Z_ (fS_ hB_ hb); have NB921_925 := Z_ ((by rw [hg]; exact Nat.ne_of_lt (blk_lt (g := gb921) (o := .cells #[.int .i64 a0_0, .slice (some ad924) l0_1.length c0_1] 24 (0, 0)) (bR_ BK921.out)) : gb921 ≠ gb925)); have NB925_921 := Z_ ((by rw [hg]; exact Nat.ne_of_gt (blk_lt (g := gb921) (o := .cells #[.int .i64 a0_0, .slice (some ad924) l0_1.length c0_1] 24 (0, 0)) (bR_ BK921.out)) : gb925 ≠ gb921)); replace BK921 := Z_ (bB_ (g := gb921) (o := .cells #[.int .i64 a0_0, .slice (some ad924) l0_1.length c0_1] 24 (0, 0)) (bR_ BK921.out) hb); clear hb hbox hg; have hnb24 := NB925_921.out; have hnc24 := NB921_925.out; obtain ⟨⟨hcz25_0, hcz25_1, hcz25_2⟩, hfz25_0, hfz25_1, hfz25_2⟩ := f3_ BK925.out)); go_upto_region 12 with (first | ((with_reducible refine gate_dst (N := 8) rfl ?_); (try (refine gate_guard (by rfl) ?_; dsimp only)); refine bX_ 8 #[.int .i64 0, .int .i64 0, .int .i64 0] 39 ?_; intro gb925 hg w23 hbox hb; have BK925 := Z_ (hbox); have GW925 := Z_ ((by rw [hg]; exact (fZ_ hB_) : w.heap.size ≤ gb925)); have GE925 := Z_ ((by rw [hg]; exact (fZ_ hB_) : w.heap.size ≤ gb925)); replace HB := Z_ (fS_ hB_ hb); have NB921_925 := Z_ ((by rw [hg]; exact Nat.ne_of_lt (blk_lt (g := gb921) (o := .cells #[.int .i64 a0_0, .slice (some ad924) l0_1.length c0_1] 24 (0, 0)) (bR_ BK921.out)) : gb921 ≠ gb925)); have NB925_921 := Z_ ((by rw [hg]; exact Nat.ne_of_gt (blk_lt (g := gb921) (o := .cells #[.int .i64 a0_0, .slice (some ad924) l0_1.length c0_1] 24 (0, 0)) (bR_ BK921.out)) : gb925 ≠ gb921)); replace BK921 := Z_ (bB_ (g := gb921) (o := .cells #[.int .i64 a0_0, .slice (some ad924) l0_1.length c0_1] 24 (0, 0)) (bR_ BK921.out) hb); clear hb hbox hg; have hnb24 := NB925_921.out; have hnc24 := NB921_925.out; obtain ⟨⟨hcz25_0, hcz25_1, hcz25_2⟩, hfz25_0, hfz25_1, hfz25_2⟩ := f3_ BK925.out)))
          (try simp only [Act.put, sT_, sZ_, sS_])
          go_cut [82] (fun v82 wc => ∃ (kq : Nat) (x82_21 : Bool), v82 = .bool x82_21 ∧ Aside0 (snowlinelaw04_fulfils.j4 kq l1 l0_1 (l0_1.length : Int) x41_3 x82_21 = some r) ∧ Aside0 (kq ≤ k3) ∧ Aside0 (wc.heap[gb921]? = some (.cells #[.int .i64 a0_0, (.slice (some ad924) l0_1.length c0_1)] 24 (0, 0))) ∧ Aside0 (wc.heap[gb925]? = some (.cells #[.int .i64 ((rd_T39 l0_1 x41_3).f0), .int .i64 ((rd_T39 l0_1 x41_3).f1), .int .i64 ((rd_T39 l0_1 x41_3).f2)] 39 (0, 0))) ∧ Aside0 (Below w.heap.size w wc))
          case first =>
           have H := HC22.out; clear HC22; by_cases c26 : ((rd_T39 l0_1 x41_3).f0) < 0
           ·rw [if_pos c26] at H
            have c26b0 : decide (((rd_T39 l0_1 x41_3).f0) < 0) = true := eT_ c26; clear c26; (first | rw [c26b0] | (simp only [i64_w, i32_w]; rw [c26b0]) | skip)
            have H' := Z_ H; clear H; have hnb27 := NB925_921.out; have hnc27 := NB921_925.out; obtain ⟨⟨hcz28_0, hcz28_1, hcz28_2⟩, hfz28_0, hfz28_1, hfz28_2⟩ := f3_ BK925.out; go_wp2; repeat (go_quiet (fail); try go_wp2)
            go_meet
            case rel => exact ⟨_, (true), rf_, H', ⟨by have := HJ2.out; have := HK2.out; have := HK3.out; first | omega | exact nR_ _⟩, ⟨by (with_reducible repeat (first | refine bN_ ?_ _ | refine bD_ ?_)); refine blk_far ?_ NB921_925.out _; (with_reducible repeat (first | refine bN_ ?_ _ | refine bD_ ?_)); refine blk_far ?_ NB921_925.out _; (with_reducible repeat (first | refine bN_ ?_ _ | refine bD_ ?_)); refine blk_far ?_ NB921_925.out _; (with_reducible repeat (first | refine bN_ ?_ _ | refine bD_ ?_)); exact BK921.out⟩, ⟨by (with_reducible repeat (first | refine bN_ ?_ _ | refine bD_ ?_)); refine blk_put (cs := #[.int .i64 ((rd_T39 l0_1 x41_3).f0), .int .i64 ((rd_T39 l0_1 x41_3).f1), .int .i64 0]) ?_ 2 _ rfl; (with_reducible repeat (first | refine bN_ ?_ _ | refine bD_ ?_)); refine blk_put (cs := #[.int .i64 ((rd_T39 l0_1 x41_3).f0), .int .i64 0, .int .i64 0]) ?_ 1 _ rfl; (with_reducible repeat (first | refine bN_ ?_ _ | refine bD_ ?_)); refine blk_put (cs := #[.int .i64 0, .int .i64 0, .int .i64 0]) ?_ 0 _ rfl; (with_reducible repeat (first | refine bN_ ?_ _ | refine bD_ ?_)); exact BK925.out⟩, ⟨hB_⟩⟩
           rw [if_neg c26] at H; have c26b0 : decide (((rd_T39 l0_1 x41_3).f0) < 0) = false := eF_ c26; clear c26; (first | rw [c26b0] | (simp only [i64_w, i32_w]; rw [c26b0]) | skip)
           by_cases c29 : ((rd_T39 l0_1 x41_3).f0) ≥ (l1.length : Int)
           ·rw [if_pos c29] at H
            have c29b0 : decide ((l1.length : Int) ≤ ((rd_T39 l0_1 x41_3).f0)) = true := eT_ c29; clear c29; have H' := Z_ H; clear H; have hnb30 := NB925_921.out; have hnc30 := NB921_925.out; obtain ⟨⟨hcz31_0, hcz31_1, hcz31_2⟩, hfz31_0, hfz31_1, hfz31_2⟩ := f3_ BK925.out; go_wp2; repeat (go_quiet (fail); try go_wp2)
            go_meet
            case rel => exact ⟨_, (true), rf_, H', ⟨by have := HJ2.out; have := HK2.out; have := HK3.out; first | omega | exact nR_ _⟩, ⟨by (with_reducible repeat (first | refine bN_ ?_ _ | refine bD_ ?_)); refine blk_far ?_ NB921_925.out _; (with_reducible repeat (first | refine bN_ ?_ _ | refine bD_ ?_)); refine blk_far ?_ NB921_925.out _; (with_reducible repeat (first | refine bN_ ?_ _ | refine bD_ ?_)); refine blk_far ?_ NB921_925.out _; (with_reducible repeat (first | refine bN_ ?_ _ | refine bD_ ?_)); exact BK921.out⟩, ⟨by (with_reducible repeat (first | refine bN_ ?_ _ | refine bD_ ?_)); refine blk_put (cs := #[.int .i64 ((rd_T39 l0_1 x41_3).f0), .int .i64 ((rd_T39 l0_1 x41_3).f1), .int .i64 0]) ?_ 2 _ rfl; (with_reducible repeat (first | refine bN_ ?_ _ | refine bD_ ?_)); refine blk_put (cs := #[.int .i64 ((rd_T39 l0_1 x41_3).f0), .int .i64 0, .int .i64 0]) ?_ 1 _ rfl; (with_reducible repeat (first | refine bN_ ?_ _ | refine bD_ ?_)); refine blk_put (cs := #[.int .i64 0, .int .i64 0, .int .i64 0]) ?_ 0 _ rfl; (with_reducible repeat (first | refine bN_ ?_ _ | refine bD_ ?_)); exact BK925.out⟩, ⟨hB_⟩⟩
           rw [if_neg c29] at H; have c29b0 : decide ((l1.length : Int) ≤ ((rd_T39 l0_1 x41_3).f0)) = false := eF_ c29; clear c29; by_cases c32 : ((rd_T39 l0_1 x41_3).f1) < 0
           ·rw [if_pos c32] at H
            have c32b0 : decide (((rd_T39 l0_1 x41_3).f1) < 0) = true := eT_ c32; clear c32; have H' := Z_ H; clear H; have hnb33 := NB925_921.out; have hnc33 := NB921_925.out; obtain ⟨⟨hcz34_0, hcz34_1, hcz34_2⟩, hfz34_0, hfz34_1, hfz34_2⟩ := f3_ BK925.out; go_wp2; repeat (go_quiet (fail); try go_wp2)
            go_meet
            case rel => exact ⟨_, (true), rf_, H', ⟨by have := HJ2.out; have := HK2.out; have := HK3.out; first | omega | exact nR_ _⟩, ⟨by (with_reducible repeat (first | refine bN_ ?_ _ | refine bD_ ?_)); refine blk_far ?_ NB921_925.out _; (with_reducible repeat (first | refine bN_ ?_ _ | refine bD_ ?_)); refine blk_far ?_ NB921_925.out _; (with_reducible repeat (first | refine bN_ ?_ _ | refine bD_ ?_)); refine blk_far ?_ NB921_925.out _; (with_reducible repeat (first | refine bN_ ?_ _ | refine bD_ ?_)); exact BK921.out⟩, ⟨by (with_reducible repeat (first | refine bN_ ?_ _ | refine bD_ ?_)); refine blk_put (cs := #[.int .i64 ((rd_T39 l0_1 x41_3).f0), .int .i64 ((rd_T39 l0_1 x41_3).f1), .int .i64 0]) ?_ 2 _ rfl; (with_reducible repeat (first | refine bN_ ?_ _ | refine bD_ ?_)); refine blk_put (cs := #[.int .i64 ((rd_T39 l0_1 x41_3).f0), .int .i64 0, .int .i64 0]) ?_ 1 _ rfl; (with_reducible repeat (first | refine bN_ ?_ _ | refine bD_ ?_)); refine blk_put (cs := #[.int .i64 0, .int .i64 0, .int .i64 0]) ?_ 0 _ rfl; (with_reducible repeat (first | refine bN_ ?_ _ | refine bD_ ?_)); exact BK925.out⟩, ⟨hB_⟩⟩
           rw [if_neg c32] at H; have c32b0 : decide (((rd_T39 l0_1 x41_3).f1) < 0) = false := eF_ c32; clear c32; by_cases c35 : ((rd_T39 l0_1 x41_3).f1) ≥ (l1.length : Int)
           ·rw [if_pos c35] at H
            have c35b0 : decide ((l1.length : Int) ≤ ((rd_T39 l0_1 x41_3).f1)) = true := eT_ c35; clear c35; have H' := Z_ H; clear H; have hnb36 := NB925_921.out; have hnc36 := NB921_925.out; obtain ⟨⟨hcz37_0, hcz37_1, hcz37_2⟩, hfz37_0, hfz37_1, hfz37_2⟩ := f3_ BK925.out; go_wp2; repeat (go_quiet (fail); try go_wp2)
            go_meet
            case rel => exact ⟨_, (true), rf_, H', ⟨by have := HJ2.out; have := HK2.out; have := HK3.out; first | omega | exact nR_ _⟩, ⟨by (with_reducible repeat (first | refine bN_ ?_ _ | refine bD_ ?_)); refine blk_far ?_ NB921_925.out _; (with_reducible repeat (first | refine bN_ ?_ _ | refine bD_ ?_)); refine blk_far ?_ NB921_925.out _; (with_reducible repeat (first | refine bN_ ?_ _ | refine bD_ ?_)); refine blk_far ?_ NB921_925.out _; (with_reducible repeat (first | refine bN_ ?_ _ | refine bD_ ?_)); exact BK921.out⟩, ⟨by (with_reducible repeat (first | refine bN_ ?_ _ | refine bD_ ?_)); refine blk_put (cs := #[.int .i64 ((rd_T39 l0_1 x41_3).f0), .int .i64 ((rd_T39 l0_1 x41_3).f1), .int .i64 0]) ?_ 2 _ rfl; (with_reducible repeat (first | refine bN_ ?_ _ | refine bD_ ?_)); refine blk_put (cs := #[.int .i64 ((rd_T39 l0_1 x41_3).f0), .int .i64 0, .int .i64 0]) ?_ 1 _ rfl; (with_reducible repeat (first | refine bN_ ?_ _ | refine bD_ ?_)); refine blk_put (cs := #[.int .i64 0, .int .i64 0, .int .i64 0]) ?_ 0 _ rfl; (with_reducible repeat (first | refine bN_ ?_ _ | refine bD_ ?_)); exact BK925.out⟩, ⟨hB_⟩⟩
           rw [if_neg c35] at H; have c35b0 : decide ((l1.length : Int) ≤ ((rd_T39 l0_1 x41_3).f1)) = false := eF_ c35; clear c35; by_cases c38 : 0 ≤ ((rd_T39 l0_1 x41_3).f1)
           ·rw [if_pos c38] at H
            have c38b0 : decide (0 ≤ ((rd_T39 l0_1 x41_3).f1)) = true := eT_ c38; clear c38; by_cases c39 : ((rd_T39 l0_1 x41_3).f1) < (l1.length : Int)
            ·rw [if_pos c39] at H
             have c39b0 : decide (((rd_T39 l0_1 x41_3).f1) < (l1.length : Int)) = true := eT_ c39; clear c39; by_cases c40 : 0 ≤ ((rd_T39 l0_1 x41_3).f0)
             ·rw [if_pos c40] at H
              have c40b0 : decide (0 ≤ ((rd_T39 l0_1 x41_3).f0)) = true := eT_ c40; clear c40; by_cases c41 : ((rd_T39 l0_1 x41_3).f0) < (l1.length : Int)
              ·rw [if_pos c41] at H
               have c41b0 : decide (((rd_T39 l0_1 x41_3).f0) < (l1.length : Int)) = true := eT_ c41; clear c41; have H' := Z_ H; clear H; have hnb42 := NB925_921.out; have hnc42 := NB921_925.out; obtain ⟨⟨hcz43_0, hcz43_1, hcz43_2⟩, hfz43_0, hfz43_1, hfz43_2⟩ := f3_ BK925.out; have p926 : 0 ≤ (((rd_T39 l0_1 x41_3).f1) : Int) := dT_ as_; have q926 : ((rd_T39 l0_1 x41_3).f1) < (l1.length : Int) := dT_ as_; obtain ⟨ad926, e926, hx926_0⟩ := Kd.at_int HR1.out ((rd_T39 l0_1 x41_3).f1) p926 q926; cases e926
               have hn926_0 : ad926.block ≠ gb925 := Nat.ne_of_lt (Nat.lt_of_lt_of_le (by have := World.block_lt_of_cell? _ _ hx926_0; first | rwa [add_block] at this | exact this) GW925.out); have hn926_1 : ad926.block ≠ gb925 := Nat.ne_of_lt (Nat.lt_of_lt_of_le (by have := World.block_lt_of_cell? _ _ hx926_0; first | rwa [add_block] at this | exact this) GW925.out); have hn926_2 : ad926.block ≠ gb925 := Nat.ne_of_lt (Nat.lt_of_lt_of_le (by have := World.block_lt_of_cell? _ _ hx926_0; first | rwa [add_block] at this | exact this) GW925.out); replace hx926_0 := (HB.out.cell (World.block_lt_of_cell? w _ hx926_0)).trans hx926_0; replace hx926_0 := (cell_far (p := ⟨gb925, 0, none⟩) (by first | (rw [add_block]; exact hn926_0) | (show (Addr.add _ _).block ≠ _; rw [add_block]; exact hn926_0) | exact hn926_0) (.int .i64 ((rd_T39 l0_1 x41_3).f0))).trans hx926_0; replace hx926_0 := (cell_far (p := ⟨gb925, 1, none⟩) (by first | (rw [add_block]; exact hn926_1) | (show (Addr.add _ _).block ≠ _; rw [add_block]; exact hn926_1) | exact hn926_1) (.int .i64 ((rd_T39 l0_1 x41_3).f1))).trans hx926_0; replace hx926_0 := (cell_far (p := ⟨gb925, 2, none⟩) (by first | (rw [add_block]; exact hn926_2) | (show (Addr.add _ _).block ≠ _; rw [add_block]; exact hn926_2) | exact hn926_2) (.int .i64 ((rd_T39 l0_1 x41_3).f2))).trans hx926_0; (try have hy926_0 := fun (n_ : Nat) => (show (((((w23.drewN n_).setCell ⟨gb925, 0, none⟩ (.int .i64 ((rd_T39 l0_1 x41_3).f0))).setCell ⟨gb925, 1, none⟩ (.int .i64 ((rd_T39 l0_1 x41_3).f1))).setCell ⟨gb925, 2, none⟩ (.int .i64 ((rd_T39 l0_1 x41_3).f2)))).cell? _ = some _ from hx926_0))
               clear hn926_0; clear hn926_1; clear hn926_2; replace p926 := eq_true p926; replace q926 := eq_true q926; have p927 : 0 ≤ (((rd_T39 l0_1 x41_3).f0) : Int) := dT_ as_; have q927 : ((rd_T39 l0_1 x41_3).f0) < (l1.length : Int) := dT_ as_; obtain ⟨ad927, e927, hx927_0⟩ := Kd.at_int HR1.out ((rd_T39 l0_1 x41_3).f0) p927 q927; obtain rfl : ad926 = ad927 := (by injection e927); have hn927_0 : ad926.block ≠ gb925 := Nat.ne_of_lt (Nat.lt_of_lt_of_le (by have := World.block_lt_of_cell? _ _ hx927_0; first | rwa [add_block] at this | exact this) GW925.out); have hn927_1 : ad926.block ≠ gb925 := Nat.ne_of_lt (Nat.lt_of_lt_of_le (by have := World.block_lt_of_cell? _ _ hx927_0; first | rwa [add_block] at this | exact this) GW925.out); have hn927_2 : ad926.block ≠ gb925 := Nat.ne_of_lt (Nat.lt_of_lt_of_le (by have := World.block_lt_of_cell? _ _ hx927_0; first | rwa [add_block] at this | exact this) GW925.out); replace hx927_0 := (HB.out.cell (World.block_lt_of_cell? w _ hx927_0)).trans hx927_0; replace hx927_0 := (cell_far (p := ⟨gb925, 0, none⟩) (by first | (rw [add_block]; exact hn927_0) | (show (Addr.add _ _).block ≠ _; rw [add_block]; exact hn927_0) | exact hn927_0) (.int .i64 ((rd_T39 l0_1 x41_3).f0))).trans hx927_0; replace hx927_0 := (cell_far (p := ⟨gb925, 1, none⟩) (by first | (rw [add_block]; exact hn927_1) | (show (Addr.add _ _).block ≠ _; rw [add_block]; exact hn927_1) | exact hn927_1) (.int .i64 ((rd_T39 l0_1 x41_3).f1))).trans hx927_0; replace hx927_0 := (cell_far (p := ⟨gb925, 2, none⟩) (by first | (rw [add_block]; exact hn927_2) | (show (Addr.add _ _).block ≠ _; rw [add_block]; exact hn927_2) | exact hn927_2) (.int .i64 ((rd_T39 l0_1 x41_3).f2))).trans hx927_0; (try have hy927_0 := fun (n_ : Nat) => (show (((((w23.drewN n_).setCell ⟨gb925, 0, none⟩ (.int .i64 ((rd_T39 l0_1 x41_3).f0))).setCell ⟨gb925, 1, none⟩ (.int .i64 ((rd_T39 l0_1 x41_3).f1))).setCell ⟨gb925, 2, none⟩ (.int .i64 ((rd_T39 l0_1 x41_3).f2)))).cell? _ = some _ from hx927_0))
               clear hn927_0; clear hn927_1; clear hn927_2; replace p927 := eq_true p927; replace q927 := eq_true q927; go_wp2; repeat (go_quiet (fail); try go_wp2)
               go_meet
               case rel => exact ⟨_, (decide ((wrap64 ((rd l1 ((rd_T39 l0_1 x41_3).f1)) - (rd l1 ((rd_T39 l0_1 x41_3).f0)))) > ((rd_T39 l0_1 x41_3).f2))), rf_, H', ⟨by have := HJ2.out; have := HK2.out; have := HK3.out; first | omega | exact nR_ _⟩, ⟨by (with_reducible repeat (first | refine bN_ ?_ _ | refine bD_ ?_)); refine blk_far ?_ NB921_925.out _; (with_reducible repeat (first | refine bN_ ?_ _ | refine bD_ ?_)); refine blk_far ?_ NB921_925.out _; (with_reducible repeat (first | refine bN_ ?_ _ | refine bD_ ?_)); refine blk_far ?_ NB921_925.out _; (with_reducible repeat (first | refine bN_ ?_ _ | refine bD_ ?_)); exact BK921.out⟩, ⟨by (with_reducible repeat (first | refine bN_ ?_ _ | refine bD_ ?_)); refine blk_put (cs := #[.int .i64 ((rd_T39 l0_1 x41_3).f0), .int .i64 ((rd_T39 l0_1 x41_3).f1), .int .i64 0]) ?_ 2 _ rfl; (with_reducible repeat (first | refine bN_ ?_ _ | refine bD_ ?_)); refine blk_put (cs := #[.int .i64 ((rd_T39 l0_1 x41_3).f0), .int .i64 0, .int .i64 0]) ?_ 1 _ rfl; (with_reducible repeat (first | refine bN_ ?_ _ | refine bD_ ?_)); refine blk_put (cs := #[.int .i64 0, .int .i64 0, .int .i64 0]) ?_ 0 _ rfl; (with_reducible repeat (first | refine bN_ ?_ _ | refine bD_ ?_)); exact BK925.out⟩, ⟨hB_⟩⟩
              rw [if_neg c41] at H; exact absurd H (by simp)
             rw [if_neg c40] at H; exact absurd H (by simp)
            rw [if_neg c39] at H; exact absurd H (by simp)
           rw [if_neg c38] at H; exact absurd H (by simp)
          case rest =>
           clear HC22; (try clear c1); (try clear c2); (try clear p2); (try clear c3); (try clear c4); (try clear c5); (try clear c5b0); (try clear c5b1); (try clear c6); (try clear c6b0); (try clear c6b1); (try clear c6b2); (try clear p6); (try clear c8); (try clear c8b0); (try clear c8b1); (try clear p9); (try clear q9); (try clear hx9); (try clear qi9); (try clear c11); (try clear c12); (try clear c12b0); (try clear c13); (try clear c13b0); (try clear c14); (try clear c14b0); (try clear c16); (try clear c16b0); (try clear c17); (try clear c19); (try clear c19b0); (try clear c20); (try clear c20b0); (try clear c21); (try clear c21b0); (try clear c24); (try clear c26); (try clear c26b0); (try clear c27); (try clear c29); (try clear c29b0); (try clear c30); (try clear c32); (try clear c32b0); (try clear c33); (try clear c35); (try clear c35b0); (try clear c36); (try clear c38); (try clear c38b0); (try clear c39); (try clear c39b0); (try clear c40); (try clear c40b0); (try clear c41); (try clear c41b0); (try clear c42); (try clear hcz10_0); (try clear hcz10_1); (try clear hcz18_0); (try clear hcz18_1); (try clear hcz25_0); (try clear hcz25_1); (try clear hcz25_2); (try clear hcz28_0); (try clear hcz28_1); (try clear hcz28_2); (try clear hcz31_0); (try clear hcz31_1); (try clear hcz31_2); (try clear hcz34_0); (try clear hcz34_1); (try clear hcz34_2); (try clear hcz37_0); (try clear hcz37_1); (try clear hcz37_2); (try clear hcz43_0); (try clear hcz43_1); (try clear hcz43_2); (try clear hcz7_0); (try clear hcz7_1); (try clear hcz9_0); (try clear hcz9_1); (try clear hfz10_0); (try clear hfz10_1); (try clear hfz18_0); (try clear hfz18_1); (try clear hfz25_0); (try clear hfz25_1); (try clear hfz25_2); (try clear hfz28_0); (try clear hfz28_1); (try clear hfz28_2); (try clear hfz31_0); (try clear hfz31_1); (try clear hfz31_2); (try clear hfz34_0); (try clear hfz34_1); (try clear hfz34_2); (try clear hfz37_0); (try clear hfz37_1); (try clear hfz37_2); (try clear hfz43_0); (try clear hfz43_1); (try clear hfz43_2); (try clear hfz7_0); (try clear hfz7_1); (try clear hfz9_0); (try clear hfz9_1); (try clear hx922_0); (try clear hx923_0); (try clear hx924_0); (try clear hx924_1); (try clear hx924_2); (try clear hx926_0); (try clear hx927_0); (try clear p2); (try clear p6); (try clear p9); (try clear p922); (try clear p923); (try clear p924); (try clear p926); (try clear p927); (try clear q9); (try clear q922); (try clear q923); (try clear q924); (try clear q926); (try clear q927)
           obtain ⟨kq, x82_21, rfl, HA, HJ21, BK921, BK925, HB⟩ := hcut
           cases kq with
           | zero => exact absurd HA.out (by simp [snowlinelaw04_fulfils.j4])
           | succ kj21 =>
            have H := HA.out; clear HA; simp only [snowlinelaw04_fulfils.j4] at H; by_cases c44 : x82_21 = true
            ·subst c44
             rw [if_pos rfl] at H; obtain rfl := oI_ H; go_wp2; repeat (go_quiet (fail); try go_wp2)
             go_ret; exact ⟨eW_, hB_⟩
            replace c44 := bE_.mpr c44; subst c44; have H1 : (snowlinelaw04_fulfils.l1 kj21 l1 l0_1 (l0_1.length : Int) (wrap64 (x41_3 + 1))) = some r := by rw [if_neg (show ¬ (false = true) by decide)] at H; exact H
            clear H; have H := H1; clear H1; have H' := Z_ H; clear H; go_wp2; repeat (go_quiet (fail); try go_wp2)
            go_roundg kj21
            case measure => have := HJ2.out; have := HK2.out; have := HK3.out; have := HJ21.out; omega
            case rel => exact ⟨(wrap64 (x41_3 + 1)), rf_, H', ⟨by have := HJ2.out; have := HK2.out; have := HK3.out; have := HJ21.out; omega⟩, ⟨bR_ BK921.out⟩, ⟨hB_⟩⟩
         rw [if_neg c21] at H; exact absurd H (by simp)
        rw [if_neg c20] at H; exact absurd H (by simp)
       rw [if_neg c19] at H; have c19b0 : decide (x41_3 < (l0_1.length : Int)) = false := eF_ c19; clear c19; obtain rfl := oI_ H; go_wp2; repeat (go_quiet (fail); try go_wp2)
       go_ret; exact ⟨eW_, hB_⟩
end Go.Proofs.Ytpolojoeabmhdaa.A
