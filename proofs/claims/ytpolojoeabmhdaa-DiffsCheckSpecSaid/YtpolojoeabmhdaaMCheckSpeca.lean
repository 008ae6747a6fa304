import Derived.Test.YtpolojoeabmhdaaMZcoreb
import Derived.Test.YtpolojoeabmhdaaMZcored
import Derived.Test.YtpolojoeabmhdaaMZcoree
import Derived.Test.YtpolojoeabmhdaaMZcoref
import Derived.Test.YtpolojoeabmhdaaMZcoreh
set_option linter.unusedVariables false
set_option linter.unusedSimpArgs false
/- Numbers that fulfil a net; lists. -/
namespace Go.Proofs.Ytpolojoeabmhdaa.A
open Go.RowKit Go.Proofs.YtpolojoeabmhdaaW.PrintWords Go.Proofs.YtpolojoeabmhdaaW.PrintLast Go.Proofs.YtpolojoeabmhdaaW.PrintMore
theorem rd_cons (x : Int) (xs : List Int) (i : Int) (h : 0 ≤ i) : rd (x :: xs) (i + 1) = rd xs i := by
  unfold rd
  rw [show (i + 1).toNat = i.toNat + 1 from by omega]
  rfl
theorem rd_mem {l : List Int} {i : Int} (h0 : 0 ≤ i) (h1 : i < l.length) : rd l i ∈ l := by
  unfold rd
  rw [List.getD_eq_getElem?_getD, List.getElem?_eq_getElem (by omega)]; exact List.getElem_mem _
theorem mem_rd {l : List Int} {x : Int} (h : x ∈ l) : ∃ i : Int, 0 ≤ i ∧ i < l.length ∧ rd l i = x := by
  obtain ⟨i, hi, rfl⟩ := List.getElem_of_mem h
  refine ⟨i, by omega, by omega, ?_⟩
  unfold rd
  rw [List.getD_eq_getElem?_getD, Int.toNat_natCast, List.getElem?_eq_getElem hi]; rfl
theorem take_snoc {α : Type} (l : List α) (i : Nat) (h : i < l.length) : l.take (i + 1) = l.take i ++ [l[i]] := by
  rw [List.take_add_one, List.getElem?_eq_getElem h]; rfl
theorem chain_len (L : List S39) (la : List Int) : ∀ c v, (chain L la c v).length = c
  | 0, _ => rfl
  | c + 1, v => by simp [chain, chain_len L la c]
theorem edges_mem {n : Int} {D : List S39} (hE : EdgesOk n D) : ∀ d ∈ D, EdgeOk n d := fun d hd => by
  obtain ⟨i, hi, rfl⟩ := List.getElem_of_mem hd
  have := hE i (by omega) (by omega)
  unfold rd_T39 at this
  rw [List.getD_eq_getElem?_getD, Int.toNat_natCast, List.getElem?_eq_getElem hi] at this
  exact this
structure Asg (L : List S39) (x : Int → Int) : Prop where
  z : x 0 = 0
  p : Pot L x
def EC (n : Int) (x : List Int) (d : S39) : Prop := 0 ≤ d.f0 ∧ d.f0 < n ∧ 0 ≤ d.f1 ∧ d.f1 < n ∧ rd x d.f1 - rd x d.f0 ≤ d.f2
structure Ful (n : Int) (L : List S39) (x : List Int) : Prop where
  l : (x.length : Int) = n
  n0 : 0 < n
  z : rd x 0 = 0
  b : ∀ v, 0 ≤ v → v < n → -1099511627776 ≤ rd x v ∧ rd x v ≤ 1099511627776
  e : ∀ k, 0 ≤ k → k < (L.length : Int) → EC n x (rd_T39 L k)
theorem Ful.asg {n : Int} {L : List S39} {x : List Int} (h : Ful n L x) : Asg L (rd x) := ⟨h.z, fun k k0 k1 => (h.e k k0 k1).2.2.2.2⟩
section
variable {n : Nat} {D L : List S39}
theorem hmul (hV : Valid n D) : (n : Int) * D.length ≤ 1048576 := by
  have h1 := hV.n2
  have h2 := hV.l
  have := Int.mul_le_mul (a := (n : Int)) (b := D.length) (c := 256) (d := 4096) (by omega) (by omega) (by omega) (by omega)
  omega
theorem wk_bound {n : Int} {L : List S39} (hE : EdgesOk n L) : ∀ {u : Int} {l : List Int} {v W : Int}, Wk L u l v W → -(l.length * 1073741824) ≤ W ∧ W ≤ l.length * 1073741824
  | u, [], v, W, h => by
    obtain ⟨_, rfl⟩ := h
    simp
  | u, i :: is, v, W, h => by
    obtain ⟨⟨i0, i1⟩, _, h2⟩ := h
    have := wk_bound hE h2
    have hd := hE i i0 i1
    have := hd.e
    have := hd.f
    rw [List.length_cons]
    push_cast
    omega
theorem chain_len' (L : List S39) (la : List Int) (c : Nat) (v : Int) : (chain L la c v).length = c := chain_len L la c v
theorem solve_ful {L : List S39} (hn0 : 0 < n) (hn : n ≤ 256) (hE : EdgesOk n L) (hm : (n : Int) * L.length ≤ 1048576) (hs : Solv L) : ∃ (x : List Int) (s : Sg), Ev (fun k => diffs_solve.f k n L) (x, s.lo, s.ha, s.la, -1) ∧ Ful n L x := by
  obtain ⟨x, s, bad, h1, h2, h3, h4, h5⟩ := solve_ev hn0 (by omega) hE hm
  have ha : ∀ v, 0 ≤ v → v < (n : Int) → v ∈ allL n := fun v a b => mem_allL.2 ⟨a, b⟩
  have hb := (h2.bad_iff hE ha).2 hs
  subst hb
  obtain ⟨l1, l2⟩ := h4 rfl
  obtain ⟨y, hy⟩ := hs
  have hf := (h2.good hE hy).2
  have bd : ∀ v, 0 ≤ v → v < (n : Int) → -274877906944 ≤ rd s.lo v ∧ rd s.lo v ≤ 274877906944 := fun v v0 v1 => by
    obtain ⟨c, hc⟩ := h2.tree hE hf v0 v1 (h2.all_has ha v0 v1)
    have := wk_bound hE hc.walk
    rw [List.length_reverse, chain_len'] at this
    have := hc.few
    omega
  refine ⟨x, s, h3, by omega, by omega, ?_, fun v v0 v1 => ?_, fun k k0 k1 => ?_⟩
  · rw [l2 0 (by omega) (by omega)]; omega
  · rw [l2 v v0 v1]
    have := bd v v0 v1
    have := bd 0 (by omega) (by omega)
    omega
  · have he := hE k k0 k1
    have hp := h2.pot hE ha rfl k k0 k1
    refine ⟨he.a, he.b, he.c, he.g, ?_⟩
    rw [l2 _ he.c he.g, l2 _ he.a he.b]
    omega
structure NumOk (n : Int) (x : List Int) : Prop where
  l : (x.length : Int) = n
  b : ∀ v, 0 ≤ v → v < n → -1099511627776 ≤ rd x v ∧ rd x v ≤ 1099511627776
theorem Ful.num {n : Int} {L : List S39} {x : List Int} (h : Ful n L x) : NumOk n x := ⟨h.l, h.b⟩
theorem Ful.solv {m : Int} {x : List Int} (h : Ful m L x) : Solv L := ⟨_, h.asg.p⟩
end
end Go.Proofs.Ytpolojoeabmhdaa.A
namespace Go.Proofs.Ytpolojoeabmhdaa.A
open Go.RowKit Go.Proofs.YtpolojoeabmhdaaW.PrintWords Go.Proofs.YtpolojoeabmhdaaW.PrintLast Go.Proofs.YtpolojoeabmhdaaW.PrintMore
attribute [local go_sem] max2_int min2_int max_two min_two max_three min_three max_four min_four
def diffs_Solve.f (k : Nat) (a0_0 : Int) (l0_1 : List (S39)) : Option (List Int × Int) := (diffs_Check.f k a0_0 l0_1).bind fun t797 => (if t797 = 0 then ((diffs_solve.f k a0_0 l0_1).bind fun bt798 => (if bt798.2.2.2.2 ≥ 0 then (some (([] : List Int), 41)) else (some (bt798.1, 0)))) else (some (([] : List Int), t797)))
theorem diffs_Solve.mono : ∀ a0 a1 k, LeO (diffs_Solve.f k a0 a1) (diffs_Solve.f (k + 1) a0 a1) := by
 intro a0 a1 k; unfold diffs_Solve.f; repeat' first | (with_reducible first | exact diffs_Check.mono _ _ _ | exact diffs_solve.mono _ _ _ | exact LeO.refl _ | exact LeO.none _ | refine LeO.ite ?_ ?_ | refine LeO.bind ?_ (fun _ => ?_)) | exact diffs_Check.mono _ _ _ | exact diffs_solve.mono _ _ _ | exact LeO.none _ | refine LeO.ite ?_ ?_ | refine LeO.bind ?_ (fun _ => ?_)
set_option maxHeartbeats 8000000 in
set_option maxRecDepth 100000 in
theorem diffs_Solve.calls (k : Nat) (a0_0 : Int) (A0_1 : Option Addr) (c0_1 : Nat) (l0_1 : List (S39)) (r1 : List Int) (r2 : Int) (w : World) (hr0_1 : Kd.C k39 w A0_1 l0_1.length l0_1) (hc0_1 : l0_1.length ≤ c0_1) (h : diffs_Solve.f k a0_0 l0_1 = some (r1, r2)) :
  Calls Try.prog 39 #[.agg #[.int .i64 a0_0, .slice A0_1 l0_1.length c0_1]] w fun e w' => ∃ v0_ : Value, e = .returned (.tuple #[v0_, .int .i64 r2]) ∧ Kd.R (Kd.int .i64) 3 w' w.heap.size (fun _ => True) v0_ r1 ∧ Below w.heap.size w w' := by
 have hu24 := Try.underlying24; have hu88 := Try.underlying88; have HR0_1 := Z_ hr0_1; have HC0_1 := Z_ hc0_1; clear hr0_1 hc0_1; have HB := Z_ (Below.refl w.heap.size w); have H : ((diffs_Check.f k a0_0 l0_1).bind fun t797 => (if t797 = 0 then ((diffs_solve.f k a0_0 l0_1).bind fun bt798 => (if bt798.2.2.2.2 ≥ 0 then (some (([] : List Int), 41)) else (some (bt798.1, 0)))) else (some (([] : List Int), t797)))) = some (r1, r2) := h; clear h; replace H := oS_.mp H; obtain ⟨t797, A20, H⟩ := H; have A2 := Z_ A20; clear A20; have HF3 := Z_ H; clear H; go_enter Try.func39, Try.ntmps39; go_upto_if 11 with (first | ((with_reducible refine gate_dst (N := 1) rfl ?_); refine bX_ 1 #[.int .i64 a0_0, .slice A0_1 l0_1.length c0_1] 24 ?_; intro gb796 hg w4 hbox hb; have BK796 := Z_ (hbox); have GW796 := Z_ ((by rw [hg]; exact (fZ_ hB_) : w.heap.size ≤ gb796)); have GE796 := Z_ ((by rw [hg]; exact (fZ_ hB_) : w.heap.size ≤ gb796)); replace HB := Z_ (fS_ hB_ hb); clear hb hbox hg; obtain ⟨⟨hcz5_0, hcz5_1⟩, hfz5_0, hfz5_1⟩ := f2_ BK796.out) | ((with_reducible refine gate_callee (f := 29) rfl ?_); refine gL_ (some 9) Try.func29 #[.agg #[.int .i64 a0_0, .slice A0_1 l0_1.length c0_1]] ?_; (with_reducible refine (diffs_Check.calls k a0_0 _ _ l0_1 t797 _ ?side1 ?side2 A2.out).mono ?_); (case side1 => exact cS_ (cB_ HR0_1.out HB.out)); (case side2 => exact HC0_1.out); rintro e w6 ⟨rfl, hb⟩; refine ⟨_, rfl, ?_⟩; replace BK796 := Z_ (bB_ (g := gb796) (o := .cells #[.int .i64 a0_0, .slice A0_1 l0_1.length c0_1] 24 (0, 0)) (bR_ BK796.out) hb); replace HB := Z_ (fS_ hB_ hb); (try clear hb); (try clear hb2); (try clear hk); (try clear hi))); (try simp only [Act.put, sT_, sZ_, sS_])
 have H := HF3.out; clear HF3; by_cases c7 : t797 = 0
 ·rw [if_pos c7] at H
  obtain ⟨c7b0, c7b1⟩ := be_ c7; clear c7; (first | rw [c7b0] | (simp only [i64_w, i32_w]; rw [c7b0]) | skip)
  replace H := oS_.mp H; obtain ⟨⟨t798, t801, t804, t807, t810⟩, A80, H⟩ := H; have A8 := Z_ A80; clear A80; have HF9 := Z_ H; clear H; obtain ⟨⟨hcz10_0, hcz10_1⟩, hfz10_0, hfz10_1⟩ := f2_ BK796.out; go_upto_if 22 with (first | ((with_reducible refine gate_callee (f := 81) rfl ?_); refine gL_ (some 17) Try.func81 #[.iface 100 (.agg #[.int .i64 a0_0, .slice A0_1 l0_1.length c0_1])] ?_; (with_reducible refine (diffs_solve.calls k a0_0 _ _ l0_1 t798 t801 t804 t807 t810 _ ?side1 ?side2 A8.out).mono ?_); (case side1 => exact cS_ (cB_ HR0_1.out HB.out)); (case side2 => exact HC0_1.out); rintro e w11 ⟨v799, v802, v805, v808, rfl, ho0, ho1, ho2, ho3, hb⟩; refine ⟨_, rfl, ?_⟩; have HO800 := Z_ (rL_ ho0 (fZ_ hB_)); have HO803 := Z_ (rL_ ho1 (fZ_ hB_)); have HO806 := Z_ (rL_ ho2 (fZ_ hB_)); have HO809 := Z_ (rL_ ho3 (fZ_ hB_)); replace BK796 := Z_ (bB_ (g := gb796) (o := .cells #[.int .i64 a0_0, .slice A0_1 l0_1.length c0_1] 24 (0, 0)) (bR_ BK796.out) hb); replace HB := Z_ (fS_ hB_ hb); (try clear hb); (try clear hb2); (try clear hk); (try clear hi); (try clear ho0); (try clear ho1); (try clear ho2); (try clear ho3)) | ((with_reducible refine gate_dst (N := 6) rfl ?_); refine bX_ 6 #[.slice none 0 0, .slice none 0 0, .slice none 0 0] 88 ?_; intro gb811 hg w12 hbox hb; replace HO800 := Z_ (rB_ (rK_ HO800.out) hb); replace HO803 := Z_ (rB_ (rK_ HO803.out) hb); replace HO806 := Z_ (rB_ (rK_ HO806.out) hb); replace HO809 := Z_ (rB_ (rK_ HO809.out) hb); have BK811 := Z_ (hbox); have GW811 := Z_ ((by rw [hg]; exact (fZ_ hB_) : w.heap.size ≤ gb811)); have GE811 := Z_ ((by rw [hg]; exact (fZ_ hB_) : w.heap.size ≤ gb811)); replace HB := Z_ (fS_ hB_ hb); have NB796_811 := Z_ ((by rw [hg]; exact Nat.ne_of_lt (blk_lt (g := gb796) (o := .cells #[.int .i64 a0_0, .slice A0_1 l0_1.length c0_1] 24 (0, 0)) (bR_ BK796.out)) : gb796 ≠ gb811)); have NB811_796 := Z_ ((by rw [hg]; exact Nat.ne_of_gt (blk_lt (g := gb796) (o := .cells #[.int .i64 a0_0, .slice A0_1 l0_1.length c0_1] 24 (0, 0)) (bR_ BK796.out)) : gb811 ≠ gb796)); replace BK796 := Z_ (bB_ (g := gb796) (o := .cells #[.int .i64 a0_0, .slice A0_1 l0_1.length c0_1] 24 (0, 0)) (bR_ BK796.out) hb); clear hb hbox hg; obtain ⟨Ao13, co13, eo13⟩ := rS_ HO803.out; subst eo13; have hnb14 := NB811_796.out; have hnc14 := NB796_811.out; obtain ⟨⟨hcz15_0, hcz15_1, hcz15_2⟩, hfz15_0, hfz15_1, hfz15_2⟩ := f3_ BK811.out; obtain ⟨Ao16, co16, eo16⟩ := rS_ HO806.out; subst eo16; obtain ⟨Ao17, co17, eo17⟩ := rS_ HO809.out; subst eo17)); (try simp only [Act.put, sT_, sZ_, sS_])
  have H := HF9.out; clear HF9; by_cases c18 : t810 ≥ 0
  ·rw [if_pos c18] at H
   have c18b0 : decide (0 ≤ t810) = true := eT_ c18; clear c18; (first | rw [c18b0] | (simp only [i64_w, i32_w]; rw [c18b0]) | skip)
   simp only [oJ_, pI_] at H; obtain ⟨rfl, rfl⟩ := H; go_wp2; go_ret2; exact ⟨_, eW_, by first | exact Kd.R_nil _ _ _ _ _ | exact Kd.N_nil _ _ _ _ _ | exact Kd.V_nil _ _ _ _ _ | exact Kd.Q_nil _ _ _ _ _ | exact Kd.S_nil _ _ _ _ _, hB_⟩
  rw [if_neg c18] at H; have c18b0 : decide (0 ≤ t810) = false := eF_ c18; clear c18; (first | rw [c18b0] | (simp only [i64_w, i32_w]; rw [c18b0]) | skip)
  simp only [oJ_, pI_] at H; obtain ⟨rfl, rfl⟩ := H; go_wp2; go_ret2; exact ⟨_, eW_, by (with_reducible repeat (first | apply rN_ | apply rD_)); exact rM_ (rF_ (p := ⟨gb811, 2, none⟩) (rF_ (p := ⟨gb811, 1, none⟩) (rF_ (p := ⟨gb811, 0, none⟩) (Kd.R_types HO800.out BK811.out (by decide)) (fun _ hk => hk.2) (.slice Ao13 t801.length co13)) (fun _ hk => hk.2) (.slice Ao16 t804.length co16)) (fun _ hk => hk.2) (.slice Ao17 t807.length co17)) (fun _ hk => trivial), hB_⟩
 rw [if_neg c7] at H; obtain ⟨c7b0, c7b1⟩ := bn_ c7; (first | rw [c7b0] | (simp only [i64_w, i32_w]; rw [c7b0]) | skip)
 simp only [oJ_, pI_] at H; obtain ⟨rfl, rfl⟩ := H; go_wp2; go_ret2; exact ⟨_, eW_, by first | exact Kd.R_nil _ _ _ _ _ | exact Kd.N_nil _ _ _ _ _ | exact Kd.V_nil _ _ _ _ _ | exact Kd.Q_nil _ _ _ _ _ | exact Kd.S_nil _ _ _ _ _, hB_⟩
def diffs_numbers.f (a0 : Int) (l1 : List Int) : Option (Bool) := if (l1.length : Int) = a0 then ((cf122.f l1).bind fun t1126 => (some (!t1126))) else (some false)
set_option maxHeartbeats 8000000 in
set_option maxRecDepth 100000 in
theorem diffs_numbers.calls (a0 : Int) (A1 : Option Addr) (c1 : Nat) (l1 : List Int) (r : Bool) (w : World) (hr1 : Kd.C (Kd.int .i64) w A1 l1.length l1) (hc1 : l1.length ≤ c1) (h : diffs_numbers.f a0 l1 = some r) :
  Calls Try.prog 104 #[.int .i64 a0, .slice A1 l1.length c1] w fun e w' => e = .returned (.bool r) ∧ Below w.heap.size w w' := by
 have HR1 := Z_ hr1; have HC1 := Z_ hc1; clear hr1 hc1; have HB := Z_ (Below.refl w.heap.size w); have H : (if (l1.length : Int) = a0 then ((cf122.f l1).bind fun t1126 => (some (!t1126))) else (some false)) = some r := h; clear h; by_cases c3 : (l1.length : Int) = a0
 ·rw [if_pos c3] at H
  have c3b0 : ((l1.length : Int) == a0) = true := beq_iff_eq.mpr c3; have c3b1 : ((l1.length : Int) != a0) = false := bne_eq_false_iff_eq.mpr c3; clear c3; replace H := oS_.mp H; obtain ⟨t1126, A40, H⟩ := H; have A4 := Z_ A40; clear A40; obtain rfl := oI_ H; go_enter Try.func104, Try.ntmps104; go_wp2_with (first | (go_at_call 57; (with_reducible refine (cf122.calls _ _ l1 t1126 _ ?side1 ?side2 A4.out).mono ?_); (case side1 => exact cS_ HR1.out); (case side2 => exact HC1.out); rintro e w5 ⟨rfl, hb⟩; replace HB := Z_ (fS_ hB_ hb); (try clear hb); (try clear hb2); (try clear hk); (try clear hi))); go_ret; exact ⟨eW_, hB_⟩
 rw [if_neg c3] at H; have c3b0 : ((l1.length : Int) == a0) = false := beq_eq_false_iff_ne.mpr c3; have c3b1 : ((l1.length : Int) != a0) = true := bne_iff_ne.mpr c3; obtain rfl := oI_ H; go_enter Try.func104, Try.ntmps104; go_wp2; go_ret; exact ⟨eW_, hB_⟩
def diffs_Holds.f (k : Nat) (a0_0 : Int) (l0_1 : List (S39)) (l1 : List Int) : Option (Bool × Int) := (diffs_numbers.f a0_0 l1).bind fun t1175 => ((diffs_asked.f k a0_0 l0_1 (([t1175] : List Bool))).bind fun t1179 => (if t1179 = 0 then ((diffs_holds.f a0_0 l0_1 l1).bind fun t1180 => (some (t1180, 0))) else (some (false, t1179))))
theorem diffs_Holds.mono : ∀ a0 a1 a2 k, LeO (diffs_Holds.f k a0 a1 a2) (diffs_Holds.f (k + 1) a0 a1 a2) := by
 intro a0 a1 a2 k; unfold diffs_Holds.f; repeat' first | (with_reducible first | exact diffs_asked.mono _ _ _ _ | exact LeO.refl _ | exact LeO.none _ | refine LeO.ite ?_ ?_ | refine LeO.bind ?_ (fun _ => ?_)) | exact diffs_asked.mono _ _ _ _ | exact LeO.none _ | refine LeO.ite ?_ ?_ | refine LeO.bind ?_ (fun _ => ?_)
def diffs_Holds.T1 : Bool × List (List Nat × List Nat) := (true, [([], []), ([], []), ([1], [1]), ([], []), ([2, 3], [2, 3]), ([4], [4]), ([0, 5, 4], [0, 5]), ([6, 6, 0, 1, 2, 3, 4, 5, 6], [6])])
def diffs_Holds.B1 : List Nat := [0, 0, 2, 0, 14, 30, 63, 127]
theorem diffs_Holds.tab1 : rtab .any (opsOf Try.f56 1) = diffs_Holds.T1 := by kernel_rfl
theorem diffs_Holds.bits1 : waitsOk diffs_Holds.T1.2 diffs_Holds.B1 = true := by kernel_rfl
set_option maxHeartbeats 8000000 in
set_option maxRecDepth 100000 in
theorem diffs_Holds.calls (k : Nat) (a0_0 : Int) (A0_1 : Option Addr) (c0_1 : Nat) (l0_1 : List (S39)) (A1 : Option Addr) (c1 : Nat) (l1 : List Int) (r1 : Bool) (r2 : Int) (w : World) (hr0_1 : Kd.C k39 w A0_1 l0_1.length l0_1) (hc0_1 : l0_1.length ≤ c0_1) (hr1 : Kd.C (Kd.int .i64) w A1 l1.length l1) (hc1 : l1.length ≤ c1) (h : diffs_Holds.f k a0_0 l0_1 l1 = some (r1, r2)) :
  Calls Try.prog 56 #[.agg #[.int .i64 a0_0, .slice A0_1 l0_1.length c0_1], .slice A1 l1.length c1] w fun e w' => e = .returned (.tuple #[.bool r1, .int .i64 r2]) ∧ Below w.heap.size w w' := by
 have hu24 := Try.underlying24; have HR0_1 := Z_ hr0_1; have HC0_1 := Z_ hc0_1; clear hr0_1 hc0_1; have HR1 := Z_ hr1; have HC1 := Z_ hc1; clear hr1 hc1; have HB := Z_ (Below.refl w.heap.size w); have H : ((diffs_numbers.f a0_0 l1).bind fun t1175 => ((diffs_asked.f k a0_0 l0_1 (([t1175] : List Bool))).bind fun t1179 => (if t1179 = 0 then ((diffs_holds.f a0_0 l0_1 l1).bind fun t1180 => (some (t1180, 0))) else (some (false, t1179))))) = some (r1, r2) := h; clear h; replace H := oS_.mp H; obtain ⟨t1175, A30, H⟩ := H; have A3 := Z_ A30; clear A30; obtain ⟨y1176, hy1176⟩ : ∃ y_ : List Bool, y_ = (([t1175] : List Bool)) := ⟨_, rfl⟩; replace H : ((diffs_asked.f k a0_0 l0_1 y1176).bind fun t1179 => (if t1179 = 0 then ((diffs_holds.f a0_0 l0_1 l1).bind fun t1180 => (some (t1180, 0))) else (some (false, t1179)))) = some (r1, r2) := by first | (rw [hy1176]; with_reducible exact H) | (have H2_ := (oB_ _ _).symm.trans H; rw [hy1176]; with_reducible exact H2_) | (have H2_ := (oB_ _ _).symm.trans H; with_reducible exact H2_) | with_reducible exact H | (rw [hy1176]; exact H) | exact H
 have Ny1176 := Z_ hy1176; clear hy1176; replace H := oS_.mp H; obtain ⟨t1179, A40, H⟩ := H; have A4 := Z_ A40; clear A40; have HF5 := Z_ H; clear H; go_enter Try.func56, Try.ntmps56; try go_wp2_with (first | ((with_reducible refine gate_dst (N := 2) rfl ?_); refine bX_ 2 #[.int .i64 a0_0, .slice A0_1 l0_1.length c0_1] 24 ?_; intro gb1174 hg w6 hbox hb; have BK1174 := Z_ (hbox); have GW1174 := Z_ ((by rw [hg]; exact (fZ_ hB_) : w.heap.size ≤ gb1174)); have GE1174 := Z_ ((by rw [hg]; exact (fZ_ hB_) : w.heap.size ≤ gb1174)); replace HB := Z_ (fS_ hB_ hb); clear hb hbox hg))
 replace BK1174 := Z_ (bD_ BK1174.out); replace HB := Z_ (fD_ HB.out); refine start_ (n := 8) (S := fun w' => w'.cell? ⟨gb1174, 0, none⟩ = some (.int .i64 a0_0) ∧ w'.cell? ⟨gb1174, 1, none⟩ = some (.slice A0_1 l0_1.length c0_1)) (ds := []) #[false, false, false, false, false, false, false, false] (by kernel_rfl) rfl rfl ⟨(bC_ BK1174.out 0).trans rfl, (bC_ BK1174.out 1).trans rfl⟩ (fun hHeld => ?_); refine with_tabW diffs_Holds.tab1 diffs_Holds.bits1 (fun HT_ HW_ => ?_); generalize w6.drew = w7 at BK1174 HB hHeld ⊢; refine pP_ 1 8 ?_; refine pP_ 3 10 ?_; refine pT_ 0 7 ?_; refine pT_ 2 9 ?_; refine oN_ 4 (some 11) (fun K hK => ?_); refine gO_ Try.func104 #[.int .i64 a0_0, .slice A1 l1.length c1] ?_; with_reducible refine (diffs_numbers.calls a0_0 _ _ l1 t1175 _ ?side1 ?side2 A3.out).mono ?_
 (case side1 => exact cS_ (cB_ HR1.out HB.out))
 (case side2 => exact HC1.out)
 rintro e w8 ⟨rfl, hb⟩; refine ⟨_, rfl, ?_⟩; replace BK1174 := Z_ (bB_ (g := gb1174) (o := .cells #[.int .i64 a0_0, .slice A0_1 l0_1.length c0_1] 24 (0, 0)) (bR_ BK1174.out) hb); replace HB := Z_ (fS_ hB_ hb); (try clear hb)
 (try clear hb2)
 (try clear hk)
 (try clear hi)
 refine hK.out _ _ ⟨(bC_ BK1174.out 0).trans rfl, (bC_ BK1174.out 1).trans rfl⟩ (fun hHeld => ?_); clear hK K; refine nP_ 11 ?_; refine oN_ 5 (some 12) (fun K hK => ?_); refine Kd.R_lit_step Kd.bool _ 4 ?hg (N := 12) ?hd (xs := ([t1175] : List Bool)) (inner := [.bool t1175]) (ok := fun _ => True) (okp := fun _ => True) ?hr ?hp (fun _ hk => hk) trivial (Below.refl _ _) (nR_ _) (by simp) ?_; (case hd => rfl); (case hg => rfl); (case hr => first | (go_simp; done) | (go_simp; rfl)); (case hp => exact (Reps.one (show Kd.M Kd.bool _ _ _ t1175 [.bool t1175] from rfl) (Reps.none _ _))); intro v1177 w9 ho10 hb hg_ hnew_; clear hg_ hnew_; (first | rw [← Ny1176.out] at ho10 | (simp only [Int.reduceToNat] at ho10; rw [← Ny1176.out] at ho10))
 have HO1178 := Z_ (rL_ ho10 (fZ_ hB_)); replace BK1174 := Z_ (bB_ (g := gb1174) (o := .cells #[.int .i64 a0_0, .slice A0_1 l0_1.length c0_1] 24 (0, 0)) (bR_ BK1174.out) hb); replace HB := Z_ (fS_ hB_ hb); clear hb ho10; obtain ⟨Ao11, co11, eo11⟩ := rS_ HO1178.out; (first | subst eo11 | (injection eo11 with f1_ f2_ f3_; have f4_ := f1_.symm; have f5_ := f3_.symm; clear f1_ f2_ f3_; subst f4_; subst f5_))
 refine hK.out _ _ ⟨(bC_ BK1174.out 0).trans rfl, (bC_ BK1174.out 1).trans rfl⟩ (fun hHeld => ?_); clear hK K; refine nP_ 12 ?_; refine oN_ 6 (some 13) (fun K hK => ?_); refine gO_ Try.func77 #[.agg #[.int .i64 a0_0, .slice A0_1 l0_1.length c0_1], .slice Ao11 y1176.length co11] ?_; with_reducible refine (diffs_asked.calls k a0_0 _ _ l0_1 _ _ y1176 t1179 _ ?side1 ?side2 ?side3 ?side4 A4.out).mono ?_
 (case side1 => exact cS_ (cB_ HR0_1.out HB.out))
 (case side2 => exact HC0_1.out)
 (case side3 => repeat (first | exact (rR_ HO1178.out).2.2 | (with_reducible refine Kd.C_alloc ?_ _) | (with_reducible refine Kd.C_drewN ?_ _) | (with_reducible refine Kd.C_drew ?_)))
 (case side4 => exact (rR_ HO1178.out).2.1)
 rintro e w12 ⟨rfl, hb⟩; refine ⟨_, rfl, ?_⟩; replace HO1178 := Z_ (rB_ (rK_ HO1178.out) hb); replace BK1174 := Z_ (bB_ (g := gb1174) (o := .cells #[.int .i64 a0_0, .slice A0_1 l0_1.length c0_1] 24 (0, 0)) (bR_ BK1174.out) hb); replace HB := Z_ (fS_ hB_ hb); (try clear hb)
 (try clear hb2)
 (try clear hk)
 (try clear hi)
 refine hK.out _ _ ⟨(bC_ BK1174.out 0).trans rfl, (bC_ BK1174.out 1).trans rfl⟩ (fun hHeld => ?_); clear hK K; refine nP_ 13 ?_; refine pP_ 7 6 ?_; refine dN_ ?_; go_upto_if 15 with (fail); have H := HF5.out; clear HF5; by_cases c13 : t1179 = 0
 ·rw [if_pos c13] at H
  obtain ⟨c13b0, c13b1⟩ := be_ c13; clear c13; (first | rw [c13b0] | (simp only [i64_w, i32_w]; rw [c13b0]) | skip)
  replace H := oS_.mp H; obtain ⟨t1180, A140, H⟩ := H; have A14 := Z_ A140; clear A140; simp only [oJ_, pI_] at H; obtain ⟨rfl, rfl⟩ := H; obtain ⟨⟨hcz15_0, hcz15_1⟩, hfz15_0, hfz15_1⟩ := f2_ BK1174.out; go_wp2_with (first | ((with_reducible refine gate_callee (f := 105) rfl ?_); refine gL_ (some 19) Try.func105 #[.agg #[.int .i64 a0_0, .slice A0_1 l0_1.length c0_1], .slice A1 l1.length c1] ?_; (with_reducible refine (diffs_holds.calls a0_0 _ _ l0_1 _ _ l1 t1180 _ ?side1 ?side2 ?side3 ?side4 A14.out).mono ?_); (case side1 => exact cS_ (cB_ HR0_1.out HB.out)); (case side2 => exact HC0_1.out); (case side3 => exact cS_ (cB_ HR1.out HB.out)); (case side4 => exact HC1.out); rintro e w16 ⟨rfl, hb⟩; refine ⟨_, rfl, ?_⟩; replace HO1178 := Z_ (rB_ (rK_ HO1178.out) hb); replace BK1174 := Z_ (bB_ (g := gb1174) (o := .cells #[.int .i64 a0_0, .slice A0_1 l0_1.length c0_1] 24 (0, 0)) (bR_ BK1174.out) hb); replace HB := Z_ (fS_ hB_ hb); (try clear hb); (try clear hb2); (try clear hk); (try clear hi))); go_ret2; exact ⟨eW_, hB_⟩
 rw [if_neg c13] at H; obtain ⟨c13b0, c13b1⟩ := bn_ c13; (first | rw [c13b0] | (simp only [i64_w, i32_w]; rw [c13b0]) | skip)
 simp only [oJ_, pI_] at H; obtain ⟨rfl, rfl⟩ := H; go_wp2; go_ret2; exact ⟨eW_, hB_⟩
end Go.Proofs.Ytpolojoeabmhdaa.A
/- Holds, Solve: what they answer. -/
namespace Go.Proofs.Ytpolojoeabmhdaa.A
open Go.RowKit Go.Proofs.YtpolojoeabmhdaaW.PrintWords Go.Proofs.YtpolojoeabmhdaaW.PrintLast Go.Proofs.YtpolojoeabmhdaaW.PrintMore
theorem numbers_some (n : Int) (x : List Int) : ∃ b, diffs_numbers.f n x = some b ∧ (b = true ↔ NumOk n x) := by
  unfold diffs_numbers.f
  by_cases c : (x.length : Int) = n
  · rw [if_pos c]
    unfold cf122.f
    refine ⟨_, rfl, ?_⟩
    rw [Bool.not_eq_true', List.any_eq_false]
    constructor
    · intro h
      refine ⟨c, fun v v0 v1 => ?_⟩
      have := h (rd x v) (rd_mem v0 (by omega))
      simpa [in_] using this
    · intro h y hy
      obtain ⟨v, v0, v1, rfl⟩ := mem_rd hy
      have := h.b v v0 (by omega)
      simp [in_, this.1, this.2]
  · rw [if_neg c]
    exact ⟨false, rfl, fun h => (by cases h), fun h => absurd h.l c⟩
section
variable {n : Nat} {L : List S39}
theorem holds_some (hV : Valid n L) {x : List Int} (hx : NumOk n x) : ∃ b, diffs_holds.f n L x = some b ∧ (b = true ↔ Ful n L x) := by
  have hn1 := hV.n1
  have hl := hx.l
  have hE := edges_mem hV.e
  unfold diffs_holds.f
  rw [if_neg (by omega)]
  by_cases c : rd x 0 = 0
  · have hok : L.all (holdsOk x) = true := by
      rw [List.all_eq_true]
      intro d hd
      have he := hE d hd
      have b0 := hx.b _ he.a he.b
      have b1 := hx.b _ he.c he.g
      unfold holdsOk
      simp only [Bool.and_eq_true, decide_eq_true_eq]
      have h1 := he.a
      have h2 := he.b
      have h3 := he.c
      have h4 := he.g
      exact ⟨⟨⟨⟨⟨h1, by omega⟩, h3⟩, by omega⟩, by omega⟩, by omega⟩
    rw [if_pos c, if_pos hok]
    refine ⟨_, rfl, ?_⟩
    rw [List.all_eq_true]
    constructor
    · intro h
      refine ⟨hl, by omega, c, hx.b, fun k k0 k1 => ?_⟩
      have he := hV.e k k0 k1
      have hm : rd_T39 L k ∈ L := by
        unfold rd_T39
        rw [List.getD_eq_getElem?_getD, List.getElem?_eq_getElem (by omega)]; exact List.getElem_mem _
      exact ⟨he.a, he.b, he.c, he.g, by simpa using h _ hm⟩
    · intro h d hd
      obtain ⟨i, hi, rfl⟩ := List.getElem_of_mem hd
      have := (h.e i (by omega) (by omega)).2.2.2.2
      unfold rd_T39 at this
      rw [List.getD_eq_getElem?_getD, Int.toNat_natCast, List.getElem?_eq_getElem hi] at this
      exact decide_eq_true this
  · rw [if_neg c]
    exact ⟨false, rfl, fun h => (by cases h), fun h => absurd h.z c⟩
theorem holds_ev (hV : Valid n L) (x : List Int) : ∃ b e, Ev (fun k => diffs_Holds.f k n L x) (b, e) ∧ (b = true ↔ Ful n L x) ∧ (¬ NumOk n x → e = 1) ∧ (NumOk n x → e = 0) := by
  obtain ⟨p, p1, p2⟩ := numbers_some n x
  have hask := asked_ev n L [p] (by simp)
  rw [if_pos (validB_iff.2 hV)] at hask
  unfold diffs_Holds.f
  rw [p1]
  simp only [Option.bind_some]
  cases p with
  | false => exact ⟨false, 1, hask.bind (Ev.neg (by decide) (Ev.now _)), ⟨fun h => (by cases h), fun h => p2.2 h.num⟩, fun _ => rfl, fun h => absurd (p2.2 h) (by decide)⟩
  | true =>
    have hx := p2.1 rfl
    obtain ⟨b, b1, b2⟩ := holds_some hV hx
    rw [b1]
    exact ⟨b, 0, hask.bind (Ev.pos (by decide) (Ev.now _)), b2, fun h => absurd hx h, fun _ => rfl⟩
theorem holds_bad {m : Int} (hv : ¬ validB m L = true) (x : List Int) : Ev (fun k => diffs_Holds.f k m L x) (false, 40) := by
  obtain ⟨p, p1, p2⟩ := numbers_some m x
  have hask := asked_ev m L [p] (by simp)
  rw [if_neg hv] at hask
  unfold diffs_Holds.f
  rw [p1]
  simp only [Option.bind_some]
  exact hask.bind (Ev.neg (by decide) (Ev.now _))
theorem dsolve_ev (hV : Valid n L) : ∃ x e, Ev (fun k => diffs_Solve.f k n L) (x, e) ∧ (Solv L → e = 0 ∧ Ful n L x) ∧ (¬ Solv L → e = 41 ∧ x = []) := by
  have hn0 : 0 < n := by have := hV.n1; omega
  have hn : n ≤ 256 := by have := hV.n2; omega
  have hc := check_ev n L
  rw [if_pos (validB_iff.2 hV)] at hc
  unfold diffs_Solve.f
  by_cases hs : Solv L
  · obtain ⟨x, s, h1, h2⟩ := solve_ful hn0 hn hV.e (hmul hV) hs
    exact ⟨x, 0, hc.bind (Ev.pos rfl (h1.bind (Ev.neg (by simp) (Ev.now _)))), fun _ => ⟨rfl, h2⟩, fun h => absurd hs h⟩
  · obtain ⟨x, s, bad, h1, h2, h3, h4, h5⟩ := solve_ev hn0 (by omega) hV.e (hmul hV)
    have hb : ¬ bad = -1 := fun e => hs ((h2.bad_iff hV.e (fun v a b => mem_allL.2 ⟨a, b⟩)).1 e)
    exact ⟨[], 41, hc.bind (Ev.pos rfl (h3.bind (Ev.pos (by rcases h2.res with ⟨a, _⟩ | ⟨a, _⟩; exact absurd a hb; exact a) (Ev.now _)))), fun h => absurd h hs, fun _ => ⟨rfl, rfl⟩⟩
theorem dsolve_bad {m : Int} (hv : ¬ validB m L = true) : Ev (fun k => diffs_Solve.f k m L) ([], 40) := by
  have hc := check_ev m L
  rw [if_neg hv] at hc
  unfold diffs_Solve.f
  exact hc.bind (Ev.neg (by decide) (Ev.now _))
end
end Go.Proofs.Ytpolojoeabmhdaa.A
namespace Go.Proofs.Ytpolojoeabmhdaa.A
open Go.RowKit Go.Proofs.YtpolojoeabmhdaaW.PrintWords Go.Proofs.YtpolojoeabmhdaaW.PrintLast Go.Proofs.YtpolojoeabmhdaaW.PrintMore
attribute [local go_sem] max2_int min2_int max_two min_two max_three min_three max_four min_four
mutual
def diffs_Higher.j0 : Nat → List Int → List Int → Bool → Option (List Int × Int)
 | 0, _, _, _ => none
 | k + 1, x1, x2, x35 => if x35 = true then (some (([] : List Int), 43)) else ((slices_Clone_int_int.f x1).bind fun t1136 => (diffs_Higher.l0 k t1136 x2 (x2.length : Int) 0))
def diffs_Higher.l0 : Nat → List Int → List Int → Int → Int → Option (List Int × Int)
 | 0, _, _, _, _ => none
 | k + 1, x9, x38, x39, x40 => if x40 < x39 then (if 0 ≤ x40 then (if x40 < (x38.length : Int) then (if x40 < (x9.length : Int) then (diffs_Higher.l0 k (x9.set (x40 : Int).toNat (mx (rd x9 x40) (rd x38 x40))) x38 x39 (wrap64 (x40 + 1))) else (none)) else (none)) else (none)) else (some (x9, 0))
end
def diffs_Higher.f (k : Nat) (a0_0 : Int) (l0_1 : List (S39)) (l1 : List Int) (l2 : List Int) : Option (List Int × Int) := (diffs_numbers.f a0_0 l1).bind fun t1128 => ((diffs_numbers.f a0_0 l2).bind fun t1129 => ((diffs_asked.f k a0_0 l0_1 (([t1128, t1129] : List Bool))).bind fun t1133 => (if t1133 = 0 then ((diffs_holds.f a0_0 l0_1 l1).bind fun t1134 => (if t1134 = true then ((diffs_holds.f a0_0 l0_1 l2).bind fun t1135 => (diffs_Higher.j0 k l1 l2 (!t1135))) else (diffs_Higher.j0 k l1 l2 true))) else (some (([] : List Int), t1133)))))
theorem diffs_Higher.mono_l : ∀ k, (∀ y0 y1 y2, LeO (diffs_Higher.j0 k y0 y1 y2) (diffs_Higher.j0 (k + 1) y0 y1 y2)) ∧ (∀ y0 y1 y2 y3, LeO (diffs_Higher.l0 k y0 y1 y2 y3) (diffs_Higher.l0 (k + 1) y0 y1 y2 y3))
 | 0 => ⟨fun _ _ _ r h => by simp [diffs_Higher.j0] at h, fun _ _ _ _ r h => by simp [diffs_Higher.l0] at h⟩
 | k + 1 => by
  obtain ⟨ih0, ih1⟩ := diffs_Higher.mono_l k; refine ⟨?_, ?_⟩ <;> intros <;> (first | unfold diffs_Higher.j0 | unfold diffs_Higher.l0) <;> repeat' first | (with_reducible first | exact ih0 _ _ _ | exact ih1 _ _ _ _ | exact diffs_asked.mono _ _ _ _ | exact LeO.refl _ | exact LeO.none _ | refine LeO.ite ?_ ?_ | refine LeO.bind ?_ (fun _ => ?_)) | exact ih0 _ _ _ | exact ih1 _ _ _ _ | exact diffs_asked.mono _ _ _ _ | exact LeO.none _ | refine LeO.ite ?_ ?_ | refine LeO.bind ?_ (fun _ => ?_)
theorem diffs_Higher.mono : ∀ a0 a1 a2 a3 k, LeO (diffs_Higher.f k a0 a1 a2 a3) (diffs_Higher.f (k + 1) a0 a1 a2 a3) := by
 intro a0 a1 a2 a3 k; obtain ⟨ih0, ih1⟩ := diffs_Higher.mono_l k; unfold diffs_Higher.f; repeat' first | (with_reducible first | exact ih0 _ _ _ | exact ih1 _ _ _ _ | exact diffs_asked.mono _ _ _ _ | exact LeO.refl _ | exact LeO.none _ | refine LeO.ite ?_ ?_ | refine LeO.bind ?_ (fun _ => ?_)) | exact ih0 _ _ _ | exact ih1 _ _ _ _ | exact diffs_asked.mono _ _ _ _ | exact LeO.none _ | refine LeO.ite ?_ ?_ | refine LeO.bind ?_ (fun _ => ?_)
def diffs_Higher.T1 : Bool × List (List Nat × List Nat) := (true, [([], []), ([], []), ([1], [1]), ([], []), ([2, 3], [2, 3]), ([], []), ([5], [5]), ([], []), ([6, 7, 4], [6, 7]), ([4, 8], [4, 8]), ([0, 9, 8], [0, 9]), ([10, 10, 0, 1, 2, 3, 4, 5, 6, 7, 8, 9, 10], [10])])
def diffs_Higher.B1 : List Nat := [0, 0, 2, 0, 14, 0, 32, 0, 254, 510, 1023, 2047]
theorem diffs_Higher.tab1 : rtab .any (opsOf Try.f55 1) = diffs_Higher.T1 := by kernel_rfl
theorem diffs_Higher.bits1 : waitsOk diffs_Higher.T1.2 diffs_Higher.B1 = true := by kernel_rfl
set_option maxHeartbeats 8000000 in
set_option maxRecDepth 100000 in
theorem diffs_Higher.calls (k : Nat) (a0_0 : Int) (A0_1 : Option Addr) (c0_1 : Nat) (l0_1 : List (S39)) (A1 : Option Addr) (c1 : Nat) (l1 : List Int) (A2 : Option Addr) (c2 : Nat) (l2 : List Int) (r1 : List Int) (r2 : Int) (w : World) (hr0_1 : Kd.C k39 w A0_1 l0_1.length l0_1) (hc0_1 : l0_1.length ≤ c0_1) (hr1 : Kd.C (Kd.int .i64) w A1 l1.length l1) (hc1 : l1.length ≤ c1) (hr2 : Kd.C (Kd.int .i64) w A2 l2.length l2) (hc2 : l2.length ≤ c2) (h : diffs_Higher.f k a0_0 l0_1 l1 l2 = some (r1, r2)) :
  Calls Try.prog 55 #[.agg #[.int .i64 a0_0, .slice A0_1 l0_1.length c0_1], .slice A1 l1.length c1, .slice A2 l2.length c2] w fun e w' => ∃ v0_ : Value, e = .returned (.tuple #[v0_, .int .i64 r2]) ∧ Kd.R (Kd.int .i64) 3 w' w.heap.size (fun _ => True) v0_ r1 ∧ Below w.heap.size w w' := by
 have hu24 := Try.underlying24; have HR0_1 := Z_ hr0_1; have HC0_1 := Z_ hc0_1; clear hr0_1 hc0_1; have HR1 := Z_ hr1; have HC1 := Z_ hc1; clear hr1 hc1; have HR2 := Z_ hr2; have HC2 := Z_ hc2; clear hr2 hc2; have HB := Z_ (Below.refl w.heap.size w); have H : ((diffs_numbers.f a0_0 l1).bind fun t1128 => ((diffs_numbers.f a0_0 l2).bind fun t1129 => ((diffs_asked.f k a0_0 l0_1 (([t1128, t1129] : List Bool))).bind fun t1133 => (if t1133 = 0 then ((diffs_holds.f a0_0 l0_1 l1).bind fun t1134 => (if t1134 = true then ((diffs_holds.f a0_0 l0_1 l2).bind fun t1135 => (diffs_Higher.j0 k l1 l2 (!t1135))) else (diffs_Higher.j0 k l1 l2 true))) else (some (([] : List Int), t1133)))))) = some (r1, r2) := h; clear h; replace H := oS_.mp H; obtain ⟨t1128, A40, H⟩ := H; have A4 := Z_ A40; clear A40; replace H := oS_.mp H; obtain ⟨t1129, A50, H⟩ := H; have A5 := Z_ A50; clear A50; obtain ⟨y1130, hy1130⟩ : ∃ y_ : List Bool, y_ = (([t1128, t1129] : List Bool)) := ⟨_, rfl⟩; replace H : ((diffs_asked.f k a0_0 l0_1 y1130).bind fun t1133 => (if t1133 = 0 then ((diffs_holds.f a0_0 l0_1 l1).bind fun t1134 => (if t1134 = true then ((diffs_holds.f a0_0 l0_1 l2).bind fun t1135 => (diffs_Higher.j0 k l1 l2 (!t1135))) else (diffs_Higher.j0 k l1 l2 true))) else (some (([] : List Int), t1133)))) = some (r1, r2) := by first | (rw [hy1130]; with_reducible exact H) | (have H2_ := (oB_ _ _).symm.trans H; rw [hy1130]; with_reducible exact H2_) | (have H2_ := (oB_ _ _).symm.trans H; with_reducible exact H2_) | with_reducible exact H | (rw [hy1130]; exact H) | exact H
 have Ny1130 := Z_ hy1130; clear hy1130; replace H := oS_.mp H; obtain ⟨t1133, A60, H⟩ := H; have A6 := Z_ A60; clear A60; have HF7 := Z_ H; clear H; go_enter Try.func55, Try.ntmps55; try go_wp2_with (first | ((with_reducible refine gate_dst (N := 3) rfl ?_); refine bX_ 3 #[.int .i64 a0_0, .slice A0_1 l0_1.length c0_1] 24 ?_; intro gb1127 hg w8 hbox hb; have BK1127 := Z_ (hbox); have GW1127 := Z_ ((by rw [hg]; exact (fZ_ hB_) : w.heap.size ≤ gb1127)); have GE1127 := Z_ ((by rw [hg]; exact (fZ_ hB_) : w.heap.size ≤ gb1127)); replace HB := Z_ (fS_ hB_ hb); clear hb hbox hg))
 replace BK1127 := Z_ (bD_ BK1127.out); replace HB := Z_ (fD_ HB.out); refine start_ (n := 12) (S := fun w' => w'.cell? ⟨gb1127, 0, none⟩ = some (.int .i64 a0_0) ∧ w'.cell? ⟨gb1127, 1, none⟩ = some (.slice A0_1 l0_1.length c0_1)) (ds := []) #[false, false, false, false, false, false, false, false, false, false, false, false] (by kernel_rfl) rfl rfl ⟨(bC_ BK1127.out 0).trans rfl, (bC_ BK1127.out 1).trans rfl⟩ (fun hHeld => ?_); refine with_tabW diffs_Higher.tab1 diffs_Higher.bits1 (fun HT_ HW_ => ?_); generalize w8.drew = w9 at BK1127 HB hHeld ⊢; refine pP_ 1 13 ?_; refine pP_ 3 15 ?_; refine pP_ 5 17 ?_; refine pP_ 7 19 ?_; refine pT_ 0 12 ?_; refine pT_ 2 14 ?_; refine pT_ 6 18 ?_; refine oN_ 4 (some 16) (fun K hK => ?_); refine gO_ Try.func104 #[.int .i64 a0_0, .slice A1 l1.length c1] ?_; with_reducible refine (diffs_numbers.calls a0_0 _ _ l1 t1128 _ ?side1 ?side2 A4.out).mono ?_
 (case side1 => exact cS_ (cB_ HR1.out HB.out))
 (case side2 => exact HC1.out)
 rintro e w10 ⟨rfl, hb⟩; refine ⟨_, rfl, ?_⟩; replace BK1127 := Z_ (bB_ (g := gb1127) (o := .cells #[.int .i64 a0_0, .slice A0_1 l0_1.length c0_1] 24 (0, 0)) (bR_ BK1127.out) hb); replace HB := Z_ (fS_ hB_ hb); (try clear hb)
 (try clear hb2)
 (try clear hk)
 (try clear hi)
 refine hK.out _ _ ⟨(bC_ BK1127.out 0).trans rfl, (bC_ BK1127.out 1).trans rfl⟩ (fun hHeld => ?_); clear hK K; refine nP_ 16 ?_; refine oN_ 8 (some 20) (fun K hK => ?_); refine gO_ Try.func104 #[.int .i64 a0_0, .slice A2 l2.length c2] ?_; with_reducible refine (diffs_numbers.calls a0_0 _ _ l2 t1129 _ ?side1 ?side2 A5.out).mono ?_
 (case side1 => exact cS_ (cB_ HR2.out HB.out))
 (case side2 => exact HC2.out)
 rintro e w11 ⟨rfl, hb⟩; refine ⟨_, rfl, ?_⟩; replace BK1127 := Z_ (bB_ (g := gb1127) (o := .cells #[.int .i64 a0_0, .slice A0_1 l0_1.length c0_1] 24 (0, 0)) (bR_ BK1127.out) hb); replace HB := Z_ (fS_ hB_ hb); (try clear hb)
 (try clear hb2)
 (try clear hk)
 (try clear hi)
 refine hK.out _ _ ⟨(bC_ BK1127.out 0).trans rfl, (bC_ BK1127.out 1).trans rfl⟩ (fun hHeld => ?_); clear hK K; refine nP_ 20 ?_; refine oN_ 9 (some 21) (fun K hK => ?_); refine Kd.R_lit_step Kd.bool _ 4 ?hg (N := 21) ?hd (xs := ([t1128, t1129] : List Bool)) (inner := [.bool t1128, .bool t1129]) (ok := fun _ => True) (okp := fun _ => True) ?hr ?hp (fun _ hk => hk) trivial (Below.refl _ _) (nR_ _) (by simp) ?_; (case hd => rfl); (case hg => rfl); (case hr => first | (go_simp; done) | (go_simp; rfl)); (case hp => exact (Reps.one (show Kd.M Kd.bool _ _ _ t1128 [.bool t1128] from rfl) (Reps.one (show Kd.M Kd.bool _ _ _ t1129 [.bool t1129] from rfl) (Reps.none _ _)))); intro v1131 w12 ho13 hb hg_ hnew_; clear hg_ hnew_; (first | rw [← Ny1130.out] at ho13 | (simp only [Int.reduceToNat] at ho13; rw [← Ny1130.out] at ho13))
 have HO1132 := Z_ (rL_ ho13 (fZ_ hB_)); replace BK1127 := Z_ (bB_ (g := gb1127) (o := .cells #[.int .i64 a0_0, .slice A0_1 l0_1.length c0_1] 24 (0, 0)) (bR_ BK1127.out) hb); replace HB := Z_ (fS_ hB_ hb); clear hb ho13; obtain ⟨Ao14, co14, eo14⟩ := rS_ HO1132.out; (first | subst eo14 | (injection eo14 with f1_ f2_ f3_; have f4_ := f1_.symm; have f5_ := f3_.symm; clear f1_ f2_ f3_; subst f4_; subst f5_))
 refine hK.out _ _ ⟨(bC_ BK1127.out 0).trans rfl, (bC_ BK1127.out 1).trans rfl⟩ (fun hHeld => ?_); clear hK K; refine nP_ 21 ?_; refine oN_ 10 (some 22) (fun K hK => ?_); refine gO_ Try.func77 #[.agg #[.int .i64 a0_0, .slice A0_1 l0_1.length c0_1], .slice Ao14 y1130.length co14] ?_; with_reducible refine (diffs_asked.calls k a0_0 _ _ l0_1 _ _ y1130 t1133 _ ?side1 ?side2 ?side3 ?side4 A6.out).mono ?_
 (case side1 => exact cS_ (cB_ HR0_1.out HB.out))
 (case side2 => exact HC0_1.out)
 (case side3 => repeat (first | exact (rR_ HO1132.out).2.2 | (with_reducible refine Kd.C_alloc ?_ _) | (with_reducible refine Kd.C_drewN ?_ _) | (with_reducible refine Kd.C_drew ?_)))
 (case side4 => exact (rR_ HO1132.out).2.1)
 rintro e w15 ⟨rfl, hb⟩; refine ⟨_, rfl, ?_⟩; replace HO1132 := Z_ (rB_ (rK_ HO1132.out) hb); replace BK1127 := Z_ (bB_ (g := gb1127) (o := .cells #[.int .i64 a0_0, .slice A0_1 l0_1.length c0_1] 24 (0, 0)) (bR_ BK1127.out) hb); replace HB := Z_ (fS_ hB_ hb); (try clear hb)
 (try clear hb2)
 (try clear hk)
 (try clear hi)
 refine hK.out _ _ ⟨(bC_ BK1127.out 0).trans rfl, (bC_ BK1127.out 1).trans rfl⟩ (fun hHeld => ?_); clear hK K; refine nP_ 22 ?_; refine pP_ 11 8 ?_; refine dN_ ?_; go_upto_if 24 with (fail); have H := HF7.out; clear HF7; by_cases c16 : t1133 = 0
 ·rw [if_pos c16] at H
  obtain ⟨c16b0, c16b1⟩ := be_ c16; clear c16; (first | rw [c16b0] | (simp only [i64_w, i32_w]; rw [c16b0]) | skip)
  have HC17 := Z_ H; clear H; go_upto_region 4 with (fail); go_cut [35] (fun v35 wc => ∃ (kq : Nat) (x35_16 : Bool), v35 = .bool x35_16 ∧ Aside0 (diffs_Higher.j0 kq l1 l2 x35_16 = some (r1, r2)) ∧ Aside0 (kq ≤ k) ∧ Aside0 (wc.heap[gb1127]? = some (.cells #[.int .i64 a0_0, (.slice A0_1 l0_1.length c0_1)] 24 (0, 0))) ∧ Aside0 (Below w.heap.size w wc))
  case first =>
   have H := HC17.out; clear HC17; replace H := oS_.mp H; obtain ⟨t1134, A180, H⟩ := H; have A18 := Z_ A180; clear A180; by_cases c19 : t1134 = true
   ·subst c19
    rw [if_pos rfl] at H; replace H := oS_.mp H; obtain ⟨t1135, A200, H⟩ := H; have A20 := Z_ A200; clear A200; have H' := Z_ H; clear H; obtain ⟨⟨hcz21_0, hcz21_1⟩, hfz21_0, hfz21_1⟩ := f2_ BK1127.out; go_wp2_with (first | ((with_reducible refine gate_callee (f := 105) rfl ?_); refine gL_ (some 28) Try.func105 #[.agg #[.int .i64 a0_0, .slice A0_1 l0_1.length c0_1], .slice A1 l1.length c1] ?_; (with_reducible refine (diffs_holds.calls a0_0 _ _ l0_1 _ _ l1 true _ ?side1 ?side2 ?side3 ?side4 A18.out).mono ?_); (case side1 => exact cS_ (cB_ HR0_1.out HB.out)); (case side2 => exact HC0_1.out); (case side3 => exact cS_ (cB_ HR1.out HB.out)); (case side4 => exact HC1.out); rintro e w22 ⟨rfl, hb⟩; refine ⟨_, rfl, ?_⟩; replace HO1132 := Z_ (rB_ (rK_ HO1132.out) hb); replace BK1127 := Z_ (bB_ (g := gb1127) (o := .cells #[.int .i64 a0_0, .slice A0_1 l0_1.length c0_1] 24 (0, 0)) (bR_ BK1127.out) hb); replace HB := Z_ (fS_ hB_ hb); (try clear hb); (try clear hb2); (try clear hk); (try clear hi); obtain ⟨⟨hcz23_0, hcz23_1⟩, hfz23_0, hfz23_1⟩ := f2_ BK1127.out) | (go_at_call 105; (with_reducible refine (diffs_holds.calls a0_0 _ _ l0_1 _ _ l2 t1135 _ ?side1 ?side2 ?side3 ?side4 A20.out).mono ?_); (case side1 => exact cS_ (cB_ HR0_1.out HB.out)); (case side2 => exact HC0_1.out); (case side3 => exact cS_ (cB_ HR2.out HB.out)); (case side4 => exact HC2.out); rintro e w24 ⟨rfl, hb⟩; replace HO1132 := Z_ (rB_ (rK_ HO1132.out) hb); replace BK1127 := Z_ (bB_ (g := gb1127) (o := .cells #[.int .i64 a0_0, .slice A0_1 l0_1.length c0_1] 24 (0, 0)) (bR_ BK1127.out) hb); replace HB := Z_ (fS_ hB_ hb); (try clear hb); (try clear hb2); (try clear hk); (try clear hi))); go_meet
    case rel => exact ⟨_, (!t1135), rf_, H', ⟨oL_⟩, ⟨bR_ BK1127.out⟩, ⟨hB_⟩⟩
   replace c19 := bE_.mpr c19; subst c19; have H1 : (diffs_Higher.j0 k l1 l2 true) = some (r1, r2) := by rw [if_neg (show ¬ (false = true) by decide)] at H; exact H
   clear H; have H := H1; clear H1; have H' := Z_ H; clear H; obtain ⟨⟨hcz25_0, hcz25_1⟩, hfz25_0, hfz25_1⟩ := f2_ BK1127.out; go_wp2_with (first | ((with_reducible refine gate_callee (f := 105) rfl ?_); refine gL_ (some 28) Try.func105 #[.agg #[.int .i64 a0_0, .slice A0_1 l0_1.length c0_1], .slice A1 l1.length c1] ?_; (with_reducible refine (diffs_holds.calls a0_0 _ _ l0_1 _ _ l1 false _ ?side1 ?side2 ?side3 ?side4 A18.out).mono ?_); (case side1 => exact cS_ (cB_ HR0_1.out HB.out)); (case side2 => exact HC0_1.out); (case side3 => exact cS_ (cB_ HR1.out HB.out)); (case side4 => exact HC1.out); rintro e w26 ⟨rfl, hb⟩; refine ⟨_, rfl, ?_⟩; replace HO1132 := Z_ (rB_ (rK_ HO1132.out) hb); replace BK1127 := Z_ (bB_ (g := gb1127) (o := .cells #[.int .i64 a0_0, .slice A0_1 l0_1.length c0_1] 24 (0, 0)) (bR_ BK1127.out) hb); replace HB := Z_ (fS_ hB_ hb); (try clear hb); (try clear hb2); (try clear hk); (try clear hi))); go_meet
   case rel => exact ⟨_, (true), rf_, H', ⟨oL_⟩, ⟨bR_ BK1127.out⟩, ⟨hB_⟩⟩
  case rest =>
   clear HC17; (try clear c1); (try clear c2); (try clear p2); (try clear c5); (try clear c7); (try clear c10); (try clear c16); (try clear c16b0); (try clear c16b1); (try clear c19); (try clear hcz21_0); (try clear hcz21_1); (try clear hcz23_0); (try clear hcz23_1); (try clear hcz25_0); (try clear hcz25_1); (try clear hfz21_0); (try clear hfz21_1); (try clear hfz23_0); (try clear hfz23_1); (try clear hfz25_0); (try clear hfz25_1)
   obtain ⟨kq, x35_16, rfl, HA, HJ16, BK1127, HB⟩ := hcut
   cases kq with
   | zero => exact absurd HA.out (by simp [diffs_Higher.j0])
   | succ kj16 =>
    have H := HA.out; clear HA; simp only [diffs_Higher.j0] at H; by_cases c27 : x35_16 = true
    ·subst c27
     rw [if_pos rfl] at H; simp only [oJ_, pI_] at H; obtain ⟨rfl, rfl⟩ := H; go_wp2; go_ret2; exact ⟨_, eW_, by first | exact Kd.R_nil _ _ _ _ _ | exact Kd.N_nil _ _ _ _ _ | exact Kd.V_nil _ _ _ _ _ | exact Kd.Q_nil _ _ _ _ _ | exact Kd.S_nil _ _ _ _ _, hB_⟩
    replace c27 := bE_.mpr c27; subst c27; have H1 : ((slices_Clone_int_int.f l1).bind fun t1136 => (diffs_Higher.l0 kj16 t1136 l2 (l2.length : Int) 0)) = some (r1, r2) := by rw [if_neg (show ¬ (false = true) by decide)] at H; exact H
    clear H; have H := H1; clear H1; replace H := oS_.mp H; obtain ⟨t1136, A280, H⟩ := H; have A28 := Z_ A280; clear A280; have H' := Z_ H; clear H; go_wp2_with (first | ((with_reducible refine gate_callee (f := 99) rfl ?_); refine gL_ (some 37) Try.func99 #[.slice A1 l1.length c1] ?_; (with_reducible refine (slices_Clone_int_int.calls _ _ l1 t1136 _ ?side1 ?side2 A28.out).mono ?_); (case side1 => exact cS_ (cB_ HR1.out HB.out)); (case side2 => exact HC1.out); rintro e w29 ⟨v1137, rfl, ho0, hb⟩; refine ⟨_, rfl, ?_⟩; have HO1138 := Z_ (rL_ ho0 (fZ_ hB_)); replace BK1127 := Z_ (bB_ (g := gb1127) (o := .cells #[.int .i64 a0_0, .slice A0_1 l0_1.length c0_1] 24 (0, 0)) (bR_ BK1127.out) hb); replace HB := Z_ (fS_ hB_ hb); (try clear hb); (try clear hb2); (try clear hk); (try clear hi); (try clear ho0))); go_loopg [40] kj16 (fun kq v40 w' => ∃ (x9_2 : List Int) (x40_2 : Int), v40 = .int .i64 x40_2 ∧ Aside0 (diffs_Higher.l0 kq x9_2 l2 (l2.length : Int) x40_2 = some (r1, r2)) ∧ Aside0 (kq ≤ kj16) ∧ Aside0 (Kd.R (Kd.int .i64) 3 w' w.heap.size (fun _ => True) v1137 x9_2) ∧ Aside0 (w'.heap[gb1127]? = some (.cells #[.int .i64 a0_0, (.slice A0_1 l0_1.length c0_1)] 24 (0, 0))) ∧ Aside0 (Below w.heap.size w w'))
    case atStart => exact ⟨(t1136), (0), rf_, H', ⟨nR_ _⟩, ⟨rK_ HO1138.out⟩, ⟨bR_ BK1127.out⟩, ⟨hB_⟩⟩
    case round =>
     clear H'; (try clear c1); (try clear c2); (try clear p2); (try clear c5); (try clear c7); (try clear c9); (try clear c10); (try clear c16); (try clear c16b0); (try clear c16b1); (try clear c19); (try clear c27); (try clear hcz21_0); (try clear hcz21_1); (try clear hcz23_0); (try clear hcz23_1); (try clear hcz25_0); (try clear hcz25_1); (try clear hfz21_0); (try clear hfz21_1); (try clear hfz23_0); (try clear hfz23_1); (try clear hfz25_0); (try clear hfz25_1); (try clear p2)
     obtain ⟨x9_2, x40_2, rfl, HA, HK2, HO_9, BK1127, HB⟩ := hrel
     cases gk with
     | zero => exact absurd HA.out (by simp [diffs_Higher.l0])
     | succ k2 =>
      have H := HA.out; clear HA; simp only [diffs_Higher.l0] at H; by_cases c30 : x40_2 < (l2.length : Int)
      ·rw [if_pos c30] at H
       have c30b0 : decide (x40_2 < (l2.length : Int)) = true := eT_ c30; clear c30; by_cases c31 : 0 ≤ x40_2
       ·rw [if_pos c31] at H
        have c31b0 : decide (0 ≤ x40_2) = true := eT_ c31; clear c31; by_cases c32 : x40_2 < (l2.length : Int)
        ·rw [if_pos c32] at H
         have c32b0 : decide (x40_2 < (l2.length : Int)) = true := eT_ c32; clear c32; by_cases c33 : x40_2 < (x9_2.length : Int)
         ·rw [if_pos c33] at H
          have c33b0 : decide (x40_2 < (x9_2.length : Int)) = true := eT_ c33; clear c33; obtain ⟨ji34, hji34⟩ : ∃ j_ : Int, (mx (rd x9_2 x40_2) (rd l2 x40_2)) = j_ := ⟨_, rfl⟩; replace H : (diffs_Higher.l0 k2 (x9_2.set (x40_2 : Int).toNat (ji34)) l2 (l2.length : Int) (wrap64 (x40_2 + 1))) = some (r1, r2) := by first | (rw [hji34] at H; exact H) | (simp only [hji34] at H ⊢; exact H)
          have hji34_ : (if (rd x9_2 x40_2) < (rd l2 x40_2) then (rd l2 x40_2) else (rd x9_2 x40_2)) = ji34 := hji34; obtain ⟨y1141, hy1141⟩ : ∃ y_ : List Int, y_ = (x9_2.set (x40_2 : Int).toNat (ji34)) := ⟨_, rfl⟩; replace H : (diffs_Higher.l0 k2 y1141 l2 (l2.length : Int) (wrap64 (x40_2 + 1))) = some (r1, r2) := by first | (rw [hy1141]; with_reducible exact H) | (have H2_ := (oB_ _ _).symm.trans H; rw [hy1141]; with_reducible exact H2_) | (have H2_ := (oB_ _ _).symm.trans H; with_reducible exact H2_) | with_reducible exact H | (rw [hy1141]; exact H) | exact H
          have Ny1141 := Z_ hy1141; clear hy1141; have H' := Z_ H; clear H; have p1139 : 0 ≤ (x40_2 : Int) := dT_ as_; have q1139 : x40_2 < (l2.length : Int) := dT_ as_; obtain ⟨ad1139, e1139, hx1139_0⟩ := Kd.at_int HR2.out x40_2 p1139 q1139; cases e1139
          replace hx1139_0 := (HB.out.cell (World.block_lt_of_cell? w _ hx1139_0)).trans hx1139_0; replace p1139 := eq_true p1139; replace q1139 := eq_true q1139; obtain ⟨Ao36, co36, eo36⟩ := rS_ HO_9.out; subst eo36; have p1140 : 0 ≤ (x40_2 : Int) := dT_ as_; have q1140 : x40_2 < (x9_2.length : Int) := dT_ as_; obtain ⟨ad1140, e1140, hx1140_0⟩ := Kd.at_int (rR_ HO_9.out).2.2 x40_2 p1140 q1140; cases e1140
          replace p1140 := eq_true p1140; replace q1140 := eq_true q1140; have p35 : 0 ≤ (x40_2 : Int) := dT_ as_; have q35 : (x40_2 : Int) < ((x9_2.length : Int) : Int) := dT_ as_; obtain ⟨go35, co35, eo35, gb35, gl35, cl35, HG35⟩ := Kd.R_form HO_9.out (by omega); (first | cases eo35 | (injection eo35 with ea_ en_ ec_; (first | subst ea_ | (injection ea_ with ea_; subst ea_)); subst ec_; clear en_))
          have GB35 := Z_ gb35; have GG35 := Z_ HG35; clear gb35 gl35 HG35; (first | simp only [add_plain] at hx1140_0 | skip)
          obtain ⟨hx35_0, hf35_0⟩ := Kd.R_celln 0 HO_9.out (x40_2 : Int) p35 q35; replace p35 := eq_true p35; replace q35 := eq_true q35; have HP37 := Kd.R_putg HO_9.out (x40_2 : Int) ji34; go_wp2_with (first | ((with_reducible refine gate_store (t := 3) (p := 53) rfl ?_); refine store_event (t := 3) (p := 53) (v := ?vo_w38) (w1 := (wr.setCell ⟨go35, (x40_2 : Int).toNat, none⟩ (.int .i64 ji34))) ?hg ?ho ?hn ?hr ?_; (case ho => rfl); (case hg => rfl); (case hn => rfl); (case hr => first | (go_simp; done) | (go_simp; rfl)); intro w38 hw; have hg : wr.grownBy w38 (some go35) := (by rw [hw]; exact HP37.2); have hp_ : Kd.R (Kd.int .i64) 3 w38 w.heap.size (fun _ => True) (.slice (some ⟨go35, 0, none⟩) x9_2.length co36) y1141 := (by rw [hw, Ny1141.out]; exact HP37.1); clear HP37; replace BK1127 := Z_ (blk_grown (g := gb1127) (o := .cells #[.int .i64 a0_0, .slice A0_1 l0_1.length c0_1] 24 (0, 0)) (bR_ BK1127.out) hg (Kd.R_ne HO_9.out BK1127.out (by decide))); replace HO_9 := Z_ (hp_); replace HB := Z_ ((by rw [hw]; exact fE_ (HB.out) GB35.out : Below w.heap.size w w38)); clear hg hw hp_)); go_roundg k2
          case measure => have := HJ16.out; have := HK2.out; omega
          case rel => exact ⟨(y1141), (wrap64 (x40_2 + 1)), rf_, H', ⟨by have := HJ16.out; have := HK2.out; omega⟩, ⟨rK_ HO_9.out⟩, ⟨bR_ BK1127.out⟩, ⟨hB_⟩⟩
         rw [if_neg c33] at H; exact absurd H (by simp)
        rw [if_neg c32] at H; exact absurd H (by simp)
       rw [if_neg c31] at H; exact absurd H (by simp)
      rw [if_neg c30] at H; have c30b0 : decide (x40_2 < (l2.length : Int)) = false := eF_ c30; clear c30; simp only [oJ_, pI_] at H; obtain ⟨rfl, rfl⟩ := H; go_wp2; go_ret2; exact ⟨_, eW_, rK_ HO_9.out, hB_⟩
 rw [if_neg c16] at H; obtain ⟨c16b0, c16b1⟩ := bn_ c16; (first | rw [c16b0] | (simp only [i64_w, i32_w]; rw [c16b0]) | skip)
 simp only [oJ_, pI_] at H; obtain ⟨rfl, rfl⟩ := H; go_wp2; go_ret2; exact ⟨_, eW_, by first | exact Kd.R_nil _ _ _ _ _ | exact Kd.N_nil _ _ _ _ _ | exact Kd.V_nil _ _ _ _ _ | exact Kd.Q_nil _ _ _ _ _ | exact Kd.S_nil _ _ _ _ _, hB_⟩
end Go.Proofs.Ytpolojoeabmhdaa.A
/- Higher: what it answers. -/
namespace Go.Proofs.Ytpolojoeabmhdaa.A
open Go.RowKit Go.Proofs.YtpolojoeabmhdaaW.PrintWords Go.Proofs.YtpolojoeabmhdaaW.PrintLast Go.Proofs.YtpolojoeabmhdaaW.PrintMore
section
variable {n : Nat} {L : List S39}
structure HigherIs (n : Int) (L : List S39) (x y z : List Int) (e : Int) : Prop where
  arg : ¬ (NumOk n x ∧ NumOk n y) → z = [] ∧ e = 1
  no : NumOk n x ∧ NumOk n y → ¬ (Ful n L x ∧ Ful n L y) → z = [] ∧ e = 43
  yes : Ful n L x ∧ Ful n L y → e = 0 ∧ (z.length : Int) = n ∧ ∀ v, 0 ≤ v → v < n → rd z v = mx (rd x v) (rd y v)
theorem higher_l0 {x y : List Int} (hx : x.length = n) (hy : y.length = n) (hn : n ≤ 256) : ∀ (q : Nat) (i : Int) (z : List Int), (q : Int) + i = n → 0 ≤ i → z.length = n → (∀ v, 0 ≤ v → v < (n : Int) → rd z v = if v < i then mx (rd x v) (rd y v) else rd x v) →
    ∃ z', Ev (fun k => diffs_Higher.l0 k z y y.length i) (z', 0) ∧ z'.length = n ∧ ∀ v, 0 ≤ v → v < (n : Int) → rd z' v = mx (rd x v) (rd y v) := by
  intro q
  induction q with
  | zero =>
    intro i z hq h0 hz hv
    exact ⟨z, Ev.step (f := fun _ => some (z, 0)) (fun k => by rw [diffs_Higher.l0, if_neg (by omega)]) (Ev.now _), hz, fun v v0 v1 => by rw [hv v v0 v1, if_pos (by omega)]⟩
  | succ q ih =>
    intro i z hq h0 hz hv
    obtain ⟨z', g1, g2⟩ := ih (i + 1) (z.set i.toNat (mx (rd z i) (rd y i))) (by omega) (by omega) (by rw [List.length_set]; exact hz) (fun v v0 v1 => by
      rw [rd_set _ _ _ _ h0 (by omega) v0]
      by_cases e : v = i
      · rw [if_pos e, if_pos (by omega), hv i h0 (by omega), if_neg (by omega), e]
      · rw [if_neg e, hv v v0 v1]
        by_cases e2 : v < i
        · rw [if_pos e2, if_pos (by omega)]
        · rw [if_neg e2, if_neg (by omega)])
    refine ⟨z', Ev.step (fun k => ?_) g1, g2⟩
    rw [diffs_Higher.l0, if_pos (by omega), if_pos h0, if_pos (by omega), if_pos (by omega), wrap_id (x := i + 1) (by omega) (by omega)]
theorem higher_ev (hV : Valid n L) (x y : List Int) : ∃ z e, Ev (fun k => diffs_Higher.f k n L x y) (z, e) ∧ HigherIs n L x y z e := by
  have hn2 := hV.n2
  obtain ⟨p, p1, p2⟩ := numbers_some n x
  obtain ⟨q, q1, q2⟩ := numbers_some n y
  have hask := fun p q : Bool => asked_ev n L [p, q] (by simp)
  simp only [if_pos (validB_iff.2 hV)] at hask
  unfold diffs_Higher.f
  rw [p1, q1]
  simp only [Option.bind_some]
  by_cases hA : p = true ∧ q = true
  case neg =>
    have h1 : Ev (fun k => diffs_asked.f k n L [p, q]) 1 := by
      have := hask p q
      rw [if_pos (by cases p <;> cases q <;> first | rfl | exact absurd ⟨rfl, rfl⟩ hA)] at this
      exact this
    have hno : ¬ (NumOk n x ∧ NumOk n y) := fun h => hA ⟨p2.2 h.1, q2.2 h.2⟩
    exact ⟨[], 1, h1.bind (Ev.neg (by decide) (Ev.now _)), fun _ => ⟨rfl, rfl⟩, fun h => absurd h hno, fun h => absurd ⟨h.1.num, h.2.num⟩ hno⟩
  obtain ⟨rfl, rfl⟩ := hA
  have hx := p2.1 rfl
  have hy := q2.1 rfl
  have h0 : Ev (fun k => diffs_asked.f k n L [true, true]) 0 := by
    have := hask true true
    rw [if_neg (by decide)] at this
    exact this
  obtain ⟨b, b1, b2⟩ := holds_some hV hx
  obtain ⟨c, c1, c2⟩ := holds_some hV hy
  have hT : Ev (fun k => diffs_Higher.j0 k x y true) ([], 43) := Ev.step (f := fun _ => some ([], 43)) (fun k => by rw [diffs_Higher.j0]; rfl) (Ev.now _)
  rw [b1, c1]
  simp only [Option.bind_some]
  cases b with
  | false => exact ⟨[], 43, h0.bind (Ev.pos rfl (Ev.neg (by decide) hT)), fun h => absurd ⟨hx, hy⟩ h, fun _ _ => ⟨rfl, rfl⟩, fun h => absurd (b2.2 h.1) (by decide)⟩
  | true =>
    cases c with
    | false => exact ⟨[], 43, h0.bind (Ev.pos rfl (Ev.pos rfl hT)), fun h => absurd ⟨hx, hy⟩ h, fun _ _ => ⟨rfl, rfl⟩, fun h => absurd (c2.2 h.2) (by decide)⟩
    | true =>
      have hlx := hx.l
      have hly := hy.l
      obtain ⟨z, g1, g2, g3⟩ := higher_l0 (x := x) (y := y) (n := n) (by omega) (by omega) (by omega) n 0 x (by omega) (by omega) (by omega) (fun v v0 v1 => by rw [if_neg (by omega)])
      refine ⟨z, 0, h0.bind (Ev.pos rfl (Ev.pos rfl (Ev.step (f := fun k => diffs_Higher.l0 k x y y.length 0) (fun k => ?_) g1))), fun h => absurd ⟨hx, hy⟩ h, fun _ h => absurd ⟨b2.1 rfl, c2.1 rfl⟩ h, fun _ => ⟨rfl, by omega, g3⟩⟩
      rw [diffs_Higher.j0, if_neg (by decide)]
      unfold slices_Clone_int_int.f
      rw [if_pos (by omega)]
      rfl
theorem higher_bad {m : Int} (hv : ¬ validB m L = true) (x y : List Int) : Ev (fun k => diffs_Higher.f k m L x y) ([], 40) := by
  obtain ⟨p, p1, p2⟩ := numbers_some m x
  obtain ⟨q, q1, q2⟩ := numbers_some m y
  have hask := asked_ev m L [p, q] (by simp)
  rw [if_neg hv] at hask
  unfold diffs_Higher.f
  rw [p1, q1]
  simp only [Option.bind_some]
  exact hask.bind (Ev.neg (by decide) (Ev.now _))
theorem mx_is (a b : Int) : (mx a b = a ∨ mx a b = b) ∧ a ≤ mx a b ∧ b ≤ mx a b := by
  unfold mx
  split <;> omega
theorem HigherIs.ful (hV : Valid n L) {x y z : List Int} {e : Int} (h : HigherIs n L x y z e) (hx : Ful n L x) (hy : Ful n L y) : Ful n L z := by
  obtain ⟨_, h1, h2⟩ := h.yes ⟨hx, hy⟩
  have hn1 := hV.n1
  refine ⟨h1, by omega, ?_, fun v v0 v1 => ?_, fun k k0 k1 => ?_⟩
  · rw [h2 0 (by omega) (by omega), hx.z, hy.z]; rfl
  · have := hx.b v v0 v1
    have := hy.b v v0 v1
    have := mx_is (rd x v) (rd y v)
    rw [h2 v v0 v1]
    omega
  · have he := hV.e k k0 k1
    refine ⟨he.a, he.b, he.c, he.g, ?_⟩
    have := (hx.e k k0 k1).2.2.2.2
    have := (hy.e k k0 k1).2.2.2.2
    have := mx_is (rd x (rd_T39 L k).f0) (rd y (rd_T39 L k).f0)
    have := mx_is (rd x (rd_T39 L k).f1) (rd y (rd_T39 L k).f1)
    rw [h2 _ he.c he.g, h2 _ he.a he.b]
    omega
end
end Go.Proofs.Ytpolojoeabmhdaa.A
namespace Go.Proofs.Ytpolojoeabmhdaa.A
open Go.RowKit Go.Proofs.YtpolojoeabmhdaaW.PrintWords Go.Proofs.YtpolojoeabmhdaaW.PrintLast Go.Proofs.YtpolojoeabmhdaaW.PrintMore
attribute [local go_sem] max2_int min2_int max_two min_two max_three min_three max_four min_four
mutual
def snowlineref04_Numbers.l0 : Nat → List Int → Int → Option (Bool)
 | 0, _, _ => none
 | k + 1, x1, x5 => if x5 < (x1.length : Int) then (if 0 ≤ x5 then (if (rd x1 x5) < (-1099511627776) then (snowlineref04_Numbers.j1 k x1 x5 true) else (snowlineref04_Numbers.j1 k x1 x5 (decide ((rd x1 x5) > 1099511627776)))) else (none)) else (some true)
def snowlineref04_Numbers.j1 : Nat → List Int → Int → Bool → Option (Bool)
 | 0, _, _, _ => none
 | k + 1, x1, x5, x28 => if x28 = true then (some false) else (snowlineref04_Numbers.l0 k x1 (wrap64 (x5 + 1)))
end
def snowlineref04_Numbers.f (k : Nat) (a0_0 : Int) (l0_1 : List (S39)) (l1 : List Int) : Option (Bool) := if (l1.length : Int) = a0_0 then (snowlineref04_Numbers.l0 k l1 0) else (some false)
theorem snowlineref04_Numbers.mono_l : ∀ k, (∀ y0 y1, LeO (snowlineref04_Numbers.l0 k y0 y1) (snowlineref04_Numbers.l0 (k + 1) y0 y1)) ∧ (∀ y0 y1 y2, LeO (snowlineref04_Numbers.j1 k y0 y1 y2) (snowlineref04_Numbers.j1 (k + 1) y0 y1 y2))
 | 0 => ⟨fun _ _ r h => by simp [snowlineref04_Numbers.l0] at h, fun _ _ _ r h => by simp [snowlineref04_Numbers.j1] at h⟩
 | k + 1 => by
  obtain ⟨ih0, ih1⟩ := snowlineref04_Numbers.mono_l k; refine ⟨?_, ?_⟩ <;> intros <;> (first | unfold snowlineref04_Numbers.l0 | unfold snowlineref04_Numbers.j1) <;> repeat' first | (with_reducible first | exact ih0 _ _ | exact ih1 _ _ _ | exact LeO.refl _ | exact LeO.none _ | refine LeO.ite ?_ ?_ | refine LeO.bind ?_ (fun _ => ?_)) | exact ih0 _ _ | exact ih1 _ _ _ | exact LeO.none _ | refine LeO.ite ?_ ?_ | refine LeO.bind ?_ (fun _ => ?_)
theorem snowlineref04_Numbers.mono : ∀ a0 a1 a2 k, LeO (snowlineref04_Numbers.f k a0 a1 a2) (snowlineref04_Numbers.f (k + 1) a0 a1 a2) := by
 intro a0 a1 a2 k; obtain ⟨ih0, ih1⟩ := snowlineref04_Numbers.mono_l k; unfold snowlineref04_Numbers.f; repeat' first | (with_reducible first | exact ih0 _ _ | exact ih1 _ _ _ | exact LeO.refl _ | exact LeO.none _ | refine LeO.ite ?_ ?_ | refine LeO.bind ?_ (fun _ => ?_)) | exact ih0 _ _ | exact ih1 _ _ _ | exact LeO.none _ | refine LeO.ite ?_ ?_ | refine LeO.bind ?_ (fun _ => ?_)
set_option maxHeartbeats 8000000 in
set_option maxRecDepth 100000 in
theorem snowlineref04_Numbers.calls (k : Nat) (a0_0 : Int) (A0_1 : Option Addr) (c0_1 : Nat) (l0_1 : List (S39)) (A1 : Option Addr) (c1 : Nat) (l1 : List Int) (r : Bool) (w : World) (hr0_1 : Kd.C k39 w A0_1 l0_1.length l0_1) (hc0_1 : l0_1.length ≤ c0_1) (hr1 : Kd.C (Kd.int .i64) w A1 l1.length l1) (hc1 : l1.length ≤ c1) (h : snowlineref04_Numbers.f k a0_0 l0_1 l1 = some r) :
  Calls Try.prog 95 #[.agg #[.int .i64 a0_0, .slice A0_1 l0_1.length c0_1], .slice A1 l1.length c1] w fun e w' => e = .returned (.bool r) ∧ Below w.heap.size w w' := by
 have hu24 := Try.underlying24; have HR0_1 := Z_ hr0_1; have HC0_1 := Z_ hc0_1; clear hr0_1 hc0_1; have HR1 := Z_ hr1; have HC1 := Z_ hc1; clear hr1 hc1; have HB := Z_ (Below.refl w.heap.size w); have H : (if (l1.length : Int) = a0_0 then (snowlineref04_Numbers.l0 k l1 0) else (some false)) = some r := h; clear h; by_cases c3 : (l1.length : Int) = a0_0
 ·rw [if_pos c3] at H
  have c3b0 : ((l1.length : Int) == a0_0) = true := beq_iff_eq.mpr c3; have c3b1 : ((l1.length : Int) != a0_0) = false := bne_eq_false_iff_eq.mpr c3; clear c3; have H' := Z_ H; clear H; go_enter Try.func95, Try.ntmps95; go_wp2_with (first | ((with_reducible refine gate_dst (N := 2) rfl ?_); refine bX_ 2 #[.int .i64 a0_0, .slice A0_1 l0_1.length c0_1] 24 ?_; intro gb812 hg w4 hbox hb; have BK812 := Z_ (hbox); have GW812 := Z_ ((by rw [hg]; exact (fZ_ hB_) : w.heap.size ≤ gb812)); have GE812 := Z_ ((by rw [hg]; exact (fZ_ hB_) : w.heap.size ≤ gb812)); replace HB := Z_ (fS_ hB_ hb); clear hb hbox hg; obtain ⟨⟨hcz5_0, hcz5_1⟩, hfz5_0, hfz5_1⟩ := f2_ BK812.out)); go_loopg [5] k (fun kq v5 w' => ∃ (x5_1 : Int), v5 = .int .i64 x5_1 ∧ Aside0 (snowlineref04_Numbers.l0 kq l1 x5_1 = some r) ∧ Aside0 (kq ≤ k) ∧ Aside0 (w'.heap[gb812]? = some (.cells #[.int .i64 a0_0, (.slice A0_1 l0_1.length c0_1)] 24 (0, 0))) ∧ Aside0 (Below w.heap.size w w'))
  case atStart => exact ⟨(0), rf_, H', ⟨nR_ _⟩, ⟨bR_ BK812.out⟩, ⟨hB_⟩⟩
  case round =>
   clear H'; (try clear c1); (try clear p2); (try clear c3); (try clear c3b0); (try clear c3b1); (try clear hcz5_0); (try clear hcz5_1); (try clear hfz5_0); (try clear hfz5_1)
   obtain ⟨x5_1, rfl, HA, HK1, BK812, HB⟩ := hrel
   cases gk with
   | zero => exact absurd HA.out (by simp [snowlineref04_Numbers.l0])
   | succ k1 =>
    have H := HA.out; clear HA; simp only [snowlineref04_Numbers.l0] at H; by_cases c6 : x5_1 < (l1.length : Int)
    ·rw [if_pos c6] at H
     have c6b0 : decide (x5_1 < (l1.length : Int)) = true := eT_ c6; clear c6; have HC7 := Z_ H; clear H; go_upto_region 6 with (fail); go_cut [28] (fun v28 wc => ∃ (kq : Nat) (x28_6 : Bool), v28 = .bool x28_6 ∧ Aside0 (snowlineref04_Numbers.j1 kq l1 x5_1 x28_6 = some r) ∧ Aside0 (kq ≤ k1) ∧ Aside0 (wc.heap[gb812]? = some (.cells #[.int .i64 a0_0, (.slice A0_1 l0_1.length c0_1)] 24 (0, 0))) ∧ Aside0 (Below w.heap.size w wc))
     case first =>
      have H := HC7.out; clear HC7; by_cases c8 : 0 ≤ x5_1
      ·rw [if_pos c8] at H
       have c8b0 : decide (0 ≤ x5_1) = true := eT_ c8; clear c8; (first | rw [c8b0] | (simp only [i64_w, i32_w]; rw [c8b0]) | skip)
       by_cases c9 : (rd l1 x5_1) < (-1099511627776)
       ·rw [if_pos c9] at H
        have c9b0 : decide ((rd l1 x5_1) < (-1099511627776)) = true := eT_ c9; clear c9; have H' := Z_ H; clear H; have p813 : 0 ≤ (x5_1 : Int) := dT_ as_; have q813 : x5_1 < (l1.length : Int) := dT_ as_; obtain ⟨ad813, e813, hx813_0⟩ := Kd.at_int HR1.out x5_1 p813 q813; cases e813
        replace hx813_0 := (HB.out.cell (World.block_lt_of_cell? w _ hx813_0)).trans hx813_0; replace p813 := eq_true p813; replace q813 := eq_true q813; go_wp2; go_meet
        case rel => exact ⟨_, (true), rf_, H', ⟨by have := HK1.out; first | omega | exact nR_ _⟩, ⟨bR_ BK812.out⟩, ⟨hB_⟩⟩
       rw [if_neg c9] at H; have c9b0 : decide ((rd l1 x5_1) < (-1099511627776)) = false := eF_ c9; clear c9; have H' := Z_ H; clear H; have p813 : 0 ≤ (x5_1 : Int) := dT_ as_; have q813 : x5_1 < (l1.length : Int) := dT_ as_; obtain ⟨ad813, e813, hx813_0⟩ := Kd.at_int HR1.out x5_1 p813 q813; cases e813
       replace hx813_0 := (HB.out.cell (World.block_lt_of_cell? w _ hx813_0)).trans hx813_0; replace p813 := eq_true p813; replace q813 := eq_true q813; have p814 : 0 ≤ (x5_1 : Int) := dT_ as_; have q814 : x5_1 < (l1.length : Int) := dT_ as_; obtain ⟨ad814, e814, hx814_0⟩ := Kd.at_int HR1.out x5_1 p814 q814; obtain rfl : ad813 = ad814 := (by injection e814); replace hx814_0 := (HB.out.cell (World.block_lt_of_cell? w _ hx814_0)).trans hx814_0; replace p814 := eq_true p814; replace q814 := eq_true q814; go_wp2; go_meet
       case rel => exact ⟨_, (decide ((rd l1 x5_1) > 1099511627776)), rf_, H', ⟨by have := HK1.out; first | omega | exact nR_ _⟩, ⟨bR_ BK812.out⟩, ⟨hB_⟩⟩
      rw [if_neg c8] at H; exact absurd H (by simp)
     case rest =>
      clear HC7; (try clear c1); (try clear p2); (try clear c3); (try clear c3b0); (try clear c3b1); (try clear c6); (try clear c6b0); (try clear c8); (try clear c8b0); (try clear p8); (try clear q8); (try clear hx8); (try clear c9); (try clear c9b0); (try clear hcz5_0); (try clear hcz5_1); (try clear hfz5_0); (try clear hfz5_1); (try clear hx813_0); (try clear hx814_0); (try clear p2); (try clear p813); (try clear p814); (try clear q813); (try clear q814)
      obtain ⟨kq, x28_6, rfl, HA, HJ6, BK812, HB⟩ := hcut
      cases kq with
      | zero => exact absurd HA.out (by simp [snowlineref04_Numbers.j1])
      | succ kj6 =>
       have H := HA.out; clear HA; simp only [snowlineref04_Numbers.j1] at H; by_cases c10 : x28_6 = true
       ·subst c10
        rw [if_pos rfl] at H; obtain rfl := oI_ H; go_wp2; go_ret; exact ⟨eW_, hB_⟩
       replace c10 := bE_.mpr c10; subst c10; have H1 : (snowlineref04_Numbers.l0 kj6 l1 (wrap64 (x5_1 + 1))) = some r := by rw [if_neg (show ¬ (false = true) by decide)] at H; exact H
       clear H; have H := H1; clear H1; have H' := Z_ H; clear H; go_wp2; go_roundg kj6
       case measure => have := HK1.out; have := HJ6.out; omega
       case rel => exact ⟨(wrap64 (x5_1 + 1)), rf_, H', ⟨by have := HK1.out; have := HJ6.out; omega⟩, ⟨bR_ BK812.out⟩, ⟨hB_⟩⟩
    rw [if_neg c6] at H; have c6b0 : decide (x5_1 < (l1.length : Int)) = false := eF_ c6; clear c6; obtain rfl := oI_ H; go_wp2; go_ret; exact ⟨eW_, hB_⟩
 rw [if_neg c3] at H; have c3b0 : ((l1.length : Int) == a0_0) = false := beq_eq_false_iff_ne.mpr c3; have c3b1 : ((l1.length : Int) != a0_0) = true := bne_iff_ne.mpr c3; obtain rfl := oI_ H; go_enter Try.func95, Try.ntmps95; go_wp2_with (first | ((with_reducible refine gate_dst (N := 2) rfl ?_); refine bX_ 2 #[.int .i64 a0_0, .slice A0_1 l0_1.length c0_1] 24 ?_; intro gb812 hg w11 hbox hb; have BK812 := Z_ (hbox); have GW812 := Z_ ((by rw [hg]; exact (fZ_ hB_) : w.heap.size ≤ gb812)); have GE812 := Z_ ((by rw [hg]; exact (fZ_ hB_) : w.heap.size ≤ gb812)); replace HB := Z_ (fS_ hB_ hb); clear hb hbox hg; obtain ⟨⟨hcz12_0, hcz12_1⟩, hfz12_0, hfz12_1⟩ := f2_ BK812.out)); go_ret; exact ⟨eW_, hB_⟩
mutual
def snowlineref04_Fulfils.j0 : Nat → List Int → Bool → Int → List (S39) → Option (Bool)
 | 0, _, _, _, _ => none
 | k + 1, x1, x16, x816000, x816001 => if x16 = true then (some false) else (snowlineref04_Fulfils.l0 k x1 0 x816000 x816001)
def snowlineref04_Fulfils.l0 : Nat → List Int → Int → Int → List (S39) → Option (Bool)
 | 0, _, _, _, _ => none
 | k + 1, x1, x5, x816000, x816001 => if x5 < (x816001.length : Int) then (if 0 ≤ x5 then (if 0 ≤ ((rd_T39 x816001 x5).f1) then (if ((rd_T39 x816001 x5).f1) < (x1.length : Int) then (if 0 ≤ ((rd_T39 x816001 x5).f0) then (if ((rd_T39 x816001 x5).f0) < (x1.length : Int) then (if (wrap64 ((rd x1 ((rd_T39 x816001 x5).f1)) - (rd x1 ((rd_T39 x816001 x5).f0)))) > ((rd_T39 x816001 x5).f2) then (some false) else (snowlineref04_Fulfils.l0 k x1 (wrap64 (x5 + 1)) x816000 x816001)) else (none)) else (none)) else (none)) else (none)) else (none)) else (some true)
end
def snowlineref04_Fulfils.f (k : Nat) (a0_0 : Int) (l0_1 : List (S39)) (l1 : List Int) : Option (Bool) := (snowlineref04_Numbers.f k a0_0 l0_1 l1).bind fun t816 => (if t816 = true then (if 0 < (l1.length : Int) then (snowlineref04_Fulfils.j0 k l1 ((rd l1 0) != 0) a0_0 l0_1) else (none)) else (snowlineref04_Fulfils.j0 k l1 true a0_0 l0_1))
theorem snowlineref04_Fulfils.mono_l : ∀ k, (∀ y0 y1 y2 y3, LeO (snowlineref04_Fulfils.j0 k y0 y1 y2 y3) (snowlineref04_Fulfils.j0 (k + 1) y0 y1 y2 y3)) ∧ (∀ y0 y1 y2 y3, LeO (snowlineref04_Fulfils.l0 k y0 y1 y2 y3) (snowlineref04_Fulfils.l0 (k + 1) y0 y1 y2 y3))
 | 0 => ⟨fun _ _ _ _ r h => by simp [snowlineref04_Fulfils.j0] at h, fun _ _ _ _ r h => by simp [snowlineref04_Fulfils.l0] at h⟩
 | k + 1 => by
  obtain ⟨ih0, ih1⟩ := snowlineref04_Fulfils.mono_l k; refine ⟨?_, ?_⟩ <;> intros <;> (first | unfold snowlineref04_Fulfils.j0 | unfold snowlineref04_Fulfils.l0) <;> repeat' first | (with_reducible first | exact ih0 _ _ _ _ | exact ih1 _ _ _ _ | exact snowlineref04_Numbers.mono _ _ _ _ | exact LeO.refl _ | exact LeO.none _ | refine LeO.ite ?_ ?_ | refine LeO.bind ?_ (fun _ => ?_)) | exact ih0 _ _ _ _ | exact ih1 _ _ _ _ | exact snowlineref04_Numbers.mono _ _ _ _ | exact LeO.none _ | refine LeO.ite ?_ ?_ | refine LeO.bind ?_ (fun _ => ?_)
theorem snowlineref04_Fulfils.mono : ∀ a0 a1 a2 k, LeO (snowlineref04_Fulfils.f k a0 a1 a2) (snowlineref04_Fulfils.f (k + 1) a0 a1 a2) := by
 intro a0 a1 a2 k; obtain ⟨ih0, ih1⟩ := snowlineref04_Fulfils.mono_l k; unfold snowlineref04_Fulfils.f; repeat' first | (with_reducible first | exact ih0 _ _ _ _ | exact ih1 _ _ _ _ | exact snowlineref04_Numbers.mono _ _ _ _ | exact LeO.refl _ | exact LeO.none _ | refine LeO.ite ?_ ?_ | refine LeO.bind ?_ (fun _ => ?_)) | exact ih0 _ _ _ _ | exact ih1 _ _ _ _ | exact snowlineref04_Numbers.mono _ _ _ _ | exact LeO.none _ | refine LeO.ite ?_ ?_ | refine LeO.bind ?_ (fun _ => ?_)
set_option maxHeartbeats 8000000 in
set_option maxRecDepth 100000 in
theorem snowlineref04_Fulfils.calls (k : Nat) (a0_0 : Int) (A0_1 : Option Addr) (c0_1 : Nat) (l0_1 : List (S39)) (A1 : Option Addr) (c1 : Nat) (l1 : List Int) (r : Bool) (w : World) (hr0_1 : Kd.C k39 w A0_1 l0_1.length l0_1) (hc0_1 : l0_1.length ≤ c0_1) (hr1 : Kd.C (Kd.int .i64) w A1 l1.length l1) (hc1 : l1.length ≤ c1) (h : snowlineref04_Fulfils.f k a0_0 l0_1 l1 = some r) :
  Calls Try.prog 42 #[.agg #[.int .i64 a0_0, .slice A0_1 l0_1.length c0_1], .slice A1 l1.length c1] w fun e w' => e = .returned (.bool r) ∧ Below w.heap.size w w' := by
 have hu24 := Try.underlying24; have hu39 := Try.underlying39; have HR0_1 := Z_ hr0_1; have HC0_1 := Z_ hc0_1; clear hr0_1 hc0_1; have HR1 := Z_ hr1; have HC1 := Z_ hc1; clear hr1 hc1; have HB := Z_ (Below.refl w.heap.size w); have H : ((snowlineref04_Numbers.f k a0_0 l0_1 l1).bind fun t816 => (if t816 = true then (if 0 < (l1.length : Int) then (snowlineref04_Fulfils.j0 k l1 ((rd l1 0) != 0) a0_0 l0_1) else (none)) else (snowlineref04_Fulfils.j0 k l1 true a0_0 l0_1))) = some r := h; clear h; have HC3 := Z_ H; clear H; go_enter Try.func42, Try.ntmps42; go_upto_region 1 with (first | ((with_reducible refine gate_dst (N := 2) rfl ?_); refine bX_ 2 #[.int .i64 a0_0, .slice A0_1 l0_1.length c0_1] 24 ?_; intro gb815 hg w4 hbox hb; have BK815 := Z_ (hbox); have GW815 := Z_ ((by rw [hg]; exact (fZ_ hB_) : w.heap.size ≤ gb815)); have GE815 := Z_ ((by rw [hg]; exact (fZ_ hB_) : w.heap.size ≤ gb815)); replace HB := Z_ (fS_ hB_ hb); clear hb hbox hg)); repeat (go_quiet (first | ((with_reducible refine gate_dst (N := 2) rfl ?_); refine bX_ 2 #[.int .i64 a0_0, .slice A0_1 l0_1.length c0_1] 24 ?_; intro gb815 hg w4 hbox hb; have BK815 := Z_ (hbox); have GW815 := Z_ ((by rw [hg]; exact (fZ_ hB_) : w.heap.size ≤ gb815)); have GE815 := Z_ ((by rw [hg]; exact (fZ_ hB_) : w.heap.size ≤ gb815)); replace HB := Z_ (fS_ hB_ hb); clear hb hbox hg)); go_upto_region 1 with (first | ((with_reducible refine gate_dst (N := 2) rfl ?_); refine bX_ 2 #[.int .i64 a0_0, .slice A0_1 l0_1.length c0_1] 24 ?_; intro gb815 hg w4 hbox hb; have BK815 := Z_ (hbox); have GW815 := Z_ ((by rw [hg]; exact (fZ_ hB_) : w.heap.size ≤ gb815)); have GE815 := Z_ ((by rw [hg]; exact (fZ_ hB_) : w.heap.size ≤ gb815)); replace HB := Z_ (fS_ hB_ hb); clear hb hbox hg)))
 (try simp only [Act.put, sT_, sZ_, sS_])
 go_cut [16] (fun v16 wc => ∃ (kq : Nat) (x16_2 : Bool), v16 = .bool x16_2 ∧ Aside0 (snowlineref04_Fulfils.j0 kq l1 x16_2 a0_0 l0_1 = some r) ∧ Aside0 (kq ≤ k) ∧ Aside0 (wc.heap[gb815]? = some (.cells #[.int .i64 a0_0, (.slice A0_1 l0_1.length c0_1)] 24 (0, 0))) ∧ Aside0 (Below w.heap.size w wc))
 case first =>
  have H := HC3.out; clear HC3; replace H := oS_.mp H; obtain ⟨t816, A50, H⟩ := H; have A5 := Z_ A50; clear A50; by_cases c6 : t816 = true
  ·subst c6
   rw [if_pos rfl] at H; by_cases c7 : 0 < (l1.length : Int)
   ·rw [if_pos c7] at H
    have c7b0 : decide (0 < (l1.length : Int)) = true := eT_ c7; have c7b1 : decide (0 < l1.length) = true := eT_ (by omega); clear c7; (first | rw [c7b0] | (simp only [i64_w, i32_w]; rw [c7b0]) | skip)
    have H' := Z_ H; clear H; obtain ⟨⟨hcz8_0, hcz8_1⟩, hfz8_0, hfz8_1⟩ := f2_ BK815.out; go_wp2_with (first | (go_at_call 95; (with_reducible refine (snowlineref04_Numbers.calls k a0_0 _ _ l0_1 _ _ l1 true _ ?side1 ?side2 ?side3 ?side4 A5.out).mono ?_); (case side1 => exact cS_ (cB_ HR0_1.out HB.out)); (case side2 => exact HC0_1.out); (case side3 => exact cS_ (cB_ HR1.out HB.out)); (case side4 => exact HC1.out); rintro e w9 ⟨rfl, hb⟩; replace BK815 := Z_ (bB_ (g := gb815) (o := .cells #[.int .i64 a0_0, .slice A0_1 l0_1.length c0_1] 24 (0, 0)) (bR_ BK815.out) hb); replace HB := Z_ (fS_ hB_ hb); (try clear hb); (try clear hb2); (try clear hk); (try clear hi); have p817 : 0 ≤ (0 : Int) := (by omega); have q817 : 0 < (l1.length : Int) := dT_ as_; obtain ⟨ad817, e817, hx817_0⟩ := Kd.at_int HR1.out 0 p817 q817; cases e817; have qi817 : (0 < l1.length) = True := eq_true (by omega); (try rw [show ((0 : Int)).toNat = 0 from rfl] at hx817_0); (try rw [Addr.add_zero'] at hx817_0); replace hx817_0 := (HB.out.cell (World.block_lt_of_cell? w _ hx817_0)).trans hx817_0; replace p817 := eq_true p817; replace q817 := eq_true q817)); repeat (go_quiet (first | (go_at_call 95; (with_reducible refine (snowlineref04_Numbers.calls k a0_0 _ _ l0_1 _ _ l1 true _ ?side1 ?side2 ?side3 ?side4 A5.out).mono ?_); (case side1 => exact cS_ (cB_ HR0_1.out HB.out)); (case side2 => exact HC0_1.out); (case side3 => exact cS_ (cB_ HR1.out HB.out)); (case side4 => exact HC1.out); rintro e w9 ⟨rfl, hb⟩; replace BK815 := Z_ (bB_ (g := gb815) (o := .cells #[.int .i64 a0_0, .slice A0_1 l0_1.length c0_1] 24 (0, 0)) (bR_ BK815.out) hb); replace HB := Z_ (fS_ hB_ hb); (try clear hb); (try clear hb2); (try clear hk); (try clear hi); have p817 : 0 ≤ (0 : Int) := (by omega); have q817 : 0 < (l1.length : Int) := dT_ as_; obtain ⟨ad817, e817, hx817_0⟩ := Kd.at_int HR1.out 0 p817 q817; cases e817; have qi817 : (0 < l1.length) = True := eq_true (by omega); (try rw [show ((0 : Int)).toNat = 0 from rfl] at hx817_0); (try rw [Addr.add_zero'] at hx817_0); replace hx817_0 := (HB.out.cell (World.block_lt_of_cell? w _ hx817_0)).trans hx817_0; replace p817 := eq_true p817; replace q817 := eq_true q817)); try go_wp2_with (first | (go_at_call 95; (with_reducible refine (snowlineref04_Numbers.calls k a0_0 _ _ l0_1 _ _ l1 true _ ?side1 ?side2 ?side3 ?side4 A5.out).mono ?_); (case side1 => exact cS_ (cB_ HR0_1.out HB.out)); (case side2 => exact HC0_1.out); (case side3 => exact cS_ (cB_ HR1.out HB.out)); (case side4 => exact HC1.out); rintro e w9 ⟨rfl, hb⟩; replace BK815 := Z_ (bB_ (g := gb815) (o := .cells #[.int .i64 a0_0, .slice A0_1 l0_1.length c0_1] 24 (0, 0)) (bR_ BK815.out) hb); replace HB := Z_ (fS_ hB_ hb); (try clear hb); (try clear hb2); (try clear hk); (try clear hi); have p817 : 0 ≤ (0 : Int) := (by omega); have q817 : 0 < (l1.length : Int) := dT_ as_; obtain ⟨ad817, e817, hx817_0⟩ := Kd.at_int HR1.out 0 p817 q817; cases e817; have qi817 : (0 < l1.length) = True := eq_true (by omega); (try rw [show ((0 : Int)).toNat = 0 from rfl] at hx817_0); (try rw [Addr.add_zero'] at hx817_0); replace hx817_0 := (HB.out.cell (World.block_lt_of_cell? w _ hx817_0)).trans hx817_0; replace p817 := eq_true p817; replace q817 := eq_true q817)))
    go_meet
    case rel => exact ⟨_, (((rd l1 0) != 0)), rf_, H', ⟨oL_⟩, ⟨bR_ BK815.out⟩, ⟨hB_⟩⟩
   rw [if_neg c7] at H; exact absurd H (by simp)
  replace c6 := bE_.mpr c6; subst c6; have H1 : (snowlineref04_Fulfils.j0 k l1 true a0_0 l0_1) = some r := by rw [if_neg (show ¬ (false = true) by decide)] at H; exact H
  clear H; have H := H1; clear H1; have H' := Z_ H; clear H; obtain ⟨⟨hcz10_0, hcz10_1⟩, hfz10_0, hfz10_1⟩ := f2_ BK815.out; go_wp2_with (first | (go_at_call 95; (with_reducible refine (snowlineref04_Numbers.calls k a0_0 _ _ l0_1 _ _ l1 false _ ?side1 ?side2 ?side3 ?side4 A5.out).mono ?_); (case side1 => exact cS_ (cB_ HR0_1.out HB.out)); (case side2 => exact HC0_1.out); (case side3 => exact cS_ (cB_ HR1.out HB.out)); (case side4 => exact HC1.out); rintro e w11 ⟨rfl, hb⟩; replace BK815 := Z_ (bB_ (g := gb815) (o := .cells #[.int .i64 a0_0, .slice A0_1 l0_1.length c0_1] 24 (0, 0)) (bR_ BK815.out) hb); replace HB := Z_ (fS_ hB_ hb); (try clear hb); (try clear hb2); (try clear hk); (try clear hi))); repeat (go_quiet (first | (go_at_call 95; (with_reducible refine (snowlineref04_Numbers.calls k a0_0 _ _ l0_1 _ _ l1 false _ ?side1 ?side2 ?side3 ?side4 A5.out).mono ?_); (case side1 => exact cS_ (cB_ HR0_1.out HB.out)); (case side2 => exact HC0_1.out); (case side3 => exact cS_ (cB_ HR1.out HB.out)); (case side4 => exact HC1.out); rintro e w11 ⟨rfl, hb⟩; replace BK815 := Z_ (bB_ (g := gb815) (o := .cells #[.int .i64 a0_0, .slice A0_1 l0_1.length c0_1] 24 (0, 0)) (bR_ BK815.out) hb); replace HB := Z_ (fS_ hB_ hb); (try clear hb); (try clear hb2); (try clear hk); (try clear hi))); try go_wp2_with (first | (go_at_call 95; (with_reducible refine (snowlineref04_Numbers.calls k a0_0 _ _ l0_1 _ _ l1 false _ ?side1 ?side2 ?side3 ?side4 A5.out).mono ?_); (case side1 => exact cS_ (cB_ HR0_1.out HB.out)); (case side2 => exact HC0_1.out); (case side3 => exact cS_ (cB_ HR1.out HB.out)); (case side4 => exact HC1.out); rintro e w11 ⟨rfl, hb⟩; replace BK815 := Z_ (bB_ (g := gb815) (o := .cells #[.int .i64 a0_0, .slice A0_1 l0_1.length c0_1] 24 (0, 0)) (bR_ BK815.out) hb); replace HB := Z_ (fS_ hB_ hb); (try clear hb); (try clear hb2); (try clear hk); (try clear hi))))
  go_meet
  case rel => exact ⟨_, (true), rf_, H', ⟨oL_⟩, ⟨bR_ BK815.out⟩, ⟨hB_⟩⟩
 case rest =>
  clear HC3; (try clear c1); (try clear p2); (try clear c4); (try clear c6); (try clear c7); (try clear c7b0); (try clear c7b1); (try clear p8); (try clear q8); (try clear hx8); (try clear qi8); (try clear hcz10_0); (try clear hcz10_1); (try clear hcz8_0); (try clear hcz8_1); (try clear hfz10_0); (try clear hfz10_1); (try clear hfz8_0); (try clear hfz8_1); (try clear hx817_0); (try clear p817); (try clear q817)
  obtain ⟨kq, x16_2, rfl, HA, HJ2, BK815, HB⟩ := hcut
  cases kq with
  | zero => exact absurd HA.out (by simp [snowlineref04_Fulfils.j0])
  | succ kj2 =>
   have H := HA.out; clear HA; simp only [snowlineref04_Fulfils.j0] at H; by_cases c12 : x16_2 = true
   ·subst c12
    rw [if_pos rfl] at H; obtain rfl := oI_ H; go_wp2; repeat (go_quiet (fail); try go_wp2)
    go_ret; exact ⟨eW_, hB_⟩
   replace c12 := bE_.mpr c12; subst c12; have H1 : (snowlineref04_Fulfils.l0 kj2 l1 0 a0_0 l0_1) = some r := by rw [if_neg (show ¬ (false = true) by decide)] at H; exact H
   clear H; have H := H1; clear H1; have H' := Z_ H; clear H; go_wp2; repeat (go_quiet (fail); try go_wp2)
   go_loopg [5] kj2 (fun kq v5 w' => ∃ (x5_2 : Int), v5 = .int .i64 x5_2 ∧ Aside0 (snowlineref04_Fulfils.l0 kq l1 x5_2 a0_0 l0_1 = some r) ∧ Aside0 (kq ≤ kj2) ∧ Aside0 (w'.heap[gb815]? = some (.cells #[.int .i64 a0_0, (.slice A0_1 l0_1.length c0_1)] 24 (0, 0))) ∧ Aside0 (Below w.heap.size w w'))
   case atStart => exact ⟨(0), rf_, H', ⟨nR_ _⟩, ⟨bR_ BK815.out⟩, ⟨hB_⟩⟩
   case round =>
    clear H'; (try clear c1); (try clear p2); (try clear c4); (try clear c6); (try clear c7); (try clear c7b0); (try clear c7b1); (try clear p8); (try clear q8); (try clear hx8); (try clear qi8); (try clear c12); (try clear hcz10_0); (try clear hcz10_1); (try clear hcz8_0); (try clear hcz8_1); (try clear hfz10_0); (try clear hfz10_1); (try clear hfz8_0); (try clear hfz8_1); (try clear hx817_0); (try clear p2); (try clear p8); (try clear p817); (try clear q8); (try clear q817)
    obtain ⟨x5_2, rfl, HA, HK2, BK815, HB⟩ := hrel
    cases gk with
    | zero => exact absurd HA.out (by simp [snowlineref04_Fulfils.l0])
    | succ k2 =>
     have H := HA.out; clear HA; simp only [snowlineref04_Fulfils.l0] at H; by_cases c13 : x5_2 < (l0_1.length : Int)
     ·rw [if_pos c13] at H
      have c13b0 : decide (x5_2 < (l0_1.length : Int)) = true := eT_ c13; clear c13; by_cases c14 : 0 ≤ x5_2
      ·rw [if_pos c14] at H
       have c14b0 : decide (0 ≤ x5_2) = true := eT_ c14; clear c14; by_cases c15 : 0 ≤ ((rd_T39 l0_1 x5_2).f1)
       ·rw [if_pos c15] at H
        have c15b0 : decide (0 ≤ ((rd_T39 l0_1 x5_2).f1)) = true := eT_ c15; clear c15; by_cases c16 : ((rd_T39 l0_1 x5_2).f1) < (l1.length : Int)
        ·rw [if_pos c16] at H
         have c16b0 : decide (((rd_T39 l0_1 x5_2).f1) < (l1.length : Int)) = true := eT_ c16; clear c16; by_cases c17 : 0 ≤ ((rd_T39 l0_1 x5_2).f0)
         ·rw [if_pos c17] at H
          have c17b0 : decide (0 ≤ ((rd_T39 l0_1 x5_2).f0)) = true := eT_ c17; clear c17; by_cases c18 : ((rd_T39 l0_1 x5_2).f0) < (l1.length : Int)
          ·rw [if_pos c18] at H
           have c18b0 : decide (((rd_T39 l0_1 x5_2).f0) < (l1.length : Int)) = true := eT_ c18; clear c18; have HF19 := Z_ H; clear H; obtain ⟨⟨hcz20_0, hcz20_1⟩, hfz20_0, hfz20_1⟩ := f2_ BK815.out; have p818 : 0 ≤ (x5_2 : Int) := dT_ as_; have q818 : x5_2 < (l0_1.length : Int) := dT_ as_; obtain ⟨ad818, e818, hx818_0, hx818_1, hx818_2⟩ := at_T39 HR0_1.out x5_2 p818 q818; cases e818
           replace hx818_0 := (HB.out.cell (World.block_lt_of_cell? w _ hx818_0)).trans hx818_0; replace hx818_1 := (HB.out.cell (World.block_lt_of_cell? w _ hx818_1)).trans hx818_1; replace hx818_2 := (HB.out.cell (World.block_lt_of_cell? w _ hx818_2)).trans hx818_2; replace p818 := eq_true p818; replace q818 := eq_true q818; go_upto_if 42 with (first | ((with_reducible refine gate_dst (N := 6) rfl ?_); refine bX_ 6 #[.int .i64 0, .int .i64 0, .int .i64 0] 39 ?_; intro gb819 hg w21 hbox hb; have BK819 := Z_ (hbox); have GW819 := Z_ ((by rw [hg]; exact (fZ_ hB_) : w.heap.size ≤ gb819)); have GE819 := Z_ ((by rw [hg]; exact (fZ_ hB_) : w.heap.size ≤ gb819)); replace HB := Z_ (fS_ hB_ hb); have NB815_819 := Z_ ((by rw [hg]; exact Nat.ne_of_lt (blk_lt (g := gb815) (o := .cells #[.int .i64 a0_0, .slice (some ad818) l0_1.length c0_1] 24 (0, 0)) (bR_ BK815.out)) : gb815 ≠ gb819)); have NB819_815 := Z_ ((by rw [hg]; exact Nat.ne_of_gt (blk_lt (g := gb815) (o := .cells #[.int .i64 a0_0, .slice (some ad818) l0_1.length c0_1] 24 (0, 0)) (bR_ BK815.out)) : gb819 ≠ gb815)); replace BK815 := Z_ (bB_ (g := gb815) (o := .cells #[.int .i64 a0_0, .slice (some ad818) l0_1.length c0_1] 24 (0, 0)) (bR_ BK815.out) hb); clear hb hbox hg; have hnb22 := NB819_815.out; have hnc22 := NB815_819.out; obtain ⟨⟨hcz23_0, hcz23_1, hcz23_2⟩, hfz23_0, hfz23_1, hfz23_2⟩ := f3_ BK819.out; have p820 : 0 ≤ (((rd_T39 l0_1 x5_2).f1) : Int) := dT_ as_; have q820 : ((rd_T39 l0_1 x5_2).f1) < (l1.length : Int) := dT_ as_; obtain ⟨ad820, e820, hx820_0⟩ := Kd.at_int HR1.out ((rd_T39 l0_1 x5_2).f1) p820 q820; cases e820; have hn820_0 : ad820.block ≠ gb819 := Nat.ne_of_lt (Nat.lt_of_lt_of_le (by have := World.block_lt_of_cell? _ _ hx820_0; first | rwa [add_block] at this | exact this) GW819.out); have hn820_1 : ad820.block ≠ gb819 := Nat.ne_of_lt (Nat.lt_of_lt_of_le (by have := World.block_lt_of_cell? _ _ hx820_0; first | rwa [add_block] at this | exact this) GW819.out); have hn820_2 : ad820.block ≠ gb819 := Nat.ne_of_lt (Nat.lt_of_lt_of_le (by have := World.block_lt_of_cell? _ _ hx820_0; first | rwa [add_block] at this | exact this) GW819.out); replace hx820_0 := (HB.out.cell (World.block_lt_of_cell? w _ hx820_0)).trans hx820_0; replace hx820_0 := (cell_far (p := ⟨gb819, 0, none⟩) (by first | (rw [add_block]; exact hn820_0) | (show (Addr.add _ _).block ≠ _; rw [add_block]; exact hn820_0) | exact hn820_0) (.int .i64 ((rd_T39 l0_1 x5_2).f0))).trans hx820_0; replace hx820_0 := (cell_far (p := ⟨gb819, 1, none⟩) (by first | (rw [add_block]; exact hn820_1) | (show (Addr.add _ _).block ≠ _; rw [add_block]; exact hn820_1) | exact hn820_1) (.int .i64 ((rd_T39 l0_1 x5_2).f1))).trans hx820_0; replace hx820_0 := (cell_far (p := ⟨gb819, 2, none⟩) (by first | (rw [add_block]; exact hn820_2) | (show (Addr.add _ _).block ≠ _; rw [add_block]; exact hn820_2) | exact hn820_2) (.int .i64 ((rd_T39 l0_1 x5_2).f2))).trans hx820_0; (try have hy820_0 := fun (n_ : Nat) => (show (((((w21.drewN n_).setCell ⟨gb819, 0, none⟩ (.int .i64 ((rd_T39 l0_1 x5_2).f0))).setCell ⟨gb819, 1, none⟩ (.int .i64 ((rd_T39 l0_1 x5_2).f1))).setCell ⟨gb819, 2, none⟩ (.int .i64 ((rd_T39 l0_1 x5_2).f2)))).cell? _ = some _ from hx820_0)); clear hn820_0; clear hn820_1; clear hn820_2; replace p820 := eq_true p820; replace q820 := eq_true q820; have p821 : 0 ≤ (((rd_T39 l0_1 x5_2).f0) : Int) := dT_ as_; have q821 : ((rd_T39 l0_1 x5_2).f0) < (l1.length : Int) := dT_ as_; obtain ⟨ad821, e821, hx821_0⟩ := Kd.at_int HR1.out ((rd_T39 l0_1 x5_2).f0) p821 q821; obtain rfl : ad820 = ad821 := (by injection e821); have hn821_0 : ad820.block ≠ gb819 := Nat.ne_of_lt (Nat.lt_of_lt_of_le (by have := World.block_lt_of_cell? _ _ hx821_0; first | rwa [add_block] at this | exact this) GW819.out); have hn821_1 : ad820.block ≠ gb819 := Nat.ne_of_lt (Nat.lt_of_lt_of_le (by have := World.block_lt_of_cell? _ _ hx821_0; first | rwa [add_block] at this | exact this) GW819.out); have hn821_2 : ad820.block ≠ gb819 := Nat.ne_of_lt (Nat.lt_of_lt_of_le (by have := World.block_lt_of_cell? _ _ hx821_0; first | rwa [add_block] at this | exact this) GW819.out); replace hx821_0 := (HB.out.cell (World.block_lt_of_cell? w _ hx821_0)).trans hx821_0; replace hx821_0 := (cell_far (p := ⟨gb819, 0, none⟩) (by first | (rw [add_block]; exact hn821_0) | (show (Addr.add _ _).block ≠ _; rw [add_block]; exact hn821_0) | exact hn821_0) (.int .i64 ((rd_T39 l0_1 x5_2).f0))).trans hx821_0; replace hx821_0 := (cell_far (p := ⟨gb819, 1, none⟩) (by first | (rw [add_block]; exact hn821_1) | (show (Addr.add _ _).block ≠ _; rw [add_block]; exact hn821_1) | exact hn821_1) (.int .i64 ((rd_T39 l0_1 x5_2).f1))).trans hx821_0; replace hx821_0 := (cell_far (p := ⟨gb819, 2, none⟩) (by first | (rw [add_block]; exact hn821_2) | (show (Addr.add _ _).block ≠ _; rw [add_block]; exact hn821_2) | exact hn821_2) (.int .i64 ((rd_T39 l0_1 x5_2).f2))).trans hx821_0; (try have hy821_0 := fun (n_ : Nat) => (show (((((w21.drewN n_).setCell ⟨gb819, 0, none⟩ (.int .i64 ((rd_T39 l0_1 x5_2).f0))).setCell ⟨gb819, 1, none⟩ (.int .i64 ((rd_T39 l0_1 x5_2).f1))).setCell ⟨gb819, 2, none⟩ (.int .i64 ((rd_T39 l0_1 x5_2).f2)))).cell? _ = some _ from hx821_0)); clear hn821_0; clear hn821_1; clear hn821_2; replace p821 := eq_true p821; replace q821 := eq_true q821)); repeat (go_quiet (first | ((with_reducible refine gate_dst (N := 6) rfl ?_); refine bX_ 6 #[.int .i64 0, .int .i64 0, .int .i64 0] 39 ?_; intro gb819 hg w21 hbox hb; have BK819 := Z_ (hbox); have GW819 := Z_ ((by rw [hg]; exact (fZ_ hB_) : w.heap.size ≤ gb819)); have GE819 := Z_ ((by rw [hg]; exact (fZ_ hB_) : w.heap.size ≤ gb819)); replace HB := Z_ (fS_ hB_ hb); have NB815_819 := Z_ ((by rw [hg]; exact Nat.ne_of_lt (blk_lt (g := gb815) (o := .cells #[.int .i64 a0_0, .slice (some ad818) l0_1.length c0_1] 24 (0, 0)) (bR_ BK815.out)) : gb815 ≠ gb819)); have NB819_815 := Z_ ((by rw [hg]; exact Nat.ne_of_gt (blk_lt (g := gb815) (o := .cells #[.int .i64 a0_0, .slice (some ad818) l0_1.length c0_1] 24 (0, 0)) (bR_ BK815.out)) : gb819 ≠ gb815)); replace BK815 := Z_ (bB_ (g := gb815) (o := .cells #[.int .i64 a0_0, .slice (some ad818) l0_1.length c0_1] 24 (0, 0)) (bR_ BK815.out) hb); clear hb hbox hg; have hnb22 := NB819_815.out; have hnc22 := NB815_819.out; obtain ⟨⟨hcz23_0, hcz23_1, hcz23_2⟩, hfz23_0, hfz23_1, hfz23_2⟩ := f3_ BK819.out; have p820 : 0 ≤ (((rd_T39 l0_1 x5_2).f1) : Int) := dT_ as_; have q820 : ((rd_T39 l0_1 x5_2).f1) < (l1.length : Int) := dT_ as_; obtain ⟨ad820, e820, hx820_0⟩ := Kd.at_int HR1.out ((rd_T39 l0_1 x5_2).f1) p820 q820; cases e820; have hn820_0 : ad820.block ≠ gb819 := Nat.ne_of_lt (Nat.lt_of_lt_of_le (by have := World.block_lt_of_cell? _ _ hx820_0; first | rwa [add_block] at this | exact this) GW819.out); have hn820_1 : ad820.block ≠ gb819 := Nat.ne_of_lt (Nat.lt_of_lt_of_le (by have := World.block_lt_of_cell? _ _ hx820_0; first | rwa [add_block] at this | exact this) GW819.out); have hn820_2 : ad820.block ≠ gb819 := Nat.ne_of_lt (Nat.lt_of_lt_of_le (by have := World.block_lt_of_cell? _ _ hx820_0; first | rwa [add_block] at this | exact this) GW819.out); replace hx820_0 := (HB.out.cell (World.block_lt_of_cell? w _ hx820_0)).trans hx820_0; replace hx820_0 := (cell_far (p := ⟨gb819, 0, none⟩) (by first | (rw [add_block]; exact hn820_0) | (show (Addr.add _ _).block ≠ _; rw [add_block]; exact hn820_0) | exact hn820_0) (.int .i64 ((rd_T39 l0_1 x5_2).f0))).trans hx820_0; replace hx820_0 := (cell_far (p := ⟨gb819, 1, none⟩) (by first | (rw [add_block]; exact hn820_1) | (show (Addr.add _ _).block ≠ _; rw [add_block]; exact hn820_1) | exact hn820_1) (.int .i64 ((rd_T39 l0_1 x5_2).f1))).trans hx820_0; replace hx820_0 := (cell_far (p := ⟨gb819, 2, none⟩) (by first | (rw [add_block]; exact hn820_2) | (show (Addr.add _ _).block ≠ _; rw [add_block]; exact hn820_2) | exact hn820_2) (.int .i64 ((rd_T39 l0_1 x5_2).f2))).trans hx820_0; (try have hy820_0 := fun (n_ : Nat) => (show (((((w21.drewN n_).setCell ⟨gb819, 0, none⟩ (.int .i64 ((rd_T39 l0_1 x5_2).f0))).setCell ⟨gb819, 1, none⟩ (.int .i64 ((rd_T39 l0_1 x5_2).f1))).setCell ⟨gb819, 2, none⟩ (.int .i64 ((rd_T39 l0_1 x5_2).f2)))).cell? _ = some _ from hx820_0)); clear hn820_0; clear hn820_1; clear hn820_2; replace p820 := eq_true p820; replace q820 := eq_true q820; have p821 : 0 ≤ (((rd_T39 l0_1 x5_2).f0) : Int) := dT_ as_; have q821 : ((rd_T39 l0_1 x5_2).f0) < (l1.length : Int) := dT_ as_; obtain ⟨ad821, e821, hx821_0⟩ := Kd.at_int HR1.out ((rd_T39 l0_1 x5_2).f0) p821 q821; obtain rfl : ad820 = ad821 := (by injection e821); have hn821_0 : ad820.block ≠ gb819 := Nat.ne_of_lt (Nat.lt_of_lt_of_le (by have := World.block_lt_of_cell? _ _ hx821_0; first | rwa [add_block] at this | exact this) GW819.out); have hn821_1 : ad820.block ≠ gb819 := Nat.ne_of_lt (Nat.lt_of_lt_of_le (by have := World.block_lt_of_cell? _ _ hx821_0; first | rwa [add_block] at this | exact this) GW819.out); have hn821_2 : ad820.block ≠ gb819 := Nat.ne_of_lt (Nat.lt_of_lt_of_le (by have := World.block_lt_of_cell? _ _ hx821_0; first | rwa [add_block] at this | exact this) GW819.out); replace hx821_0 := (HB.out.cell (World.block_lt_of_cell? w _ hx821_0)).trans hx821_0; replace hx821_0 := (cell_far (p := ⟨gb819, 0, none⟩) (by first | (rw [add_block]; exact hn821_0) | (show (Addr.add _ _).block ≠ _; rw [add_block]; exact hn821_0) | exact hn821_0) (.int .i64 ((rd_T39 l0_1 x5_2).f0))).trans hx821_0; replace hx821_0 := (cell_far (p := ⟨gb819, 1, none⟩) (by first | (rw [add_block]; exact hn821_1) | (show (Addr.add _ _).block ≠ _; rw [add_block]; exact hn821_1) | exact hn821_1) (.int .i64 ((rd_T39 l0_1 x5_2).f1))).trans hx821_0; replace hx821_0 := (cell_far (p := ⟨gb819, 2, none⟩) (by first | (rw [add_block]; exact hn821_2) | (show (Addr.add _ _).block ≠ _; rw [add_block]; exact hn821_2) | exact hn821_2) (.int .i64 ((rd_T39 l0_1 x5_2).f2))).trans hx821_0; (try have hy821_0 := fun (n_ : Nat) => (show (((((w21.drewN n_).setCell ⟨gb819, 0, none⟩ (.int .i64 ((rd_T39 l0_1 x5_2).f0))).setCell ⟨gb819, 1, none⟩ (.int .i64 ((rd_T39 l0_1 x5_2).f1))).setCell ⟨gb819, 2, none⟩ (.int .i64 ((rd_T39 l0_1 x5_2).f2)))).cell? _ = some _ from hx821_0)); clear hn821_0; clear hn821_1; clear hn821_2; replace p821 := eq_true p821; replace q821 := eq_true q821)); go_upto_if 42 with (first | ((with_reducible refine gate_dst (N := 6) rfl ?_); refine bX_ 6 #[.int .i64 0, .int .i64 0, .int .i64 0] 39 ?_; intro gb819 hg w21 hbox hb; have BK819 := Z_ (hbox); have GW819 := Z_ ((by rw [hg]; exact (fZ_ hB_) : w.heap.size ≤ gb819)); have GE819 := Z_ ((by rw [hg]; exact (fZ_ hB_) : w.heap.size ≤ gb819)); replace HB := Z_ (fS_ hB_ hb); have NB815_819 := Z_ ((by rw [hg]; exact Nat.ne_of_lt (blk_lt (g := gb815) (o := .cells #[.int .i64 a0_0, .slice (some ad818) l0_1.length c0_1] 24 (0, 0)) (bR_ BK815.out)) : gb815 ≠ gb819)); have NB819_815 := Z_ ((by rw [hg]; exact Nat.ne_of_gt (blk_lt (g := gb815) (o := .cells #[.int .i64 a0_0, .slice (some ad818) l0_1.length c0_1] 24 (0, 0)) (bR_ BK815.out)) : gb819 ≠ gb815)); replace BK815 := Z_ (bB_ (g := gb815) (o := .cells #[.int .i64 a0_0, .slice (some ad818) l0_1.length c0_1] 24 (0, 0)) (bR_ BK815.out) hb); clear hb hbox hg; have hnb22 := NB819_815.out; have hnc22 := NB815_819.out; obtain ⟨⟨hcz23_0, hcz23_1, hcz23_2⟩, hfz23_0, hfz23_1, hfz23_2⟩ := f3_ BK819.out; have p820 : 0 ≤ (((rd_T39 l0_1 x5_2).f1) : Int) := dT_ as_; have q820 : ((rd_T39 l0_1 x5_2).f1) < (l1.length : Int) := dT_ as_; obtain ⟨ad820, e820, hx820_0⟩ := Kd.at_int HR1.out ((rd_T39 l0_1 x5_2).f1) p820 q820; cases e820; have hn820_0 : ad820.block ≠ gb819 := Nat.ne_of_lt (Nat.lt_of_lt_of_le (by have := World.block_lt_of_cell? _ _ hx820_0; first | rwa [add_block] at this | exact this) GW819.out); have hn820_1 : ad820.block ≠ gb819 := Nat.ne_of_lt (Nat.lt_of_lt_of_le (by have := World.block_lt_of_cell? _ _ hx820_0; first | rwa [add_block] at this | exact this) GW819.out); have hn820_2 : ad820.block ≠ gb819 := Nat.ne_of_lt (Nat.lt_of_lt_of_le (by have := World.block_lt_of_cell? _ _ hx820_0; first | rwa [add_block] at this | exact this) GW819.out); replace hx820_0 := (HB.out.cell (World.block_lt_of_cell? w _ hx820_0)).trans hx820_0; replace hx820_0 := (cell_far (p := ⟨gb819, 0, none⟩) (by first | (rw [add_block]; exact hn820_0) | (show (Addr.add _ _).block ≠ _; rw [add_block]; exact hn820_0) | exact hn820_0) (.int .i64 ((rd_T39 l0_1 x5_2).f0))).trans hx820_0; replace hx820_0 := (cell_far (p := ⟨gb819, 1, none⟩) (by first | (rw [add_block]; exact hn820_1) | (show (Addr.add _ _).block ≠ _; rw [add_block]; exact hn820_1) | exact hn820_1) (.int .i64 ((rd_T39 l0_1 x5_2).f1))).trans hx820_0; replace hx820_0 := (cell_far (p := ⟨gb819, 2, none⟩) (by first | (rw [add_block]; exact hn820_2) | (show (Addr.add _ _).block ≠ _; rw [add_block]; exact hn820_2) | exact hn820_2) (.int .i64 ((rd_T39 l0_1 x5_2).f2))).trans hx820_0; (try have hy820_0 := fun (n_ : Nat) => (show (((((w21.drewN n_).setCell ⟨gb819, 0, none⟩ (.int .i64 ((rd_T39 l0_1 x5_2).f0))).setCell ⟨gb819, 1, none⟩ (.int .i64 ((rd_T39 l0_1 x5_2).f1))).setCell ⟨gb819, 2, none⟩ (.int .i64 ((rd_T39 l0_1 x5_2).f2)))).cell? _ = some _ from hx820_0)); clear hn820_0; clear hn820_1; clear hn820_2; replace p820 := eq_true p820; replace q820 := eq_true q820; have p821 : 0 ≤ (((rd_T39 l0_1 x5_2).f0) : Int) := dT_ as_; have q821 : ((rd_T39 l0_1 x5_2).f0) < (l1.length : Int) := dT_ as_; obtain ⟨ad821, e821, hx821_0⟩ := Kd.at_int HR1.out ((rd_T39 l0_1 x5_2).f0) p821 q821; obtain rfl : ad820 = ad821 := (by injection e821); have hn821_0 : ad820.block ≠ gb819 := Nat.ne_of_lt (Nat.lt_of_lt_of_le (by have := World.block_lt_of_cell? _ _ hx821_0; first | rwa [add_block] at this | exact this) GW819.out); have hn821_1 : ad820.block ≠ gb819 := Nat.ne_of_lt (Nat.lt_of_lt_of_le (by have := World.block_lt_of_cell? _ _ hx821_0; first | rwa [add_block] at this | exact this) GW819.out); have hn821_2 : ad820.block ≠ gb819 := Nat.ne_of_lt (Nat.lt_of_lt_of_le (by have := World.block_lt_of_cell? _ _ hx821_0; first | rwa [add_block] at this | exact this) GW819.out); replace hx821_0 := (HB.out.cell (World.block_lt_of_cell? w _ hx821_0)).trans hx821_0; replace hx821_0 := (cell_far (p := ⟨gb819, 0, none⟩) (by first | (rw [add_block]; exact hn821_0) | (show (Addr.add _ _).block ≠ _; rw [add_block]; exact hn821_0) | exact hn821_0) (.int .i64 ((rd_T39 l0_1 x5_2).f0))).trans hx821_0; replace hx821_0 := (cell_far (p := ⟨gb819, 1, none⟩) (by first | (rw [add_block]; exact hn821_1) | (show (Addr.add _ _).block ≠ _; rw [add_block]; exact hn821_1) | exact hn821_1) (.int .i64 ((rd_T39 l0_1 x5_2).f1))).trans hx821_0; replace hx821_0 := (cell_far (p := ⟨gb819, 2, none⟩) (by first | (rw [add_block]; exact hn821_2) | (show (Addr.add _ _).block ≠ _; rw [add_block]; exact hn821_2) | exact hn821_2) (.int .i64 ((rd_T39 l0_1 x5_2).f2))).trans hx821_0; (try have hy821_0 := fun (n_ : Nat) => (show (((((w21.drewN n_).setCell ⟨gb819, 0, none⟩ (.int .i64 ((rd_T39 l0_1 x5_2).f0))).setCell ⟨gb819, 1, none⟩ (.int .i64 ((rd_T39 l0_1 x5_2).f1))).setCell ⟨gb819, 2, none⟩ (.int .i64 ((rd_T39 l0_1 x5_2).f2)))).cell? _ = some _ from hx821_0)); clear hn821_0; clear hn821_1; clear hn821_2; replace p821 := eq_true p821; replace q821 := eq_true q821)))
           (try simp only [Act.put, sT_, sZ_, sS_])
           have H := HF19.out; clear HF19; by_cases c24 : (wrap64 ((rd l1 ((rd_T39 l0_1 x5_2).f1)) - (rd l1 ((rd_T39 l0_1 x5_2).f0)))) > ((rd_T39 l0_1 x5_2).f2)
           ·rw [if_pos c24] at H
            have c24b0 : decide (((rd_T39 l0_1 x5_2).f2) < (wrap64 ((rd l1 ((rd_T39 l0_1 x5_2).f1)) - (rd l1 ((rd_T39 l0_1 x5_2).f0))))) = true := eT_ c24; clear c24; (first | rw [c24b0] | (simp only [i64_w, i32_w]; rw [c24b0]) | skip)
            obtain rfl := oI_ H; go_wp2; repeat (go_quiet (fail); try go_wp2)
            go_ret; exact ⟨eW_, hB_⟩
           rw [if_neg c24] at H; have c24b0 : decide (((rd_T39 l0_1 x5_2).f2) < (wrap64 ((rd l1 ((rd_T39 l0_1 x5_2).f1)) - (rd l1 ((rd_T39 l0_1 x5_2).f0))))) = false := eF_ c24; clear c24; (first | rw [c24b0] | (simp only [i64_w, i32_w]; rw [c24b0]) | skip)
           have H' := Z_ H; clear H; go_wp2; repeat (go_quiet (fail); try go_wp2)
           go_roundg k2
           case measure => have := HJ2.out; have := HK2.out; omega
           case rel => exact ⟨(wrap64 (x5_2 + 1)), rf_, H', ⟨by have := HJ2.out; have := HK2.out; omega⟩, ⟨by (with_reducible repeat (first | refine bN_ ?_ _ | refine bD_ ?_)); refine blk_far ?_ NB815_819.out _; (with_reducible repeat (first | refine bN_ ?_ _ | refine bD_ ?_)); refine blk_far ?_ NB815_819.out _; (with_reducible repeat (first | refine bN_ ?_ _ | refine bD_ ?_)); refine blk_far ?_ NB815_819.out _; (with_reducible repeat (first | refine bN_ ?_ _ | refine bD_ ?_)); exact BK815.out⟩, ⟨hB_⟩⟩
          rw [if_neg c18] at H; exact absurd H (by simp)
         rw [if_neg c17] at H; exact absurd H (by simp)
        rw [if_neg c16] at H; exact absurd H (by simp)
       rw [if_neg c15] at H; exact absurd H (by simp)
      rw [if_neg c14] at H; exact absurd H (by simp)
     rw [if_neg c13] at H; have c13b0 : decide (x5_2 < (l0_1.length : Int)) = false := eF_ c13; clear c13; obtain rfl := oI_ H; obtain ⟨⟨hcz25_0, hcz25_1⟩, hfz25_0, hfz25_1⟩ := f2_ BK815.out; go_wp2; repeat (go_quiet (fail); try go_wp2)
     go_ret; exact ⟨eW_, hB_⟩
end Go.Proofs.Ytpolojoeabmhdaa.A
/- The reference: Numbers, Fulfils. -/
namespace Go.Proofs.Ytpolojoeabmhdaa.A
open Go.RowKit Go.Proofs.YtpolojoeabmhdaaW.PrintWords Go.Proofs.YtpolojoeabmhdaaW.PrintLast Go.Proofs.YtpolojoeabmhdaaW.PrintMore
theorem rnumbers_l0 (x : List Int) (hl : x.length ≤ 65536) : ∀ (q : Nat) (i : Int), (q : Int) + i = x.length → 0 ≤ i → (∀ v, 0 ≤ v → v < i → -1099511627776 ≤ rd x v ∧ rd x v ≤ 1099511627776) →
    ∃ b, Ev (fun k => snowlineref04_Numbers.l0 k x i) b ∧ (b = true ↔ ∀ v, 0 ≤ v → v < (x.length : Int) → -1099511627776 ≤ rd x v ∧ rd x v ≤ 1099511627776) := by
  intro q
  induction q with
  | zero =>
    intro i hq h0 hb
    exact ⟨true, Ev.step (f := fun _ => some true) (fun k => by rw [snowlineref04_Numbers.l0, if_neg (by omega)]) (Ev.now _), fun _ v v0 v1 => hb v v0 (by omega), fun _ => rfl⟩
  | succ q ih =>
    intro i hq h0 hb
    have hlt : i < (x.length : Int) := by omega
    have hT : Ev (fun k => snowlineref04_Numbers.j1 k x i true) false := Ev.step (f := fun _ => some false) (fun k => by rw [snowlineref04_Numbers.j1]; rfl) (Ev.now _)
    by_cases c1 : rd x i < -1099511627776
    · exact ⟨false, Ev.step (f := fun k => snowlineref04_Numbers.j1 k x i true) (fun k => by rw [snowlineref04_Numbers.l0, if_pos hlt, if_pos h0, if_pos c1]) hT, fun h => (by cases h), fun h => by have := h i h0 hlt; omega⟩
    have hin : ∀ {b}, Ev (fun k => snowlineref04_Numbers.j1 k x i (decide (rd x i > 1099511627776))) b → Ev (fun k => snowlineref04_Numbers.l0 k x i) b := fun h =>
      Ev.step (fun k => by rw [snowlineref04_Numbers.l0, if_pos hlt, if_pos h0, if_neg c1]) h
    by_cases c2 : rd x i > 1099511627776
    · rw [decide_eq_true c2] at hin
      exact ⟨false, hin hT, fun h => (by cases h), fun h => by have := h i h0 hlt; omega⟩
    rw [decide_eq_false c2] at hin
    obtain ⟨b, g1, g2⟩ := ih (i + 1) (by omega) (by omega) (fun v v0 v1 => by
      by_cases e : v = i
      · rw [e]; omega
      · exact hb v v0 (by omega))
    exact ⟨b, hin (Ev.step (f := fun k => snowlineref04_Numbers.l0 k x (i + 1)) (fun k => by rw [snowlineref04_Numbers.j1, if_neg (by decide), wrap_id (x := i + 1) (by omega) (by omega)]) g1), g2⟩
theorem rnumbers_ev (n : Int) (hn : n ≤ 256) (N : List S39) (x : List Int) : ∃ b, Ev (fun k => snowlineref04_Numbers.f k n N x) b ∧ (b = true ↔ NumOk n x) := by
  unfold snowlineref04_Numbers.f
  by_cases c : (x.length : Int) = n
  · obtain ⟨b, g1, g2⟩ := rnumbers_l0 x (by omega) x.length 0 (by omega) (by omega) (fun v a b => by omega)
    exact ⟨b, Ev.pos c g1, fun h => ⟨c, fun v v0 v1 => (g2.1 h) v v0 (by omega)⟩, fun h => g2.2 (fun v v0 v1 => h.b v v0 (by omega))⟩
  · exact ⟨false, Ev.neg c (Ev.now _), fun h => (by cases h), fun h => absurd h.l c⟩
section
variable {n : Nat} {L : List S39}
theorem rful_l0 (hV : Valid n L) {x : List Int} (hx : NumOk n x) (hz : rd x 0 = 0) : ∀ (q : Nat) (i : Int), (q : Int) + i = L.length → 0 ≤ i → (∀ k, 0 ≤ k → k < i → EC n x (rd_T39 L k)) →
    ∃ b, Ev (fun k => snowlineref04_Fulfils.l0 k x i n L) b ∧ (b = true ↔ Ful n L x) := by
  have hn1 := hV.n1
  have hD := hV.l
  have hl := hx.l
  intro q
  induction q with
  | zero =>
    intro i hq h0 hb
    exact ⟨true, Ev.step (f := fun _ => some true) (fun k => by rw [snowlineref04_Fulfils.l0, if_neg (by omega)]) (Ev.now _), fun _ => ⟨hl, by omega, hz, hx.b, fun k k0 k1 => hb k k0 (by omega)⟩, fun _ => rfl⟩
  | succ q ih =>
    intro i hq h0 hb
    have hlt : i < (L.length : Int) := by omega
    have he := hV.e i h0 hlt
    have e1 := he.a
    have e2 := he.b
    have e3 := he.c
    have e4 := he.g
    have b0 := hx.b _ e1 e2
    have b1 := hx.b _ e3 e4
    by_cases c : rd x (rd_T39 L i).f1 - rd x (rd_T39 L i).f0 > (rd_T39 L i).f2
    · refine ⟨false, Ev.step (f := fun _ => some false) (fun k => ?_) (Ev.now _), fun h => (by cases h), fun h => by have := (h.e i h0 hlt).2.2.2.2; omega⟩
      rw [snowlineref04_Fulfils.l0, if_pos hlt, if_pos h0, if_pos e3, if_pos (by omega), if_pos e1, if_pos (by omega), wrap_id (by omega) (by omega), if_pos c]
    · obtain ⟨b, g1, g2⟩ := ih (i + 1) (by omega) (by omega) (fun k k0 k1 => by
        by_cases e : k = i
        · rw [e]; exact ⟨e1, e2, e3, e4, by omega⟩
        · exact hb k k0 (by omega))
      refine ⟨b, Ev.step (fun k => ?_) g1, g2⟩
      rw [snowlineref04_Fulfils.l0, if_pos hlt, if_pos h0, if_pos e3, if_pos (by omega), if_pos e1, if_pos (by omega), wrap_id (x := _ - _) (by omega) (by omega), if_neg c, wrap_id (x := i + 1) (by omega) (by omega)]
theorem rful_ev (hV : Valid n L) (x : List Int) : ∃ b, Ev (fun k => snowlineref04_Fulfils.f k n L x) b ∧ (b = true ↔ Ful n L x) := by
  have hn1 := hV.n1
  have hn2 := hV.n2
  have hT : Ev (fun k => snowlineref04_Fulfils.j0 k x true n L) false := Ev.step (f := fun _ => some false) (fun k => by rw [snowlineref04_Fulfils.j0]; rfl) (Ev.now _)
  obtain ⟨p, p1, p2⟩ := rnumbers_ev n (by omega) L x
  unfold snowlineref04_Fulfils.f
  cases p with
  | false => exact ⟨false, p1.bind (Ev.neg (by decide) hT), fun h => (by cases h), fun h => absurd (p2.2 h.num) (by decide)⟩
  | true =>
    have hx := p2.1 rfl
    have hl := hx.l
    by_cases c : rd x 0 = 0
    · obtain ⟨b, g1, g2⟩ := rful_l0 hV hx c L.length 0 (by omega) (by omega) (fun k a b => by omega)
      refine ⟨b, p1.bind (Ev.pos rfl (Ev.pos (by omega) ?_)), g2⟩
      rw [show (rd x 0 != 0) = false from bne_eq_false_iff_eq.mpr c]
      exact Ev.step (fun k => by rw [snowlineref04_Fulfils.j0, if_neg (by decide)]) g1
    · refine ⟨false, p1.bind (Ev.pos rfl (Ev.pos (by omega) ?_)), fun h => (by cases h), fun h => absurd h.z c⟩
      rw [show (rd x 0 != 0) = true from bne_iff_ne.mpr c]
      exact hT
end
end Go.Proofs.Ytpolojoeabmhdaa.A
namespace Go.Proofs.Ytpolojoeabmhdaa.A
open Go.RowKit Go.Proofs.YtpolojoeabmhdaaW.PrintWords Go.Proofs.YtpolojoeabmhdaaW.PrintLast Go.Proofs.YtpolojoeabmhdaaW.PrintMore
attribute [local go_sem] max2_int min2_int max_two min_two max_three min_three max_four min_four
def snowlineref04_node.f (a0 : Int) (a1 : Int) : Option (Bool) := if a0 ≥ 0 then (some (decide (a0 < a1))) else (some false)
set_option maxHeartbeats 8000000 in
set_option maxRecDepth 100000 in
theorem snowlineref04_node.calls (a0 : Int) (a1 : Int) (r : Bool) (w : World) (h : snowlineref04_node.f a0 a1 = some r) :
  Calls Try.prog 96 #[.int .i64 a0, .int .i64 a1] w fun e w' => e = .returned (.bool r) ∧ Drawn0 w w' := by
 have H : (if a0 ≥ 0 then (some (decide (a0 < a1))) else (some false)) = some r := h; clear h; by_cases c3 : a0 ≥ 0
 ·rw [if_pos c3] at H
  have c3b0 : decide (0 ≤ a0) = true := eT_ c3; clear c3; obtain rfl := oI_ H; go_enter Try.func96, Try.ntmps96; go_wp2; go_ret; exact ⟨rf_, by repeat (first | exact Drawn0.refl _ | apply Drawn0.step)⟩
 rw [if_neg c3] at H; have c3b0 : decide (0 ≤ a0) = false := eF_ c3; clear c3; obtain rfl := oI_ H; go_enter Try.func96, Try.ntmps96; go_wp2; go_ret; exact ⟨rf_, by repeat (first | exact Drawn0.refl _ | apply Drawn0.step)⟩
def snowlineref04_Valid.f (a0_0 : Int) (a0_1 : Int) (a0_2 : Int) (a1 : Int) : Option (Bool) := (snowlineref04_node.f a0_0 a1).bind fun t333 => (if t333 = true then ((snowlineref04_node.f a0_1 a1).bind fun t334 => (if t334 = true then (if a0_2 ≥ (-1073741824) then (some (decide (a0_2 ≤ 1073741824))) else (some false)) else (some false))) else (some false))
set_option maxHeartbeats 8000000 in
set_option maxRecDepth 100000 in
theorem snowlineref04_Valid.calls (a0_0 : Int) (a0_1 : Int) (a0_2 : Int) (a1 : Int) (r : Bool) (w : World) (h : snowlineref04_Valid.f a0_0 a0_1 a0_2 a1 = some r) :
  Calls Try.prog 69 #[.agg #[.int .i64 a0_0, .int .i64 a0_1, .int .i64 a0_2], .int .i64 a1] w fun e w' => e = .returned (.bool r) ∧ Below w.heap.size w w' := by
 have hu39 := Try.underlying39; have HB := Z_ (Below.refl w.heap.size w); have H : ((snowlineref04_node.f a0_0 a1).bind fun t333 => (if t333 = true then ((snowlineref04_node.f a0_1 a1).bind fun t334 => (if t334 = true then (if a0_2 ≥ (-1073741824) then (some (decide (a0_2 ≤ 1073741824))) else (some false)) else (some false))) else (some false))) = some r := h; clear h; replace H := oS_.mp H; obtain ⟨t333, A30, H⟩ := H; have A3 := Z_ A30; clear A30; by_cases c4 : t333 = true
 ·subst c4
  rw [if_pos rfl] at H; replace H := oS_.mp H; obtain ⟨t334, A50, H⟩ := H; have A5 := Z_ A50; clear A50; by_cases c6 : t334 = true
  ·subst c6
   rw [if_pos rfl] at H; by_cases c7 : a0_2 ≥ (-1073741824)
   ·rw [if_pos c7] at H
    have c7b0 : decide ((-1073741824) ≤ a0_2) = true := eT_ c7; clear c7; obtain rfl := oI_ H; go_enter Try.func69, Try.ntmps69; go_wp2_with (first | ((with_reducible refine gate_dst (N := 2) rfl ?_); refine bX_ 2 #[.int .i64 a0_0, .int .i64 a0_1, .int .i64 a0_2] 39 ?_; intro gb332 hg w8 hbox hb; have BK332 := Z_ (hbox); have GW332 := Z_ ((by rw [hg]; exact (fZ_ hB_) : w.heap.size ≤ gb332)); have GE332 := Z_ ((by rw [hg]; exact (fZ_ hB_) : w.heap.size ≤ gb332)); replace HB := Z_ (fS_ hB_ hb); clear hb hbox hg; obtain ⟨⟨hcz9_0, hcz9_1, hcz9_2⟩, hfz9_0, hfz9_1, hfz9_2⟩ := f3_ BK332.out) | ((with_reducible refine gate_callee (f := 96) rfl ?_); refine gL_ (some 8) Try.func96 #[.int .i64 a0_0, .int .i64 a1] ?_; (with_reducible refine (snowlineref04_node.calls a0_0 a1 true _ A3.out).mono ?_); rintro e w' ⟨rfl, ⟨nd, rfl⟩⟩; refine ⟨_, rfl, ?_⟩) | (go_at_call 96; (with_reducible refine (snowlineref04_node.calls a0_1 a1 true _ A5.out).mono ?_); rintro e w' ⟨rfl, ⟨nd, rfl⟩⟩)); go_ret; exact ⟨eW_, hB_⟩
   rw [if_neg c7] at H; have c7b0 : decide ((-1073741824) ≤ a0_2) = false := eF_ c7; clear c7; obtain rfl := oI_ H; go_enter Try.func69, Try.ntmps69; go_wp2_with (first | ((with_reducible refine gate_dst (N := 2) rfl ?_); refine bX_ 2 #[.int .i64 a0_0, .int .i64 a0_1, .int .i64 a0_2] 39 ?_; intro gb332 hg w10 hbox hb; have BK332 := Z_ (hbox); have GW332 := Z_ ((by rw [hg]; exact (fZ_ hB_) : w.heap.size ≤ gb332)); have GE332 := Z_ ((by rw [hg]; exact (fZ_ hB_) : w.heap.size ≤ gb332)); replace HB := Z_ (fS_ hB_ hb); clear hb hbox hg; obtain ⟨⟨hcz11_0, hcz11_1, hcz11_2⟩, hfz11_0, hfz11_1, hfz11_2⟩ := f3_ BK332.out) | ((with_reducible refine gate_callee (f := 96) rfl ?_); refine gL_ (some 8) Try.func96 #[.int .i64 a0_0, .int .i64 a1] ?_; (with_reducible refine (snowlineref04_node.calls a0_0 a1 true _ A3.out).mono ?_); rintro e w' ⟨rfl, ⟨nd, rfl⟩⟩; refine ⟨_, rfl, ?_⟩) | (go_at_call 96; (with_reducible refine (snowlineref04_node.calls a0_1 a1 true _ A5.out).mono ?_); rintro e w' ⟨rfl, ⟨nd, rfl⟩⟩)); go_ret; exact ⟨eW_, hB_⟩
  replace c6 := bE_.mpr c6; subst c6; have H1 : (some false) = some r := by rw [if_neg (show ¬ (false = true) by decide)] at H; exact H
  clear H; have H := H1; clear H1; obtain rfl := oI_ H; go_enter Try.func69, Try.ntmps69; go_wp2_with (first | ((with_reducible refine gate_dst (N := 2) rfl ?_); refine bX_ 2 #[.int .i64 a0_0, .int .i64 a0_1, .int .i64 a0_2] 39 ?_; intro gb332 hg w12 hbox hb; have BK332 := Z_ (hbox); have GW332 := Z_ ((by rw [hg]; exact (fZ_ hB_) : w.heap.size ≤ gb332)); have GE332 := Z_ ((by rw [hg]; exact (fZ_ hB_) : w.heap.size ≤ gb332)); replace HB := Z_ (fS_ hB_ hb); clear hb hbox hg; obtain ⟨⟨hcz13_0, hcz13_1, hcz13_2⟩, hfz13_0, hfz13_1, hfz13_2⟩ := f3_ BK332.out) | ((with_reducible refine gate_callee (f := 96) rfl ?_); refine gL_ (some 8) Try.func96 #[.int .i64 a0_0, .int .i64 a1] ?_; (with_reducible refine (snowlineref04_node.calls a0_0 a1 true _ A3.out).mono ?_); rintro e w' ⟨rfl, ⟨nd, rfl⟩⟩; refine ⟨_, rfl, ?_⟩) | (go_at_call 96; (with_reducible refine (snowlineref04_node.calls a0_1 a1 false _ A5.out).mono ?_); rintro e w' ⟨rfl, ⟨nd, rfl⟩⟩)); go_ret; exact ⟨eW_, hB_⟩
 replace c4 := bE_.mpr c4; subst c4; have H1 : (some false) = some r := by rw [if_neg (show ¬ (false = true) by decide)] at H; exact H
 clear H; have H := H1; clear H1; obtain rfl := oI_ H; go_enter Try.func69, Try.ntmps69; go_wp2_with (first | ((with_reducible refine gate_dst (N := 2) rfl ?_); refine bX_ 2 #[.int .i64 a0_0, .int .i64 a0_1, .int .i64 a0_2] 39 ?_; intro gb332 hg w14 hbox hb; have BK332 := Z_ (hbox); have GW332 := Z_ ((by rw [hg]; exact (fZ_ hB_) : w.heap.size ≤ gb332)); have GE332 := Z_ ((by rw [hg]; exact (fZ_ hB_) : w.heap.size ≤ gb332)); replace HB := Z_ (fS_ hB_ hb); clear hb hbox hg; obtain ⟨⟨hcz15_0, hcz15_1, hcz15_2⟩, hfz15_0, hfz15_1, hfz15_2⟩ := f3_ BK332.out) | ((with_reducible refine gate_callee (f := 96) rfl ?_); refine gL_ (some 8) Try.func96 #[.int .i64 a0_0, .int .i64 a1] ?_; (with_reducible refine (snowlineref04_node.calls a0_0 a1 false _ A3.out).mono ?_); rintro e w' ⟨rfl, ⟨nd, rfl⟩⟩; refine ⟨_, rfl, ?_⟩)); go_ret; exact ⟨eW_, hB_⟩
mutual
def snowlineref04_Check.j0 : Nat → Bool → Int → List (S39) → Option (Int)
 | 0, _, _, _ => none
 | k + 1, x17, x336000, x336001 => if x17 = true then (some 40) else (snowlineref04_Check.l0 k 0 x336000 x336001)
def snowlineref04_Check.l0 : Nat → Int → Int → List (S39) → Option (Int)
 | 0, _, _, _ => none
 | k + 1, x3, x336000, x336001 => if x3 < (x336001.length : Int) then (if 0 ≤ x3 then ((snowlineref04_Valid.f ((rd_T39 x336001 x3).f0) ((rd_T39 x336001 x3).f1) ((rd_T39 x336001 x3).f2) x336000).bind fun t337 => (if t337 = true then (snowlineref04_Check.l0 k (wrap64 (x3 + 1)) x336000 x336001) else (some 40))) else (none)) else (some 0)
end
def snowlineref04_Check.f (k : Nat) (a0_0 : Int) (l0_1 : List (S39)) : Option (Int) := if a0_0 < 1 then (snowlineref04_Check.j0 k true a0_0 l0_1) else (if a0_0 > 256 then (snowlineref04_Check.j0 k true a0_0 l0_1) else (snowlineref04_Check.j0 k (decide ((l0_1.length : Int) > 4096)) a0_0 l0_1))
theorem snowlineref04_Check.mono_l : ∀ k, (∀ y0 y1 y2, LeO (snowlineref04_Check.j0 k y0 y1 y2) (snowlineref04_Check.j0 (k + 1) y0 y1 y2)) ∧ (∀ y0 y1 y2, LeO (snowlineref04_Check.l0 k y0 y1 y2) (snowlineref04_Check.l0 (k + 1) y0 y1 y2))
 | 0 => ⟨fun _ _ _ r h => by simp [snowlineref04_Check.j0] at h, fun _ _ _ r h => by simp [snowlineref04_Check.l0] at h⟩
 | k + 1 => by
  obtain ⟨ih0, ih1⟩ := snowlineref04_Check.mono_l k; refine ⟨?_, ?_⟩ <;> intros <;> (first | unfold snowlineref04_Check.j0 | unfold snowlineref04_Check.l0) <;> repeat' first | (with_reducible first | exact ih0 _ _ _ | exact ih1 _ _ _ | exact LeO.refl _ | exact LeO.none _ | refine LeO.ite ?_ ?_ | refine LeO.bind ?_ (fun _ => ?_)) | exact ih0 _ _ _ | exact ih1 _ _ _ | exact LeO.none _ | refine LeO.ite ?_ ?_ | refine LeO.bind ?_ (fun _ => ?_)
theorem snowlineref04_Check.mono : ∀ a0 a1 k, LeO (snowlineref04_Check.f k a0 a1) (snowlineref04_Check.f (k + 1) a0 a1) := by
 intro a0 a1 k; obtain ⟨ih0, ih1⟩ := snowlineref04_Check.mono_l k; unfold snowlineref04_Check.f; repeat' first | (with_reducible first | exact ih0 _ _ _ | exact ih1 _ _ _ | exact LeO.refl _ | exact LeO.none _ | refine LeO.ite ?_ ?_ | refine LeO.bind ?_ (fun _ => ?_)) | exact ih0 _ _ _ | exact ih1 _ _ _ | exact LeO.none _ | refine LeO.ite ?_ ?_ | refine LeO.bind ?_ (fun _ => ?_)
def snowlineref04_Check.T6 : Bool × List (List Nat × List Nat) := (true, [([], []), ([0], [0]), ([], []), ([1, 2], [1, 2]), ([3], [3]), ([], []), ([5], [5]), ([4, 6], [4, 6]), ([7], [7])])
def snowlineref04_Check.B6 : List Nat := [0, 1, 0, 7, 15, 0, 32, 127, 255]
theorem snowlineref04_Check.tab6 : rtab .any (opsOf Try.f22 6) = snowlineref04_Check.T6 := by kernel_rfl
theorem snowlineref04_Check.bits6 : waitsOk snowlineref04_Check.T6.2 snowlineref04_Check.B6 = true := by kernel_rfl
set_option maxHeartbeats 8000000 in
set_option maxRecDepth 100000 in
theorem snowlineref04_Check.calls (k : Nat) (a0_0 : Int) (A0_1 : Option Addr) (c0_1 : Nat) (l0_1 : List (S39)) (r : Int) (w : World) (hr0_1 : Kd.C k39 w A0_1 l0_1.length l0_1) (hc0_1 : l0_1.length ≤ c0_1) (h : snowlineref04_Check.f k a0_0 l0_1 = some r) :
  Calls Try.prog 22 #[.agg #[.int .i64 a0_0, .slice A0_1 l0_1.length c0_1]] w fun e w' => e = .returned (.int .i64 r) ∧ Below w.heap.size w w' := by
 have hu24 := Try.underlying24; have hu39 := Try.underlying39; have HR0_1 := Z_ hr0_1; have HC0_1 := Z_ hc0_1; clear hr0_1 hc0_1; have HB := Z_ (Below.refl w.heap.size w); have H : (if a0_0 < 1 then (snowlineref04_Check.j0 k true a0_0 l0_1) else (if a0_0 > 256 then (snowlineref04_Check.j0 k true a0_0 l0_1) else (snowlineref04_Check.j0 k (decide ((l0_1.length : Int) > 4096)) a0_0 l0_1))) = some r := h; clear h; have HC2 := Z_ H; clear H; go_enter Try.func22, Try.ntmps22; go_upto_region 1 with (first | ((with_reducible refine gate_dst (N := 1) rfl ?_); (try (refine gate_guard (by rfl) ?_; dsimp only)); refine bX_ 1 #[.int .i64 a0_0, .slice A0_1 l0_1.length c0_1] 24 ?_; intro gb335 hg w3 hbox hb; have BK335 := Z_ (hbox); have GW335 := Z_ ((by rw [hg]; exact (fZ_ hB_) : w.heap.size ≤ gb335)); have GE335 := Z_ ((by rw [hg]; exact (fZ_ hB_) : w.heap.size ≤ gb335)); replace HB := Z_ (fS_ hB_ hb); clear hb hbox hg)); (try simp only [Act.put, sT_, sZ_, sS_])
 go_cut [17] (fun v17 wc => ∃ (kq : Nat) (x17_1 : Bool), v17 = .bool x17_1 ∧ Aside0 (snowlineref04_Check.j0 kq x17_1 a0_0 l0_1 = some r) ∧ Aside0 (kq ≤ k) ∧ Aside0 (wc.heap[gb335]? = some (.cells #[.int .i64 a0_0, (.slice A0_1 l0_1.length c0_1)] 24 (0, 0))) ∧ Aside0 (Below w.heap.size w wc))
 case first =>
  have H := HC2.out; clear HC2; by_cases c4 : a0_0 < 1
  ·rw [if_pos c4] at H
   have c4b0 : decide (a0_0 < 1) = true := eT_ c4; clear c4; (first | rw [c4b0] | (simp only [i64_w, i32_w]; rw [c4b0]) | skip)
   have H' := Z_ H; clear H; obtain ⟨⟨hcz5_0, hcz5_1⟩, hfz5_0, hfz5_1⟩ := f2_ BK335.out; go_wp2; go_meet
   case rel => exact ⟨_, (true), rf_, H', ⟨oL_⟩, ⟨bR_ BK335.out⟩, ⟨hB_⟩⟩
  rw [if_neg c4] at H; have c4b0 : decide (a0_0 < 1) = false := eF_ c4; clear c4; (first | rw [c4b0] | (simp only [i64_w, i32_w]; rw [c4b0]) | skip)
  by_cases c6 : a0_0 > 256
  ·rw [if_pos c6] at H
   have c6b0 : decide (256 < a0_0) = true := eT_ c6; clear c6; have H' := Z_ H; clear H; obtain ⟨⟨hcz7_0, hcz7_1⟩, hfz7_0, hfz7_1⟩ := f2_ BK335.out; go_wp2; go_meet
   case rel => exact ⟨_, (true), rf_, H', ⟨oL_⟩, ⟨bR_ BK335.out⟩, ⟨hB_⟩⟩
  rw [if_neg c6] at H; have c6b0 : decide (256 < a0_0) = false := eF_ c6; clear c6; have H' := Z_ H; clear H; obtain ⟨⟨hcz8_0, hcz8_1⟩, hfz8_0, hfz8_1⟩ := f2_ BK335.out; go_wp2; go_meet
  case rel => exact ⟨_, (decide ((l0_1.length : Int) > 4096)), rf_, H', ⟨oL_⟩, ⟨bR_ BK335.out⟩, ⟨hB_⟩⟩
 case rest =>
  clear HC2; (try clear c2); (try clear p2); (try clear c4); (try clear c4b0); (try clear c6); (try clear c6b0); (try clear hcz5_0); (try clear hcz5_1); (try clear hcz7_0); (try clear hcz7_1); (try clear hcz8_0); (try clear hcz8_1); (try clear hfz5_0); (try clear hfz5_1); (try clear hfz7_0); (try clear hfz7_1); (try clear hfz8_0); (try clear hfz8_1)
  obtain ⟨kq, x17_1, rfl, HA, HJ1, BK335, HB⟩ := hcut
  cases kq with
  | zero => exact absurd HA.out (by simp [snowlineref04_Check.j0])
  | succ kj1 =>
   have H := HA.out; clear HA; simp only [snowlineref04_Check.j0] at H; by_cases c9 : x17_1 = true
   ·subst c9
    rw [if_pos rfl] at H; obtain rfl := oI_ H; go_wp2; go_ret; exact ⟨eW_, hB_⟩
   replace c9 := bE_.mpr c9; subst c9; have H1 : (snowlineref04_Check.l0 kj1 0 a0_0 l0_1) = some r := by rw [if_neg (show ¬ (false = true) by decide)] at H; exact H
   clear H; have H := H1; clear H1; have H' := Z_ H; clear H; go_wp2; go_loopg [3] kj1 (fun kq v3 w' => ∃ (x3_2 : Int), v3 = .int .i64 x3_2 ∧ Aside0 (snowlineref04_Check.l0 kq x3_2 a0_0 l0_1 = some r) ∧ Aside0 (kq ≤ kj1) ∧ Aside0 (w'.heap[gb335]? = some (.cells #[.int .i64 a0_0, (.slice A0_1 l0_1.length c0_1)] 24 (0, 0))) ∧ Aside0 (Below w.heap.size w w'))
   case atStart => exact ⟨(0), rf_, H', ⟨nR_ _⟩, ⟨bR_ BK335.out⟩, ⟨hB_⟩⟩
   case round =>
    clear H'; (try clear c2); (try clear p2); (try clear c4); (try clear c4b0); (try clear c6); (try clear c6b0); (try clear c9); (try clear hcz5_0); (try clear hcz5_1); (try clear hcz7_0); (try clear hcz7_1); (try clear hcz8_0); (try clear hcz8_1); (try clear hfz5_0); (try clear hfz5_1); (try clear hfz7_0); (try clear hfz7_1); (try clear hfz8_0); (try clear hfz8_1); (try clear p2)
    obtain ⟨x3_2, rfl, HA, HK2, BK335, HB⟩ := hrel
    cases gk with
    | zero => exact absurd HA.out (by simp [snowlineref04_Check.l0])
    | succ k2 =>
     have H := HA.out; clear HA; simp only [snowlineref04_Check.l0] at H; by_cases c10 : x3_2 < (l0_1.length : Int)
     ·rw [if_pos c10] at H
      have c10b0 : decide (x3_2 < (l0_1.length : Int)) = true := eT_ c10; clear c10; by_cases c11 : 0 ≤ x3_2
      ·rw [if_pos c11] at H
       have c11b0 : decide (0 ≤ x3_2) = true := eT_ c11; clear c11; replace H := oS_.mp H; obtain ⟨t337, A120, H⟩ := H; have A12 := Z_ A120; clear A120; have HF13 := Z_ H; clear H; obtain ⟨⟨hcz14_0, hcz14_1⟩, hfz14_0, hfz14_1⟩ := f2_ BK335.out; try go_wp2
       replace BK335 := Z_ (bD_ BK335.out); replace HB := Z_ (fD_ HB.out); have p336 : 0 ≤ (x3_2 : Int) := dT_ as_; have q336 : x3_2 < (l0_1.length : Int) := dT_ as_; obtain ⟨ad336, e336, hx336_0, hx336_1, hx336_2⟩ := at_T39 HR0_1.out x3_2 p336 q336; have hw336_2 := hx336_2; have hw336_1 := hx336_1; have hw336_0 := hx336_0; cases e336
       replace hx336_0 := (HB.out.cell (World.block_lt_of_cell? w _ hx336_0)).trans hx336_0; replace hx336_1 := (HB.out.cell (World.block_lt_of_cell? w _ hx336_1)).trans hx336_1; replace hx336_2 := (HB.out.cell (World.block_lt_of_cell? w _ hx336_2)).trans hx336_2; replace p336 := eq_true p336; replace q336 := eq_true q336; refine start_ (n := 9) (S := fun w' => w'.cell? ⟨gb335, 0, none⟩ = some (.int .i64 a0_0) ∧ w'.cell? ⟨gb335, 1, none⟩ = some (.slice (some ad336) l0_1.length c0_1) ∧ w'.cell? (ad336.add ((x3_2).toNat * 3)) = some (.int .i64 ((rd_T39 l0_1 x3_2).f0)) ∧ w'.cell? ⟨(ad336.add ((x3_2).toNat * 3)).block, (ad336.add ((x3_2).toNat * 3)).off + 1, none⟩ = some (.int .i64 ((rd_T39 l0_1 x3_2).f1)) ∧ w'.cell? ⟨(ad336.add ((x3_2).toNat * 3)).block, (ad336.add ((x3_2).toNat * 3)).off + 2, none⟩ = some (.int .i64 ((rd_T39 l0_1 x3_2).f2))) (ds := []) #[false, false, false, false, false, false, false, false, false] (by kernel_rfl) rfl rfl ⟨(bC_ BK335.out 0).trans rfl, (bC_ BK335.out 1).trans rfl, ((HB.out.cell (World.block_lt_of_cell? w _ hw336_0)).trans hw336_0), ((HB.out.cell (World.block_lt_of_cell? w _ hw336_1)).trans hw336_1), ((HB.out.cell (World.block_lt_of_cell? w _ hw336_2)).trans hw336_2)⟩ (fun hHeld => ?_); refine with_tabW snowlineref04_Check.tab6 snowlineref04_Check.bits6 (fun HT_ HW_ => ?_); generalize wr.drew = w15 at BK335 HB hx336_0 hx336_1 hx336_2 hHeld ⊢; refine pP_ 0 25 ?_; refine pP_ 2 27 ?_; refine pP_ 5 30 ?_; refine pT_ 1 26 ?_; refine pP_ 3 28 ?_; refine pT_ 4 29 ?_; refine pT_ 6 31 ?_; refine oN_ 7 (some 32) (fun K hK => ?_); refine gO_ Try.func69 #[.agg #[.int .i64 ((rd_T39 l0_1 x3_2).f0), .int .i64 ((rd_T39 l0_1 x3_2).f1), .int .i64 ((rd_T39 l0_1 x3_2).f2)], .int .i64 a0_0] ?_; with_reducible refine (snowlineref04_Valid.calls ((rd_T39 l0_1 x3_2).f0) ((rd_T39 l0_1 x3_2).f1) ((rd_T39 l0_1 x3_2).f2) a0_0 t337 _ A12.out).mono ?_
       rintro e w16 ⟨rfl, hb⟩; refine ⟨_, rfl, ?_⟩; replace BK335 := Z_ (bB_ (g := gb335) (o := .cells #[.int .i64 a0_0, .slice (some ad336) l0_1.length c0_1] 24 (0, 0)) (bR_ BK335.out) hb); replace HB := Z_ (fS_ hB_ hb); (try clear hb)
       (try clear hb2)
       (try clear hk)
       (try clear hi)
       refine hK.out _ _ ⟨(bC_ BK335.out 0).trans rfl, (bC_ BK335.out 1).trans rfl, ((HB.out.cell (World.block_lt_of_cell? w _ hw336_0)).trans hw336_0), ((HB.out.cell (World.block_lt_of_cell? w _ hw336_1)).trans hw336_1), ((HB.out.cell (World.block_lt_of_cell? w _ hw336_2)).trans hw336_2)⟩ (fun hHeld => ?_); clear hK K; refine nP_ 32 ?_; refine pP_ 8 33 ?_; refine dN_ ?_; go_upto_if 33 with (fail); have H := HF13.out; clear HF13; by_cases c17 : t337 = true
       ·subst c17
        rw [if_pos rfl] at H; have H' := Z_ H; clear H; go_wp2; go_roundg k2
        case measure => have := HJ1.out; have := HK2.out; omega
        case rel => exact ⟨(wrap64 (x3_2 + 1)), rf_, H', ⟨by have := HJ1.out; have := HK2.out; omega⟩, ⟨bR_ BK335.out⟩, ⟨hB_⟩⟩
       replace c17 := bE_.mpr c17; subst c17; have H1 : (some 40) = some r := by rw [if_neg (show ¬ (false = true) by decide)] at H; exact H
       clear H; have H := H1; clear H1; obtain rfl := oI_ H; go_wp2; go_ret; exact ⟨eW_, hB_⟩
      rw [if_neg c11] at H; exact absurd H (by simp)
     rw [if_neg c10] at H; have c10b0 : decide (x3_2 < (l0_1.length : Int)) = false := eF_ c10; clear c10; obtain rfl := oI_ H; obtain ⟨⟨hcz18_0, hcz18_1⟩, hfz18_0, hfz18_1⟩ := f2_ BK335.out; go_wp2; go_ret; exact ⟨eW_, hB_⟩
end Go.Proofs.Ytpolojoeabmhdaa.A
/- The reference: Check; equal lists. -/
namespace Go.Proofs.Ytpolojoeabmhdaa.A
open Go.RowKit Go.Proofs.YtpolojoeabmhdaaW.PrintWords Go.Proofs.YtpolojoeabmhdaaW.PrintLast Go.Proofs.YtpolojoeabmhdaaW.PrintMore
theorem ext_rd {a b : List Int} (hl : a.length = b.length) (h : ∀ v : Int, 0 ≤ v → v < (a.length : Int) → rd a v = rd b v) : a = b :=
  List.ext_getElem hl (fun i h1 h2 => by
    have p := h i (by omega) (by omega)
    unfold rd at p
    rw [List.getD_eq_getElem?_getD, List.getD_eq_getElem?_getD, Int.toNat_natCast, List.getElem?_eq_getElem h1, List.getElem?_eq_getElem h2] at p
    exact p)
theorem ext_rdOf {α : Type} (d : α) {a b : List α} (hl : a.length = b.length) (h : ∀ v : Int, 0 ≤ v → v < (a.length : Int) → rdOf d a v = rdOf d b v) : a = b :=
  List.ext_getElem hl (fun i h1 h2 => by
    have p := h i (by omega) (by omega)
    unfold rdOf at p
    rw [List.getD_eq_getElem?_getD, List.getD_eq_getElem?_getD, Int.toNat_natCast, List.getElem?_eq_getElem h1, List.getElem?_eq_getElem h2] at p
    exact p)
theorem rvalid_some (d : S39) (n : Int) : snowlineref04_Valid.f d.f0 d.f1 d.f2 n = some (edgeB n d) := by
  unfold snowlineref04_Valid.f snowlineref04_node.f edgeB
  by_cases h0 : d.f0 ≥ 0
  · rw [if_pos h0, Option.bind_some]
    by_cases h1 : d.f0 < n
    · rw [if_pos (decide_eq_true h1)]
      by_cases h2 : d.f1 ≥ 0
      · rw [if_pos h2, Option.bind_some]
        by_cases h3 : d.f1 < n
        · rw [if_pos (decide_eq_true h3)]
          by_cases h4 : d.f2 ≥ -1073741824
          · rw [if_pos h4]; simp [show 0 ≤ d.f0 from h0, h1, show 0 ≤ d.f1 from h2, h3, show -1073741824 ≤ d.f2 from h4]
          · rw [if_neg h4]; simp [show ¬ -1073741824 ≤ d.f2 from h4]
        · rw [if_neg (by simpa using h3)]; simp [h3]
      · rw [if_neg h2, Option.bind_some, if_neg (by simp)]; simp [show ¬ 0 ≤ d.f1 from h2]
    · rw [if_neg (by simpa using h1)]; simp [h1]
  · rw [if_neg h0, Option.bind_some, if_neg (by simp)]; simp [show ¬ 0 ≤ d.f0 from h0]
theorem rcheck_l0 (n : Int) (L : List S39) (hl : L.length ≤ 4096) : ∀ (q : Nat) (i : Int) (f : Nat), (q : Int) + i = L.length → 0 ≤ i →
    snowlineref04_Check.l0 (f + q + 1) i n L = some (if (L.drop i.toNat).all (edgeB n) = true then 0 else 40)
  | 0, i, f, hq, hi => by
    rw [snowlineref04_Check.l0, if_neg (by omega), List.drop_eq_nil_of_le (by omega)]
    rfl
  | q + 1, i, f, hq, hi => by
    have hlt : i < (L.length : Int) := by omega
    rw [show f + (q + 1) + 1 = (f + q + 1) + 1 from by omega, snowlineref04_Check.l0, if_pos hlt, if_pos hi, rvalid_some, rd_T39_drop L i hi hlt]
    simp only [Option.bind_some]
    by_cases c : edgeB n (rd_T39 L i) = true
    · have e : (rd_T39 L i :: L.drop (i + 1).toNat).all (edgeB n) = (L.drop (i + 1).toNat).all (edgeB n) := by rw [List.all_cons, c, Bool.true_and]
      rw [if_pos c, e, wrap_id (by omega) (by omega)]
      exact rcheck_l0 n L hl q (i + 1) f (by omega) (by omega)
    · have e : (rd_T39 L i :: L.drop (i + 1).toNat).all (edgeB n) = false := by
        rw [Bool.not_eq_true] at c
        rw [List.all_cons, c, Bool.false_and]
      rw [if_neg c, e]
      rfl
theorem rcheck_ev (n : Int) (L : List S39) : Ev (fun k => snowlineref04_Check.f k n L) (if validB n L = true then 0 else 40) := by
  unfold snowlineref04_Check.f
  have hbad : validB n L = false → Ev (fun k => snowlineref04_Check.j0 k true n L) (if validB n L = true then 0 else 40) := fun e => by
    rw [e]
    exact Ev.step (f := fun k => some 40) (fun k => by rw [snowlineref04_Check.j0]; rfl) (Ev.now _)
  by_cases h1 : n < 1
  · refine Ev.pos h1 (hbad ?_)
    unfold validB; simp [show ¬ 1 ≤ n by omega]
  refine Ev.neg h1 ?_
  by_cases h2 : n > 256
  · refine Ev.pos h2 (hbad ?_)
    unfold validB; simp [show ¬ n ≤ 256 by omega]
  refine Ev.neg h2 ?_
  by_cases hl : L.length ≤ 4096
  · have e : validB n L = L.all (edgeB n) := by
      unfold validB; simp [show 1 ≤ n by omega, show n ≤ 256 by omega, hl]
    rw [decide_eq_false (by omega), e]
    refine Ev.step (f := fun k => snowlineref04_Check.l0 k 0 n L) (fun k => by rw [snowlineref04_Check.j0]; rfl) ?_
    refine Ev.shift (L.length + 1) (h := fun _ => some _) (fun f => ?_) (Ev.now _)
    have := rcheck_l0 n L hl L.length 0 f (by omega) (by omega)
    rw [show (0 : Int).toNat = 0 from rfl, List.drop_zero] at this
    exact this
  · rw [decide_eq_true (by omega)]
    refine hbad ?_
    unfold validB; simp [hl]
theorem equal_l0 (a b : List Int) (hl : a.length = b.length) (hs : a.length ≤ 4611686018427387904) : ∀ (q : Nat) (i : Int) (f : Nat), (q : Int) + i = a.length → 0 ≤ i → (∀ v : Int, 0 ≤ v → v < i → rd a v = rd b v) →
    ∃ r, slices_Equal_int_int.l0 (f + q + 1) a b a.length i = some r ∧ (r = true ↔ a = b)
  | 0, i, f, hq, hi, h => by
    refine ⟨true, ?_, fun _ => ext_rd hl (fun v h0 h1 => h v h0 (by omega)), fun _ => rfl⟩
    rw [slices_Equal_int_int.l0, if_neg (by omega)]
  | q + 1, i, f, hq, hi, h => by
    rw [show f + (q + 1) + 1 = (f + q + 1) + 1 from by omega, slices_Equal_int_int.l0, if_pos (by omega), if_pos hi, if_pos (by omega), if_pos (by omega)]
    by_cases e : rd a i = rd b i
    · rw [if_pos e, wrap_id (by omega) (by omega)]
      exact equal_l0 a b hl hs q (i + 1) f (by omega) (by omega) (fun v h0 h1 => by
        by_cases hv : v = i
        · rw [hv]; exact e
        · exact h v h0 (by omega))
    · rw [if_neg e]
      exact ⟨false, rfl, fun h => absurd h (by simp), fun h => absurd (by rw [h]) e⟩
theorem equal_ev (a b : List Int) (hs : a.length ≤ 4611686018427387904) : ∃ r : Bool, Ev (fun k => slices_Equal_int_int.f k a b) r ∧ (r = true ↔ a = b) := by
  unfold slices_Equal_int_int.f
  by_cases hl : a.length = b.length
  · obtain ⟨r, h1, h2⟩ := equal_l0 a b hl hs a.length 0 0 (by omega) (by omega) (fun v h0 h1 => by omega)
    refine ⟨r, Ev.pos (by omega) (Ev.shift (a.length + 1) (h := fun _ => some r) (fun f => ?_) (Ev.now _)), h2⟩
    obtain ⟨r', g1, g2⟩ := equal_l0 a b hl hs a.length 0 f (by omega) (by omega) (fun v h0 h1 => by omega)
    rw [show f + (a.length + 1) = f + a.length + 1 from rfl, g1]
    congr 1
    rw [Bool.eq_iff_iff, g2, h2]
  · exact ⟨false, Ev.neg (by omega) (Ev.now _), fun h => absurd h (by simp), fun h => absurd (by rw [h]) hl⟩
end Go.Proofs.Ytpolojoeabmhdaa.A
