import Derived.Test.YtpolojoeabmhdaaMZcoreb
import Derived.Test.YtpolojoeabmhdaaMZcored
import Derived.Test.YtpolojoeabmhdaaMZcoree
import Derived.Test.YtpolojoeabmhdaaMZcoref
import Derived.Test.YtpolojoeabmhdaaMZcoreh
set_option linter.unusedVariables false
set_option linter.unusedSimpArgs false
/- Numbers that fulfil a net; lists. -/
namespace Go.Proofs.Ytpolojoeabmhdaa.A
open Go.RowKit Go.Proofs.YtpolojoeabmhdaaW.PrintWords Go.Proofs.YtpolojoeabmhdaaW.PrintLast Go.Proofs.YtpolojoeabmhdaaW.PrintMore
theorem rd_cons (x : Int) (xs : List Int) (i : Int) (h : 0 ≤ i) : rd (x :: xs) (i + 1) = rd xs i := by
  unfold rd
  rw [show (i + 1).toNat = i.toNat + 1 from by omega]
  rfl
theorem rd_mem {l : List Int} {i : Int} (h0 : 0 ≤ i) (h1 : i < l.length) : rd l i ∈ l := by
  unfold rd
  rw [List.getD_eq_getElem?_getD, List.getElem?_eq_getElem (by omega)]; exact List.getElem_mem _
theorem mem_rd {l : List Int} {x : Int} (h : x ∈ l) : ∃ i : Int, 0 ≤ i ∧ i < l.length ∧ rd l i = x := by
  obtain ⟨i, hi, rfl⟩ := List.getElem_of_mem h
  refine ⟨i, by omega, by omega, ?_⟩
  unfold rd
  rw [List.getD_eq_getElem?_getD, Int.toNat_natCast, List.getElem?_eq_getElem hi]; rfl
theorem take_snoc {α : Type} (l : List α) (i : Nat) (h : i < l.length) : l.take (i + 1) = l.take i ++ [l[i]] := by
  rw [List.take_add_one, List.getElem?_eq_getElem h]; rfl
theorem chain_len (L : List S39) (la : List Int) : ∀ c v, (chain L la c v).length = c
  | 0, _ => rfl
  | c + 1, v => by simp [chain, chain_len L la c]
theorem edges_mem {n : Int} {D : List S39} (hE : EdgesOk n D) : ∀ d ∈ D, EdgeOk n d := fun d hd => by
  obtain ⟨i, hi, rfl⟩ := List.getElem_of_mem hd
  have := hE i (by omega) (by omega)
  unfold rd_T39 at this
  rw [List.getD_eq_getElem?_getD, Int.toNat_natCast, List.getElem?_eq_getElem hi] at this
  exact this
structure Asg (L : List S39) (x : Int → Int) : Prop where
  z : x 0 = 0
  p : Pot L x
def EC (n : Int) (x : List Int) (d : S39) : Prop := 0 ≤ d.f0 ∧ d.f0 < n ∧ 0 ≤ d.f1 ∧ d.f1 < n ∧ rd x d.f1 - rd x d.f0 ≤ d.f2
structure Ful (n : Int) (L : List S39) (x : List Int) : Prop where
  l : (x.length : Int) = n
  n0 : 0 < n
  z : rd x 0 = 0
  b : ∀ v, 0 ≤ v → v < n → -1099511627776 ≤ rd x v ∧ rd x v ≤ 1099511627776
  e : ∀ k, 0 ≤ k → k < (L.length : Int) → EC n x (rd_T39 L k)
theorem Ful.asg {n : Int} {L : List S39} {x : List Int} (h : Ful n L x) : Asg L (rd x) := ⟨h.z, fun k k0 k1 => (h.e k k0 k1).2.2.2.2⟩
section
variable {n : Nat} {D L : List S39}
theorem hmul (hV : Valid n D) : (n : Int) * D.length ≤ 1048576 := by
  have h1 := hV.n2
  have h2 := hV.l
  have := Int.mul_le_mul (a := (n : Int)) (b := D.length) (c := 256) (d := 4096) (by omega) (by omega) (by omega) (by omega)
  omega
theorem wk_bound {n : Int} {L : List S39} (hE : EdgesOk n L) : ∀ {u : Int} {l : List Int} {v W : Int}, Wk L u l v W → -(l.length * 1073741824) ≤ W ∧ W ≤ l.length * 1073741824
  | u, [], v, W, h => by
    obtain ⟨_, rfl⟩ := h
    simp
  | u, i :: is, v, W, h => by
    obtain ⟨⟨i0, i1⟩, _, h2⟩ := h
    have := wk_bound hE h2
    have hd := hE i i0 i1
    have := hd.e
    have := hd.f
    rw [List.length_cons]
    push_cast
    omega
theorem chain_len' (L : List S39) (la : List Int) (c : Nat) (v : Int) : (chain L la c v).length = c := chain_len L la c v
theorem solve_ful {L : List S39} (hn0 : 0 < n) (hn : n ≤ 256) (hE : EdgesOk n L) (hm : (n : Int) * L.length ≤ 1048576) (hs : Solv L) : ∃ (x : List Int) (s : Sg), Ev (fun k => diffs_solve.f k n L) (x, s.lo, s.ha, s.la, -1) ∧ Ful n L x := by
  obtain ⟨x, s, bad, h1, h2, h3, h4, h5⟩ := solve_ev hn0 (by omega) hE hm
  have ha : ∀ v, 0 ≤ v → v < (n : Int) → v ∈ allL n := fun v a b => mem_allL.2 ⟨a, b⟩
  have hb := (h2.bad_iff hE ha).2 hs
  subst hb
  obtain ⟨l1, l2⟩ := h4 rfl
  obtain ⟨y, hy⟩ := hs
  have hf := (h2.good hE hy).2
  have bd : ∀ v, 0 ≤ v → v < (n : Int) → -274877906944 ≤ rd s.lo v ∧ rd s.lo v ≤ 274877906944 := fun v v0 v1 => by
    obtain ⟨c, hc⟩ := h2.tree hE hf v0 v1 (h2.all_has ha v0 v1)
    have := wk_bound hE hc.walk
    rw [List.length_reverse, chain_len'] at this
    have := hc.few
    omega
  refine ⟨x, s, h3, by omega, by omega, ?_, fun v v0 v1 => ?_, fun k k0 k1 => ?_⟩
  · rw [l2 0 (by omega) (by omega)]; omega
  · rw [l2 v v0 v1]
    have := bd v v0 v1
    have := bd 0 (by omega) (by omega)
    omega
  · have he := hE k k0 k1
    have hp := h2.pot hE ha rfl k k0 k1
    refine ⟨he.a, he.b, he.c, he.g, ?_⟩
    rw [l2 _ he.c he.g, l2 _ he.a he.b]
    omega
structure NumOk (n : Int) (x : List Int) : Prop where
  l : (x.length : Int) = n
  b : ∀ v, 0 ≤ v → v < n → -1099511627776 ≤ rd x v ∧ rd x v ≤ 1099511627776
theorem Ful.num {n : Int} {L : List S39} {x : List Int} (h : Ful n L x) : NumOk n x := ⟨h.l, h.b⟩
theorem Ful.solv {m : Int} {x : List Int} (h : Ful m L x) : Solv L := ⟨_, h.asg.p⟩
end
end Go.Proofs.Ytpolojoeabmhdaa.A
namespace Go.Proofs.Ytpolojoeabmhdaa.A
open Go.RowKit Go.Proofs.YtpolojoeabmhdaaW.PrintWords Go.Proofs.YtpolojoeabmhdaaW.PrintLast Go.Proofs.YtpolojoeabmhdaaW.PrintMore
attribute [local go_sem] max2_int min2_int max_two min_two max_three min_three max_four min_four
def diffs_Solve.f (k : Nat) (a0_0 : Int) (l0_1 : List (S39)) : Option (List Int × Int) := (diffs_Check.f k a0_0 l0_1).bind fun t797 => (if t797 = 0 then ((diffs_solve.f k a0_0 l0_1).bind fun bt798 => (if bt798.2.2.2.2 ≥ 0 then (some (([] : List Int), 41)) else (some (bt798.1, 0)))) else (some (([] : List Int), t797)))
theorem diffs_Solve.mono : ∀ a0 a1 k, LeO (diffs_Solve.f k a0 a1) (diffs_Solve.f (k + 1) a0 a1) := by
 intro a0 a1 k; unfold diffs_Solve.f; repeat' first | (with_reducible first | exact diffs_Check.mono _ _ _ | exact diffs_solve.mono _ _ _ | exact LeO.refl _ | exact LeO.none _ | refine LeO.ite ?_ ?_ | refine LeO.bind ?_ (fun _ => ?_)) | exact diffs_Check.mono _ _ _ | exact diffs_solve.mono _ _ _ | exact LeO.none _ | refine LeO.ite ?_ ?_ | refine LeO.bind ?_ (fun _ => ?_)
set_option maxHeartbeats 8000000 in
set_option maxRecDepth 100000 in
theorem diffs_Solve.calls (k : Nat) (a0_0 : Int) (A0_1 : Option Addr) (c0_1 : Nat) (l0_1 : List (S39)) (r1 : List Int) (r2 : Int) (w : World) (hr0_1 : Kd.C k39 w A0_1 l0_1.length l0_1) (hc0_1 : l0_1.length ≤ c0_1) (h : diffs_Solve.f k a0_0 l0_1 = some (r1, r2)) :
  Calls Try.prog 39 #[.agg #[.int .i64 a0_0, .slice A0_1 l0_1.length c0_1]] w fun e w' => ∃ v0_ : Value, e = .returned (.tuple #[v0_, .int .i64 r2]) ∧ Kd.R (Kd.int .i64) 3 w' w.heap.size (fun _ => True) v0_ r1 ∧ Below w.heap.size w w' := by
 have hu24 := Try.underlying24; have hu88 := Try.underlying88; have HR0_1 := Z_ hr0_1; have HC0_1 := Z_ hc0_1; clear hr0_1 hc0_1; have HB := Z_ (Below.refl w.heap.size w); have H : ((diffs_Check.f k a0_0 l0_1).bind fun t797 => (if t797 = 0 then ((diffs_solve.f k a0_0 l0_1).bind fun bt798 => (if bt798.2.2.2.2 ≥ 0 then (some (([] : List Int), 41)) else (some (bt798.1, 0)))) else (some (([] : List Int), t797)))) = some (r1, r2) := h; clear h; replace H := oS_.mp H; obtain ⟨t797, A20, H⟩ := H; have A2 := Z_ A20; clear A20; have HF3 := Z_ H; clear H; go_enter Try.func39, Try.ntmps39; go_upto_if 11 with (first | ((with_reducible refine gate_dst (N := 1) rfl ?_); refine bX_ 1 #[.int .i64 a0_0, .slice A0_1 l0_1.length c0_1] 24 ?_; intro gb796 hg w4 hbox hb; have BK796 := Z_ (hbox); have GW796 := Z_ ((by rw [hg]; exact (fZ_ hB_) : w.heap.size ≤ gb796)); have GE796 := Z_ ((by rw [hg]; exact (fZ_ hB_) : w.heap.size ≤ gb796)); replace HB := Z_ (fS_ hB_ hb); clear hb hbox hg; obtain ⟨⟨hcz5_0, hcz5_1⟩, hfz5_0, hfz5_1⟩ := f2_ BK796.out) | ((with_reducible refine gate_callee (f := 29) rfl ?_); refine gL_ (some 9) Try.func29 #[.agg #[.int .i64 a0_0, .slice A0_1 l0_1.length c0_1]] ?_; (with_reducible refine (diffs_Check.calls k a0_0 _ _ l0_1 t797 _ ?side1 ?side2 A2.out).mono ?_); (case side1 => exact cS_ (cB_ HR0_1.out HB.out)); (case side2 => exact HC0_1.out); rintro e w6 ⟨rfl, hb⟩; refine ⟨_, rfl, ?_⟩; replace BK796 := Z_ (bB_ (g := gb796) (o := .cells #[.int .i64 a0_0, .slice A0_1 l0_1.length c0_1] 24 (0, 0)) (bR_ BK796.out) hb); replace HB := Z_ (fS_ hB_ hb); (try clear hb); (try clear hb2); (try clear hk); (try clear hi))); (try simp only [Act.put, sT_, sZ_, sS_])
 have H := HF3.out; clear HF3; by_cases c7 : t797 = 0
 ·rw [if_pos c7] at H
  obtain ⟨c7b0, c7b1⟩ := be_ c7; clear c7; (first | rw [c7b0] | (simp only [i64_w, i32_w]; rw [c7b0]) | skip)
  replace H := oS_.mp H; obtain ⟨⟨t798, t801, t804, t807, t810⟩, A80, H⟩ := H; have A8 := Z_ A80; clear A80; have HF9 := Z_ H; clear H; obtain ⟨⟨hcz10_0, hcz10_1⟩, hfz10_0, hfz10_1⟩ := f2_ BK796.out; go_upto_if 22 with (first | ((with_reducible refine gate_callee (f := 81) rfl ?_); refine gL_ (some 17) Try.func81 #[.iface 100 (.agg #[.int .i64 a0_0, .slice A0_1 l0_1.length c0_1])] ?_; (with_reducible refine (diffs_solve.calls k a0_0 _ _ l0_1 t798 t801 t804 t807 t810 _ ?side1 ?side2 A8.out).mono ?_); (case side1 => exact cS_ (cB_ HR0_1.out HB.out)); (case side2 => exact HC0_1.out); rintro e w11 ⟨v799, v802, v805, v808, rfl, ho0, ho1, ho2, ho3, hb⟩; refine ⟨_, rfl, ?_⟩; have HO800 := Z_ (rL_ ho0 (fZ_ hB_)); have HO803 := Z_ (rL_ ho1 (fZ_ hB_)); have HO806 := Z_ (rL_ ho2 (fZ_ hB_)); have HO809 := Z_ (rL_ ho3 (fZ_ hB_)); replace BK796 := Z_ (bB_ (g := gb796) (o := .cells #[.int .i64 a0_0, .slice A0_1 l0_1.length c0_1] 24 (0, 0)) (bR_ BK796.out) hb); replace HB := Z_ (fS_ hB_ hb); (try clear hb); (try clear hb2); (try clear hk); (try clear hi); (try clear ho0); (try clear ho1); (try clear ho2); (try clear ho3)) | ((with_reducible refine gate_dst (N := 6) rfl ?_); refine bX_ 6 #[.slice none 0 0, .slice none 0 0, .slice none 0 0] 88 ?_; intro gb811 hg w12 hbox hb; replace HO800 := Z_ (rB_ (rK_ HO800.out) hb); replace HO803 := Z_ (rB_ (rK_ HO803.out) hb); replace HO806 := Z_ (rB_ (rK_ HO806.out) hb); replace HO809 := Z_ (rB_ (rK_ HO809.out) hb); have BK811 := Z_ (hbox); have GW811 := Z_ ((by rw [hg]; exact (fZ_ hB_) : w.heap.size ≤ gb811)); have GE811 := Z_ ((by rw [hg]; exact (fZ_ hB_) : w.heap.size ≤ gb811)); replace HB := Z_ (fS_ hB_ hb); have NB796_811 := Z_ ((by rw [hg]; exact Nat.ne_of_lt (blk_lt (g := gb796) (o := .cells #[.int .i64 a0_0, .slice A0_1 l0_1.length c0_1] 24 (0, 0)) (bR_ BK796.out)) : gb796 ≠ gb811)); have NB811_796 := Z_ ((by rw [hg]; exact Nat.ne_of_gt (blk_lt (g := gb796) (o := .cells #[.int .i64 a0_0, .slice A0_1 l0_1.length c0_1] 24 (0, 0)) (bR_ BK796.out)) : gb811 ≠ gb796)); replace BK796 := Z_ (bB_ (g := gb796) (o := .cells #[.int .i64 a0_0, .slice A0_1 l0_1.length c0_1] 24 (0, 0)) (bR_ BK796.out) hb); clear hb hbox hg; obtain ⟨Ao13, co13, eo13⟩ := rS_ HO803.out; subst eo13; have hnb14 := NB811_796.out; have hnc14 := NB796_811.out; obtain ⟨⟨hcz15_0, hcz15_1, hcz15_2⟩, hfz15_0, hfz15_1, hfz15_2⟩ := f3_ BK811.out; obtain ⟨Ao16, co16, eo16⟩ := rS_ HO806.out; subst eo16; obtain ⟨Ao17, co17, eo17⟩ := rS_ HO809.out; subst eo17)); (try simp only [Act.put, sT_, sZ_, sS_])
  have H := HF9.out; clear HF9; by_cases c18 : t810 ≥ 0
  ·rw [if_pos c18] at H
   have c18b0 : decide (0 ≤ t810) = true := eT_ c18; clear c18; (first | rw [c18b0] | (simp only [i64_w, i32_w]; rw [c18b0]) | skip)
   simp only [oJ_, pI_] at H; obtain ⟨rfl, rfl⟩ := H; go_wp2; go_ret2; exact ⟨_, eW_, by first | exact Kd.R_nil _ _ _ _ _ | exact Kd.N_nil _ _ _ _ _ | exact Kd.V_nil _ _ _ _ _ | exact Kd.Q_nil _ _ _ _ _ | exact Kd.S_nil _ _ _ _ _, hB_⟩
  rw [if_neg c18] at H; have c18b0 : decide (0 ≤ t810) = false := eF_ c18; clear c18; (first | rw [c18b0] | (simp only [i64_w, i32_w]; rw [c18b0]) | skip)
  simp only [oJ_, pI_] at H; obtain ⟨rfl, rfl⟩ := H; go_wp2; go_ret2; exact ⟨_, eW_, by (with_reducible repeat (first | apply rN_ | apply rD_)); exact rM_ (rF_ (p := ⟨gb811, 2, none⟩) (rF_ (p := ⟨gb811, 1, none⟩) (rF_ (p := ⟨gb811, 0, none⟩) (Kd.R_types HO800.out BK811.out (by decide)) (fun _ hk => hk.2) (.slice Ao13 t801.length co13)) (fun _ hk => hk.2) (.slice Ao16 t804.length co16)) (fun _ hk => hk.2) (.slice Ao17 t807.length co17)) (fun _ hk => trivial), hB_⟩
 rw [if_neg c7] at H; obtain ⟨c7b0, c7b1⟩ := bn_ c7; (first | rw [c7b0] | (simp only [i64_w, i32_w]; rw [c7b0]) | skip)
 simp only [oJ_, pI_] at H; obtain ⟨rfl, rfl⟩ := H; go_wp2; go_ret2; exact ⟨_, eW_, by first | exact Kd.R_nil _ _ _ _ _ | exact Kd.N_nil _ _ _ _ _ | exact Kd.V_nil _ _ _ _ _ | exact Kd.Q_nil _ _ _ _ _ | exact Kd.S_nil _ _ _ _ _, hB_⟩
def diffs_numbers.f (a0 : Int) (l1 : List Int) : Option (Bool) := if (l1.length : Int) = a0 then ((cf122.f l1).bind fun t1126 => (some (!t1126))) else (some false)
set_option maxHeartbeats 8000000 in
set_option maxRecDepth 100000 in
theorem diffs_numbers.calls (a0 : Int) (A1 : Option Addr) (c1 : Nat) (l1 : List Int) (r : Bool) (w : World) (hr1 : Kd.C (Kd.int .i64) w A1 l1.length l1) (hc1 : l1.length ≤ c1) (h : diffs_numbers.f a0 l1 = some r) :
  Calls Try.prog 104 #[.int .i64 a0, .slice A1 l1.length c1] w fun e w' => e = .returned (.bool r) ∧ Below w.heap.size w w' := by
 have HR1 := Z_ hr1; have HC1 := Z_ hc1; clear hr1 hc1; have HB := Z_ (Below.refl w.heap.size w); have H : (if (l1.length : Int) = a0 then ((cf122.f l1).bind fun t1126 => (some (!t1126))) else (some false)) = some r := h; clear h; by_cases c3 : (l1.length : Int) = a0
 ·rw [if_pos c3] at H
  have c3b0 : ((l1.length : Int) == a0) = true := beq_iff_eq.mpr c3; have c3b1 : ((l1.length : Int) != a0) = false := bne_eq_false_iff_eq.mpr c3; clear c3; replace H := oS_.mp H; obtain ⟨t1126, A40, H⟩ := H; have A4 := Z_ A40; clear A40; obtain rfl := oI_ H; go_enter Try.func104, Try.ntmps104; go_wp2_with (first | (go_at_call 57; (with_reducible refine (cf122.calls _ _ l1 t1126 _ ?side1 ?side2 A4.out).mono ?_); (case side1 => exact cS_ HR1.out); (case side2 => exact HC1.out); rintro e w5 ⟨rfl, hb⟩; replace HB := Z_ (fS_ hB_ hb); (try clear hb); (try clear hb2); (try clear hk); (try clear hi))); go_ret; exact ⟨eW_, hB_⟩
 rw [if_neg c3] at H; have c3b0 : ((l1.length : Int) == a0) = false := beq_eq_false_iff_ne.mpr c3; have c3b1 : ((l1.length : Int) != a0) = true := bne_iff_ne.mpr c3; obtain rfl := oI_ H; go_enter Try.func104, Try.ntmps104; go_wp2; go_ret; exact ⟨eW_, hB_⟩
def diffs_Holds.f (k : Nat) (a0_0 : Int) (l0_1 : List (S39)) (l1 : List Int) : Option (Bool × Int) := (diffs_numbers.f a0_0 l1).bind fun t1175 => ((diffs_asked.f k a0_0 l0_1 (([t1175] : List Bool))).bind fun t1179 => (if t1179 = 0 then ((diffs_holds.f a0_0 l0_1 l1).bind fun t1180 => (some (t1180, 0))) else (some (false, t1179))))
theorem diffs_Holds.mono : ∀ a0 a1 a2 k, LeO (diffs_Holds.f k a0 a1 a2) (diffs_Holds.f (k + 1) a0 a1 a2) := by
 intro a0 a1 a2 k; unfold diffs_Holds.f; repeat' first | (with_reducible first | exact diffs_asked.mono _ _ _ _ | exact LeO.refl _ | exact LeO.none _ | refine LeO.ite ?_ ?_ | refine LeO.bind ?_ (fun _ => ?_)) | exact diffs_asked.mono _ _ _ _ | exact LeO.none _ | refine LeO.ite ?_ ?_ | refine LeO.bind ?_ (fun _ => ?_)
def diffs_Holds.T1 : Bool × List (List Nat × List Nat) := (true, [([], []), ([], []), ([1], [1]), ([], []), ([2, 3], [2, 3]), ([4], [4]), ([0, 5, 4], [0, 5]), ([6, 6, 0, 1, 2, 3, 4, 5, 6], [6])])
def diffs_Holds.B1 : List Nat := [0, 0, 2, 0, 14, 30, 63, 127]
theorem diffs_Holds.tab1 : rtab .any (opsOf Try.f56 1) = diffs_Holds.T1 := by kernel_rfl
theorem diffs_Holds.bits1 : waitsOk diffs_Holds.T1.2 diffs_Holds.B1 = true := by kernel_rfl
set_option maxHeartbeats 8000000 in
set_option maxRecDepth 100000 in
theorem diffs_Holds.calls (k : Nat) (a0_0 : Int) (A0_1 : Option Addr) (c0_1 : Nat) (l0_1 : List (S39)) (A1 : Option Addr) (c1 : Nat) (l1 : List Int) (r1 : Bool) (r2 : Int) (w : World) (hr0_1 : Kd.C k39 w A0_1 l0_1.length l0_1) (hc0_1 : l0_1.length ≤ c0_1) (hr1 : Kd.C (Kd.int .i64) w A1 l1.length l1) (hc1 : l1.length ≤ c1) (h : diffs_Holds.f k a0_0 l0_1 l1 = some (r1, r2)) :
  Calls Try.prog 56 #[.agg #[.int .i64 a0_0, .slice A0_1 l0_1.length c0_1], .slice A1 l1.length c1] w fun e w' => e = .returned (.tuple #[.bool r1, .int .i64 r2]) ∧ Below w.heap.size w w' := by
 have hu24 := Try.underlying24; have HR0_1 := Z_ hr0_1; have HC0_1 := Z_ hc0_1; clear hr0_1 hc0_1; have HR1 := Z_ hr1; have HC1 := Z_ hc1; clear hr1 hc1; have HB := Z_ (Below.refl w.heap.size w); have H : ((diffs_numbers.f a0_0 l1).bind fun t1175 => ((diffs_asked.f k a0_0 l0_1 (([t1175] : List Bool))).bind fun t1179 => (if t1179 = 0 then ((diffs_holds.f a0_0 l0_1 l1).bind fun t1180 => (some (t1180, 0))) else (some (false, t1179))))) = some (r1, r2) := h; clear h; replace H := oS_.mp H; obtain ⟨t1175, A30, H⟩ := H; have A3 := Z_ A30; clear A30; obtain ⟨y1176, hy1176⟩ : ∃ y_ : List Bool, y_ = (([t1175] : List Bool)) := ⟨_, rfl⟩; replace H : ((diffs_asked.f k a0_0 l0_1 y1176).bind fun t1179 => (if t1179 = 0 then ((diffs_holds.f a0_0 l0_1 l1).bind fun t1180 => (some (t1180, 0))) else (some (false, t1179)))) = some (r1, r2) := by first | (rw [hy1176]; with_reducible exact H) | (have H2_ := (oB_ _ _).symm.trans H; rw [hy1176]; with_reducible exact H2_) | (have H2_ := (oB_ _ _).symm.trans H; with_reducible exact H2_) | with_reducible exact H | (rw [hy1176]; exact H) | exact H
 have Ny1176 := Z_ hy1176; clear hy1176; replace H := oS_.mp H; obtain ⟨t1179, A40, H⟩ := H; have A4 := Z_ A40; clear A40; have HF5 := Z_ H; clear H; go_enter Try.func56, Try.ntmps56; try go_wp2_with (first | ((with_reducible refine gate_dst (N := 2) rfl ?_); refine bX_ 2 #[.int .i64 a0_0, .slice A0_1 l0_1.length c0_1] 24 ?_; intro gb1174 hg w6 hbox hb; have BK1174 := Z_ (hbox); have GW1174 := Z_ ((by rw [hg]; exact (fZ_ hB_) : w.heap.size ≤ gb1174)); have GE1174 := Z_ ((by rw [hg]; exact (fZ_ hB_) : w.heap.size ≤ gb1174)); replace HB := Z_ (fS_ hB_ hb); clear hb hbox hg))
 replace BK1174 := Z_ (bD_ BK1174.out); replace HB := Z_ (fD_ HB.out); refine start_ (n := 8) (S := fun w' => w'.cell? ⟨gb1174, 0, none⟩ = some (.int .i64 a0_0) ∧ w'.cell? ⟨gb1174, 1, none⟩ = some (.slice A0_1 l0_1.length c0_1)) (ds := []) #[false, false, false, false, false, false, false, false] (by kernel_rfl) rfl rfl ⟨(bC_ BK1174.out 0).trans rfl, (bC_ BK1174.out 1).trans rfl⟩ (fun hHeld => ?_); refine with_tabW diffs_Holds.tab1 diffs_Holds.bits1 (fun HT_ HW_ => ?_); generalize w6.drew = w7 at BK1174 HB hHeld ⊢; refine pP_ 1 8 ?_; refine pP_ 3 10 ?_; refine pT_ 0 7 ?_; refine pT_ 2 9 ?_; refine oN_ 4 (some 11) (fun K hK => ?_); refine gO_ Try.func104 #[.int .i64 a0_0, .slice A1 l1.length c1] ?_; with_reducible refine (diffs_numbers.calls a0_0 _ _ l1 t1175 _ ?side1 ?side2 A3.out).mono ?_
 (case side1 => exact cS_ (cB_ HR1.out HB.out))
 (case side2 => exact HC1.out)
 rintro e w8 ⟨rfl, hb⟩; refine ⟨_, rfl, ?_⟩; replace BK1174 := Z_ (bB_ (g := gb1174) (o := .cells #[.int .i64 a0_0, .slice A0_1 l0_1.length c0_1] 24 (0, 0)) (bR_ BK1174.out) hb); replace HB := Z_ (fS_ hB_ hb); (try clear hb)
 (try clear hb2)
 (try clear hk)
 (try clear hi)
 refine hK.out _ _ ⟨(bC_ BK1174.out 0).trans rfl, (bC_ BK1174.out 1).trans rfl⟩ (fun hHeld => ?_); clear hK K; refine nP_ 11 ?_; refine oN_ 5 (some 12) (fun K hK => ?_); refine Kd.R_lit_step Kd.bool _ 4 ?hg (N := 12) ?hd (xs := ([t1175] : List Bool)) (inner := [.bool t1175]) (ok := fun _ => True) (okp := fun _ => True) ?hr ?hp (fun _ hk => hk) trivial (Below.refl _ _) (nR_ _) (by simp) ?_; (case hd => rfl); (case hg => rfl); (case hr => first | (go_simp; done) | (go_simp; rfl)); (case hp => exact (Reps.one (show Kd.M Kd.bool _ _ _ t1175 [.bool t1175] from rfl) (Reps.none _ _))); intro v1177 w9 ho10 hb hg_ hnew_; clear hg_ hnew_; (first | rw [← Ny1176.out] at ho10 | (simp only [Int.reduceToNat] at ho10; rw [← Ny1176.out] at ho10))
 have HO1178 := Z_ (rL_ ho10 (fZ_ hB_)); replace BK1174 := Z_ (bB_ (g := gb1174) (o := .cells #[.int .i64 a0_0, .slice A0_1 l0_1.length c0_1] 24 (0, 0)) (bR_ BK1174.out) hb); replace HB := Z_ (fS_ hB_ hb); clear hb ho10; obtain ⟨Ao11, co11, eo11⟩ := rS_ HO1178.out; (first | subst eo11 | (injection eo11 with f1_ f2_ f3_; have f4_ := f1_.symm; have f5_ := f3_.symm; clear f1_ f2_ f3_; subst f4_; subst f5_))
 refine hK.out _ _ ⟨(bC_ BK1174.out 0).trans rfl, (bC_ BK1174.out 1).trans rfl⟩ (fun hHeld => ?_); clear hK K; refine nP_ 12 ?_; refine oN_ 6 (some 13) (fun K hK => ?_); refine gO_ Try.func77 #[.agg #[.int .i64 a0_0, .slice A0_1 l0_1.length c0_1], .slice Ao11 y1176.length co11] ?_; with_reducible refine (diffs_asked.calls k a0_0 _ _ l0_1 _ _ y1176 t1179 _ ?side1 ?side2 ?side3 ?side4 A4.out).mono ?_
 (case side1 => exact cS_ (cB_ HR0_1.out HB.out))
 (case side2 => exact HC0_1.out)
 (case side3 => repeat (first | exact (rR_ HO1178.out).2.2 | (with_reducible refine Kd.C_alloc ?_ _) | (with_reducible refine Kd.C_drewN ?_ _) | (with_reducible refine Kd.C_drew ?_)))
 (case side4 => exact (rR_ HO1178.out).2.1)
 rintro e w12 ⟨rfl, hb⟩; refine ⟨_, rfl, ?_⟩; replace HO1178 := Z_ (rB_ (rK_ HO1178.out) hb); replace BK1174 := Z_ (bB_ (g := gb1174) (o := .cells #[.int .i64 a0_0, .slice A0_1 l0_1.length c0_1] 24 (0, 0)) (bR_ BK1174.out) hb); replace HB := Z_ (fS_ hB_ hb); (try clear hb)
 (try clear hb2)
 (try clear hk)
 (try clear hi)
 refine hK.out _ _ ⟨(bC_ BK1174.out 0).trans rfl, (bC_ BK1174.out 1).trans rfl⟩ (fun hHeld => ?_); clear hK K; refine nP_ 13 ?_; refine pP_ 7 6 ?_; refine dN_ ?_; go_upto_if 15 with (fail); have H := HF5.out; clear HF5; by_cases c13 : t1179 = 0
 ·rw [if_pos c13] at H
  obtain ⟨c13b0, c13b1⟩ := be_ c13; clear c13; (first | rw [c13b0] | (simp only [i64_w, i32_w]; rw [c13b0]) | skip)
  replace H := oS_.mp H; obtain ⟨t1180, A140, H⟩ := H; have A14 := Z_ A140; clear A140; simp only [oJ_, pI_] at H; obtain ⟨rfl, rfl⟩ := H; obtain ⟨⟨hcz15_0, hcz15_1⟩, hfz15_0, hfz15_1⟩ := f2_ BK1174.out; go_wp2_with (first | ((with_reducible refine gate_callee (f := 105) rfl ?_); refine gL_ (some 19) Try.func105 #[.agg #[.int .i64 a0_0, .slice A0_1 l0_1.length c0_1], .slice A1 l1.length c1] ?_; (with_reducible refine (diffs_holds.calls a0_0 _ _ l0_1 _ _ l1 t1180 _ ?side1 ?side2 ?side3 ?side4 A14.out).mono ?_); (case side1 => exact cS_ (cB_ HR0_1.out HB.out)); (case side2 => exact HC0_1.out); (case side3 => exact cS_ (cB_ HR1.out HB.out)); (case side4 => exact HC1.out); rintro e w16 ⟨rfl, hb⟩; refine ⟨_, rfl, ?_⟩; replace HO1178 := Z_ (rB_ (rK_ HO1178.out) hb); replace BK1174 := Z_ (bB_ (g := gb1174) (o := .cells #[.int .i64 a0_0, .slice A0_1 l0_1.length c0_1] 24 (0, 0)) (bR_ BK1174.out) hb); replace HB := Z_ (fS_ hB_ hb); (try clear hb); (try clear hb2); (try clear hk); (try clear hi))); go_ret2; exact ⟨eW_, hB_⟩
 rw [if_neg c13] at H; obtain ⟨c13b0, c13b1⟩ := bn_ c13; (first | rw [c13b0] | (simp only [i64_w, i32_w]; rw [c13b0]) | skip)
 simp only [oJ_, pI_] at H; obtain ⟨rfl, rfl⟩ := H; go_wp2; go_ret2; exact ⟨eW_, hB_⟩
end Go.Proofs.Ytpolojoeabmhdaa.A
/- Holds, Solve: what they answer. -/
namespace Go.Proofs.Ytpolojoeabmhdaa.A
open Go.RowKit Go.Proofs.YtpolojoeabmhdaaW.PrintWords Go.Proofs.YtpolojoeabmhdaaW.PrintLast Go.Proofs.YtpolojoeabmhdaaW.PrintMore
theorem numbers_some (n : Int) (x : List Int) : ∃ b, diffs_numbers.f n x = some b ∧ (b = true ↔ NumOk n x) := by
  unfold diffs_numbers.f
  by_cases c : (x.length : Int) = n
  · rw [if_pos c]
    unfold cf122.f
    refine ⟨_, rfl, ?_⟩
    rw [Bool.not_eq_true', List.any_eq_false]
    constructor
    · intro h
      refine ⟨c, fun v v0 v1 => ?_⟩
      have := h (rd x v) (rd_mem v0 (by omega))
      simpa [in_] using this
    · intro h y hy
      obtain ⟨v, v0, v1, rfl⟩ := mem_rd hy
      have := h.b v v0 (by omega)
      simp [in_, this.1, this.2]
  · rw [if_neg c]
    exact ⟨false, rfl, fun h => (by cases h), fun h => absurd h.l c⟩
section
variable {n : Nat} {L : List S39}
theorem holds_some (hV : Valid n L) {x : List Int} (hx : NumOk n x) : ∃ b, diffs_holds.f n L x = some b ∧ (b = true ↔ Ful n L x) := by
  have hn1 := hV.n1
  have hl := hx.l
  have hE := edges_mem hV.e
  unfold diffs_holds.f
  rw [if_neg (by omega)]
  by_cases c : rd x 0 = 0
  · have hok : L.all (holdsOk x) = true := by
      rw [List.all_eq_true]
      intro d hd
      have he := hE d hd
      have b0 := hx.b _ he.a he.b
      have b1 := hx.b _ he.c he.g
      unfold holdsOk
      simp only [Bool.and_eq_true, decide_eq_true_eq]
      have h1 := he.a
      have h2 := he.b
      have h3 := he.c
      have h4 := he.g
      exact ⟨⟨⟨⟨⟨h1, by omega⟩, h3⟩, by omega⟩, by omega⟩, by omega⟩
    rw [if_pos c, if_pos hok]
    refine ⟨_, rfl, ?_⟩
    rw [List.all_eq_true]
    constructor
    · intro h
      refine ⟨hl, by omega, c, hx.b, fun k k0 k1 => ?_⟩
      have he := hV.e k k0 k1
      have hm : rd_T39 L k ∈ L := by
        unfold rd_T39
        rw [List.getD_eq_getElem?_getD, List.getElem?_eq_getElem (by omega)]; exact List.getElem_mem _
      exact ⟨he.a, he.b, he.c, he.g, by simpa using h _ hm⟩
    · intro h d hd
      obtain ⟨i, hi, rfl⟩ := List.getElem_of_mem hd
      have := (h.e i (by omega) (by omega)).2.2.2.2
      unfold rd_T39 at this
      rw [List.getD_eq_getElem?_getD, Int.toNat_natCast, List.getElem?_eq_getElem hi] at this
      exact decide_eq_true this
  · rw [if_neg c]
    exact ⟨false, rfl, fun h => (by cases h), fun h => absurd h.z c⟩
theorem holds_ev (hV : Valid n L) (x : List Int) : ∃ b e, Ev (fun k => diffs_Holds.f k n L x) (b, e) ∧ (b = true ↔ Ful n L x) ∧ (¬ NumOk n x → e = 1) ∧ (NumOk n x → e = 0) := by
  obtain ⟨p, p1, p2⟩ := numbers_some n x
  have hask := asked_ev n L [p] (by simp)
  rw [if_pos (validB_iff.2 hV)] at hask
  unfold diffs_Holds.f
  rw [p1]
  simp only [Option.bind_some]
  cases p with
  | false => exact ⟨false, 1, hask.bind (Ev.neg (by decide) (Ev.now _)), ⟨fun h => (by cases h), fun h => p2.2 h.num⟩, fun _ => rfl, fun h => absurd (p2.2 h) (by decide)⟩
  | true =>
    have hx := p2.1 rfl
    obtain ⟨b, b1, b2⟩ := holds_some hV hx
    rw [b1]
    exact ⟨b, 0, hask.bind (Ev.pos (by decide) (Ev.now _)), b2, fun h => absurd hx h, fun _ => rfl⟩
theorem holds_bad {m : Int} (hv : ¬ validB m L = true) (x : List Int) : Ev (fun k => diffs_Holds.f k m L x) (false, 40) := by
  obtain ⟨p, p1, p2⟩ := numbers_some m x
  have hask := asked_ev m L [p] (by simp)
  rw [if_neg hv] at hask
  unfold diffs_Holds.f
  rw [p1]
  simp only [Option.bind_some]
  exact hask.bind (Ev.neg (by decide) (Ev.now _))
theorem dsolve_ev (hV : Valid n L) : ∃ x e, Ev (fun k => diffs_Solve.f k n L) (x, e) ∧ (Solv L → e = 0 ∧ Ful n L x) ∧ (¬ Solv L → e = 41 ∧ x = []) := by
  have hn0 : 0 < n := by have := hV.n1; omega
  have hn : n ≤ 256 := by have := hV.n2; omega
  have hc := check_ev n L
  rw [if_pos (validB_iff.2 hV)] at hc
  unfold diffs_Solve.f
  by_cases hs : Solv L
  · obtain ⟨x, s, h1, h2⟩ := solve_ful hn0 hn hV.e (hmul hV) hs
    exact ⟨x, 0, hc.bind (Ev.pos rfl (h1.bind (Ev.neg (by simp) (Ev.now _)))), fun _ => ⟨rfl, h2⟩, fun h => absurd hs h⟩
  · obtain ⟨x, s, bad, h1, h2, h3, h4, h5⟩ := solve_ev hn0 (by omega) hV.e (hmul hV)
    have hb : ¬ bad = -1 := fun e => hs ((h2.bad_iff hV.e (fun v a b => mem_allL.2 ⟨a, b⟩)).1 e)
    exact ⟨[], 41, hc.bind (Ev.pos rfl (h3.bind (Ev.pos (by rcases h2.res with ⟨a, _⟩ | ⟨a, _⟩; exact absurd a hb; exact a) (Ev.now _)))), fun h => absurd h hs, fun _ => ⟨rfl, rfl⟩⟩
theorem dsolve_bad {m : Int} (hv : ¬ validB m L = true) : Ev (fun k => diffs_Solve.f k m L) ([], 40) := by
  have hc := check_ev m L
  rw [if_neg hv] at hc
  unfold diffs_Solve.f
  exact hc.bind (Ev.neg (by decide) (Ev.now _))
end
end Go.Proofs.Ytpolojoeabmhdaa.A
namespace Go.Proofs.Ytpolojoeabmhdaa.A
open Go.RowKit Go.Proofs.YtpolojoeabmhdaaW.PrintWords Go.Proofs.YtpolojoeabmhdaaW.PrintLast Go.Proofs.YtpolojoeabmhdaaW.PrintMore
attribute [local go_sem] max2_int min2_int max_two min_two max_three min_three max_four min_four
mutual
def diffs_Higher.j0 : Nat → List Int → List Int → Bool → Option (List Int × Int)
 | 0, _, _, _ => none
 | k + 1, x1, x2, x35 => if x35 = true then (some (([] : List Int), 43)) else ((slices_Clone_int_int.f x1).bind fun t1136 => (diffs_Higher.l0 k t1136 x2 (x2.length : Int) 0))
def diffs_Higher.l0 : Nat → List Int → List Int → Int → Int → Option (List Int × Int)
 | 0, _, _, _, _ => none
 | k + 1, x9, x38, x39, x40 => if x40 < x39 then (if 0 ≤ x40 then (if x40 < (x38.length : Int) then (if x40 < (x9.length : Int) then (diffs_Higher.l0 k (x9.set (x40 : Int).toNat (mx (rd x9 x40) (rd x38 x40))) x38 x39 (wrap64 (x40 + 1))) else (none)) else (none)) else (none)) else (some (x9, 0))
end
def diffs_Higher.f (k : Nat) (a0_0 : Int) (l0_1 : List (S39)) (l1 : List Int) (l2 : List Int) : Option (List Int × Int) := (diffs_numbers.f a0_0 l1).bind fun t1128 => ((diffs_numbers.f a0_0 l2).bind fun t1129 => ((diffs_asked.f k a0_0 l0_1 (([t1128, t1129] : List Bool))).bind fun t1133 => (if t1133 = 0 then ((diffs_holds.f a0_0 l0_1 l1).bind fun t1134 => (if t1134 = true then ((diffs_holds.f a0_0 l0_1 l2).bind fun t1135 => (diffs_Higher.j0 k l1 l2 (!t1135))) else (diffs_Higher.j0 k l1 l2 true))) else (some (([] : List Int), t1133)))))
theorem diffs_Higher.mono_l : ∀ k, (∀ y0 y1 y2, LeO (diffs_Higher.j0 k y0 y1 y2) (diffs_Higher.j0 (k + 1) y0 y1 y2)) ∧ (∀ y0 y1 y2 y3, LeO (diffs_Higher.l0 k y0 y1 y2 y3) (diffs_Higher.l0 (k + 1) y0 y1 y2 y3))
 | 0 => ⟨fun _ _ _ r h => by simp [diffs_Higher.j0] at h, fun _ _ _ _ r h => by simp [diffs_Higher.l0] at h⟩
 | k + 1 => by
  obtain ⟨ih0, ih1⟩ := diffs_Higher.mono_l k; refine ⟨?_, ?_⟩ <;> intros <;> (first | unfold diffs_Higher.j0 | unfold diffs_Higher.l0) <;> repeat' first | (with_reducible first | exact ih0 _ _ _ | exact ih1 _ _ _ _ | exact diffs_asked.mono _ _ _ _ | exact LeO.refl _ | exact LeO.none _ | refine LeO.ite ?_ ?_ | refine LeO.bind ?_ (fun _ => ?_)) | exact ih0 _ _ _ | exact ih1 _ _ _ _ | exact diffs_asked.mono _ _ _ _ | exact LeO.none _ | refine LeO.ite ?_ ?_ | refine LeO.bind ?_ (fun _ => ?_)
theorem diffs_Higher.mono : ∀ a0 a1 a2 a3 k, LeO (diffs_Higher.f k a0 a1 a2 a3) (diffs_Higher.f (k + 1) a0 a1 a2 a3) := by
 intro a0 a1 a2 a3 k; obtain ⟨ih0, ih1⟩ := diffs_Higher.mono_l k; unfold diffs_Higher.f; repeat' first | (with_reducible first | exact ih0 _ _ _ | exact ih1 _ _ _ _ | exact diffs_asked.mono _ _ _ _ | exact LeO.refl _ | exact LeO.none _ | refine LeO.ite ?_ ?_ | refine LeO.bind ?_ (fun _ => ?_)) | exact ih0 _ _ _ | exact ih1 _ _ _ _ | exact diffs_asked.mono _ _ _ _ | exact LeO.none _ | refine LeO.ite ?_ ?_ | refine LeO.bind ?_ (fun _ => ?_)
def diffs_Higher.T1 : Bool × List (List Nat × List Nat) := (true, [([], []), ([], []), ([1], [1]), ([], []), ([2, 3], [2, 3]), ([], []), ([5], [5]), ([], []), ([6, 7, 4], [6, 7]), ([4, 8], [4, 8]), ([0, 9, 8], [0, 9]), ([10, 10, 0, 1, 2, 3, 4, 5, 6, 7, 8, 9, 10], [10])])
def diffs_Higher.B1 : List Nat := [0, 0, 2, 0, 14, 0, 32, 0, 254, 510, 1023, 2047]
theorem diffs_Higher.tab1 : rtab .any (opsOf Try.f55 1) = diffs_Higher.T1 := by kernel_rfl
theorem diffs_Higher.bits1 : waitsOk diffs_Higher.T1.2 diffs_Higher.B1 = true := by kernel_rfl
set_option maxHeartbeats 8000000 in
set_option maxRecDepth 100000 in
theorem diffs_Higher.calls (k : Nat) (a0_0 : Int) (A0_1 : Option Addr) (c0_1 : Nat) (l0_1 : List (S39)) (A1 : Option Addr) (c1 : Nat) (l1 : List Int) (A2 : Option Addr) (c2 : Nat) (l2 : List Int) (r1 : List Int) (r2 : Int) (w : World) (hr0_1 : Kd.C k39 w A0_1 l0_1.length l0_1) (hc0_1 : l0_1.length ≤ c0_1) (hr1 : Kd.C (Kd.int .i64) w A1 l1.length l1) (hc1 : l1.length ≤ c1) (hr2 : Kd.C (Kd.int .i64) w A2 l2.length l2) (hc2 : l2.length ≤ c2) (h : diffs_Higher.f k a0_0 l0_1 l1 l2 = some (r1, r2)) :
  Calls Try.prog 55 #[.agg #[.int .i64 a0_0, .slice A0_1 l0_1.length c0_1], .slice A1 l1.length c1, .slice A2 l2.length c2] w fun e w' => ∃ v0_ : Value, e = .returned (.tuple #[v0_, .int .i64 r2]) ∧ Kd.R (Kd.int .i64) 3 w' w.heap.size (fun _ => True) v0_ r1 ∧ Below w.heap.size w w' := by
 have hu24 := Try.underlying24; have HR0_1 := Z_ hr0_1; have HC0_1 := Z_ hc0_1; clear hr0_1 hc0_1; have HR1 := Z_ hr1; have HC1 := Z_ hc1; clear hr1 hc1; have HR2 := Z_ hr2; have HC2 := Z_ hc2; clear hr2 hc2; have HB := Z_ (Below.refl w.heap.size w); have H : ((diffs_numbers.f a0_0 l1).bind fun t1128 => ((diffs_numbers.f a0_0 l2).bind fun t1129 => ((diffs_asked.f k a0_0 l0_1 (([t1128, t1129] : List Bool))).bind fun t1133 => (if t1133 = 0 then ((diffs_holds.f a0_0 l0_1 l1).bind fun t1134 => (if t1134 = true then ((diffs_holds.f a0_0 l0_1 l2).bind fun t1135 => (diffs_Higher.j0 k l1 l2 (!t1135))) else (diffs_Higher.j0 k l1 l2 true))) else (some (([] : List Int), t1133)))))) = some (r1, r2) := h; clear h; replace H := oS_.mp H; obtain ⟨t1128, A40, H⟩ := H; have A4 := Z_ A40; clear A40; replace H := oS_.mp H; obtain ⟨t1129, A50, H⟩ := H; have A5 := Z_ A50; clear A50; obtain ⟨y1130, hy1130⟩ : ∃ y_ : List Bool, y_ = (([t1128, t1129] : List Bool)) := ⟨_, rfl⟩; replace H : ((diffs_asked.f k a0_0 l0_1 y1130).bind fun t1133 => (if t1133 = 0 then ((diffs_holds.f a0_0 l0_1 l1).bind fun t1134 => (if t1134 = true then ((diffs_holds.f a0_0 l0_1 l2).bind fun t1135 => (diffs_Higher.j0 k l1 l2 (!t1135))) else (diffs_Higher.j0 k l1 l2 true))) else (some (([] : List Int), t1133)))) = some (r1, r2) := by first | (rw [hy1130]; with_reducible exact H) | (have H2_ := (oB_ _ _).symm.trans H; rw [hy1130]; with_reducible exact H2_) | (have H2_ := (oB_ _ _).symm.trans H; with_reducible exact H2_) | with_reducible exact H | (rw [hy1130]; exact H) | exact H
 have Ny1130 := Z_ hy1130; clear hy1130; replace H := oS_.mp H; obtain ⟨t1133, A60, H⟩ := H; have A6 := Z_ A60; clear A60; have HF7 := Z_ H; clear H; go_enter Try.func55, Try.ntmps55; try go_wp2_with (first | ((with_reducible refine gate_dst (N := 3) rfl ?_); refine bX_ 3 #[.int .i64 a0_0, .slice A0_1 l0_1.length c0_1] 24 ?_; intro gb1127 hg w8 hbox hb; have BK1127 := Z_ (hbox); have GW1127 := Z_ ((by rw [hg]; exact (fZ_ hB_) : w.heap.size ≤ gb1127)); have GE1127 := Z_ ((by rw [hg]; exact (fZ_ hB_) : w.heap.size ≤ gb1127)); replace HB := Z_ (fS_ hB_ hb); clear hb hbox hg))
 replace BK1127 := Z_ (bD_ BK1127.out); replace HB := Z_ (fD_ HB.out); refine start_ (n := 12) (S := fun w' => w'.cell? ⟨gb1127, 0, none⟩ = some (.int .i64 a0_0) ∧ w'.cell? ⟨gb1127, 1, none⟩ = some (.slice A0_1 l0_1.length c0_1)) (ds := []) #[false, false, false, false, false, false, false, false, false, false, false, false] (by kernel_rfl) rfl rfl ⟨(bC_ BK1127.out 0).trans rfl, (bC_ BK1127.out 1).trans rfl⟩ (fun hHeld => ?_); refine with_tabW diffs_Higher.tab1 diffs_Higher.bits1 (fun HT_ HW_ => ?_); generalize w8.drew = w9 at BK1127 HB hHeld ⊢; refine pP_ 1 13 ?_; refine pP_ 3 15 ?_; refine pP_ 5 17 ?_; refine pP_ 7 19 ?_; refine pT_ 0 12 ?_; refine pT_ 2 14 ?_; refine pT_ 6 18 ?_; refine oN_ 4 (some 16) (fun K hK => ?_); refine gO_ Try.func104 #[.int .i64 a0_0, .slice A1 l1.length c1] ?_; with_reducible refine (diffs_numbers.calls a0_0 _ _ l1 t1128 _ ?side1 ?side2 A4.out).mono ?_
 (case side1 => exact cS_ (cB_ HR1.out HB.out))
 (case side2 => exact HC1.out)
 rintro e w10 ⟨rfl, hb⟩; refine ⟨_, rfl, ?_⟩; replace BK1127 := Z_ (bB_ (g := gb1127) (o := .cells #[.int .i64 a0_0, .slice A0_1 l0_1.length c0_1] 24 (0, 0)) (bR_ BK1127.out) hb); replace HB := Z_ (fS_ hB_ hb); (try clear hb)
 (try clear hb2)
 (try clear hk)
 (try clear hi)
 refine hK.out _ _ ⟨(bC_ BK1127.out 0).trans rfl, (bC_ BK1127.out 1).trans rfl⟩ (fun hHeld => ?_); clear hK K; refine nP_ 16 ?_; refine oN_ 8 (some 20) (fun K hK => ?_); refine gO_ Try.func104 #[.int .i64 a0_0, .slice A2 l2.length c2] ?_; with_reducible refine (diffs_numbers.calls a0_0 _ _ l2 t1129 _ ?side1 ?side2 A5.out).mono ?_
 (case side1 => exact cS_ (cB_ HR2.out HB.out))
 (case side2 => exact HC2.out)
 rintro e w11 ⟨rfl, hb⟩; refine ⟨_, rfl, ?_⟩; replace BK1127 := Z_ (bB_ (g := gb1127) (o := .cells #[.int .i64 a0_0, .slice A0_1 l0_1.length c0_1] 24 (0, 0)) (bR_ BK1127.out) hb); replace HB := Z_ (fS_ hB_ hb); (try clear hb)
 (try clear hb2)
 (try clear hk)
 (try clear hi)
 refine hK.out _ _ ⟨(bC_ BK1127.out 0).trans rfl, (bC_ BK1127.out 1).trans rfl⟩ (fun hHeld => ?_); clear hK K; refine nP_ 20 ?_; refine oN_ 9 (some 21) (fun K hK => ?_); refine Kd.R_lit_step Kd.bool _ 4 ?hg (N := 21) ?hd (xs := ([t1128, t1129] : List Bool)) (inner := [.bool t1128, .bool t1129]) (ok := fun _ => True) (okp := fun _ => True) ?hr ?hp (fun _ hk => hk) trivial (Below.refl _ _) (nR_ _) (by simp) ?_; (case hd => rfl); (case hg => rfl); (case hr => first | (go_simp; done) | (go_simp; rfl)); (case hp => exact (Reps.one (show Kd.M Kd.bool _ _ _ t1128 [.bool t1128] from rfl) (Reps.one (show Kd.M Kd.bool _ _ _ t1129 [.bool t1129] from rfl) (Reps.none _ _)))); intro v1131 w12 ho13 hb hg_ hnew_; clear hg_ hnew_; (first | rw [← Ny1130.out] at ho13 | (simp only [Int.reduceToNat] at ho13; rw [← Ny1130.out] at ho13))
 have HO1132 := Z_ (rL_ ho13 (fZ_ hB_)); replace BK1127 := Z_ (bB_ (g := gb1127) (o := .cells #[.int .i64 a0_0, .slice A0_1 l0_1.length c0_1] 24 (0, 0)) (bR_ BK1127.out) hb); replace HB := Z_ (fS_ hB_ hb); clear hb ho13; obtain ⟨Ao14, co14, eo14⟩ := rS_ HO1132.out; (first | subst eo14 | (injection eo14 with f1_ f2_ f3_; have f4_ := f1_.symm; have f5_ := f3_.symm; clear f1_ f2_ f3_; subst f4_; subst f5_))
 refine hK.out _ _ ⟨(bC_ BK1127.out 0).trans rfl, (bC_ BK1127.out 1).trans rfl⟩ (fun hHeld => ?_); clear hK K; refine nP_ 21 ?_; refine oN_ 10 (some 22) (fun K hK => ?_); refine gO_ Try.func77 #[.agg #[.int .i64 a0_0, .slice A0_1 l0_1.length c0_1], .slice Ao14 y1130.length co14] ?_; with_reducible refine (diffs_asked.calls k a0_0 _ _ l0_1 _ _ y1130 t1133 _ ?side1 ?side2 ?side3 ?side4 A6.out).mono ?_
 (case side1 => exact cS_ (cB_ HR0_1.out HB.out))
 (case side2 => exact HC0_1.out)
 (case side3 => repeat (first | exact (rR_ HO1132.out).2.2 | (with_reducible refine Kd.C_alloc ?_ _) | (with_reducible refine Kd.C_drewN ?_ _) | (with_reducible refine Kd.C_drew ?_)))
 (case side4 => exact (rR_ HO1132.out).2.1)
 rintro e w15 ⟨rfl, hb⟩; refine ⟨_, rfl, ?_⟩; replace HO1132 := Z_ (rB_ (rK_ HO1132.out) hb); replace BK1127 := Z_ (bB_ (g := gb1127) (o := .cells #[.int .i64 a0_0, .slice A0_1 l0_1.length c0_1] 24 (0, 0)) (bR_ BK1127.out) hb); replace HB := Z_ (fS_ hB_ hb); (try clear hb)
 (try clear hb2)
 (try clear hk)
 (try clear hi)
 refine hK.out _ _ ⟨(bC_ BK1127.out 0).trans rfl, (bC_ BK1127.out 1).trans rfl⟩ (fun hHeld => ?_); clear hK K; refine nP_ 22 ?_; refine pP_ 11 8 ?_; refine dN_ ?_; go_upto_if 24 with (fail); have H := HF7.out; clear HF7; by_cases c16 : t1133 = 0
 ·rw [if_pos c16] at H
  obtain ⟨c16b0, c16b1⟩ := be_ c16; clear c16; (first | rw [c16b0] | (simp only [i64_w, i32_w]; rw [c16b0]) | skip)
  have HC17 := Z_ H; clear H; go_upto_region 4 with (fail); go_cut [35] (fun v35 wc => ∃ (kq : Nat) (x35_16 : Bool), v35 = .bool x35_16 ∧ Aside0 (diffs_Higher.j0 kq l1 l2 x35_16 = some (r1, r2)) ∧ Aside0 (kq ≤ k) ∧ Aside0 (wc.heap[gb1127]? = some (.cells #[.int .i64 a0_0, (.slice A0_1 l0_1.length c0_1)] 24 (0, 0))) ∧ Aside0 (Below w.heap.size w wc))
  case first =>
   have H := HC17.out; clear HC17; replace H := oS_.mp H; obtain ⟨t1134, A180, H⟩ := H; have A18 := Z_ A180; clear A180; by_cases c19 : t1134 = true
   ·subst c19
    rw [if_pos rfl] at H; replace H := oS_.mp H; obtain ⟨t1135, A200, H⟩ := H; have A20 := Z_ A200; clear A200; have H' := Z_ H; clear H; obtain ⟨⟨hcz21_0, hcz21_1⟩, hfz21_0, hfz21_1⟩ := f2_ BK1127.out; go_wp2_with (first | ((with_reducible refine gate_callee (f := 105) rfl ?_); refine gL_ (some 28) Try.func105 #[.agg #[.int .i64 a0_0, .slice A0_1 l0_1.length c0_1], .slice A1 l1.length c1] ?_; (with_reducible refine (diffs_holds.calls a0_0 _ _ l0_1 _ _ l1 true _ ?side1 ?side2 ?side3 ?side4 A18.out).mono ?_); (case side1 => exact cS_ (cB_ HR0_1.out HB.out)); (case side2 => exact HC0_1.out); (case side3 => exact cS_ (cB_ HR1.out HB.out)); (case side4 => exact HC1.out); rintro e w22 ⟨rfl, hb⟩; refine ⟨_, rfl, ?_⟩; replace HO1132 := Z_ (rB_ (rK_ HO1132.out) hb); replace BK1127 := Z_ (bB_ (g := gb1127) (o := .cells #[.int .i64 a0_0, .slice A0_1 l0_1.length c0_1] 24 (0, 0)) (bR_ BK1127.out) hb); replace HB := Z_ (fS_ hB_ hb); (try clear hb); (try clear hb2); (try clear hk); (try clear hi); obtain ⟨⟨hcz23_0, hcz23_1⟩, hfz23_0, hfz23_1⟩ := f2_ BK1127.out) | (go_at_call 105; (with_reducible refine (diffs_holds.calls a0_0 _ _ l0_1 _ _ l2 t1135 _ ?side1 ?side2 ?side3 ?side4 A20.out).mono ?_); (case side1 => exact cS_ (cB_ HR0_1.out HB.out)); (case side2 => exact HC0_1.out); (case side3 => exact cS_ (cB_ HR2.out HB.out)); (case side4 => exact HC2.out); rintro e w24 ⟨rfl, hb⟩; replace HO1132 := Z_ (rB_ (rK_ HO1132.out) hb); replace BK1127 := Z_ (bB_ (g := gb1127) (o := .cells #[.int .i64 a0_0, .slice A0_1 l0_1.length c0_1] 24 (0, 0)) (bR_ BK1127.out) hb); replace HB := Z_ (fS_ hB_ hb); (try clear hb); (try clear hb2); (try clear hk); (try clear hi))); go_meet
    case rel => exact ⟨_, (!t1135), rf_, H', ⟨oL_⟩, ⟨bR_ BK1127.out⟩, ⟨hB_⟩⟩
   replace c19 := bE_.mpr c19; subst c19; have H1 : (diffs_Higher.j0 k l1 l2 true) = some (r1, r2) := by rw [if_neg (show ¬ (false = true) by decide)] at H; exact H
   clear H; have H := H1; clear H1; have H' := Z_ H; clear H; obtain ⟨⟨hcz25_0, hcz25_1⟩, hfz25_0, hfz25_1⟩ := f2_ BK1127.out; go_wp2_with (first | ((with_reducible refine gate_callee (f := 105) rfl ?_); refine gL_ (some 28) Try.func105 #[.agg #[.int .i64 a0_0, .slice A0_1 l0_1.length c0_1], .slice A1 l1.length c1] ?_; (with_reducible refine (diffs_holds.calls a0_0 _ _ l0_1 _ _ l1 false _ ?side1 ?side2 ?side3 ?side4 A18.out).mono ?_); (case side1 => exact cS_ (cB_ HR0_1.out HB.out)); (case side2 => exact HC0_1.out); (case side3 => exact cS_ (cB_ HR1.out HB.out)); (case side4 => exact HC1.out); rintro e w26 ⟨rfl, hb⟩; refine ⟨_, rfl, ?_⟩; replace HO1132 := Z_ (rB_ (rK_ HO1132.out) hb); replace BK1127 := Z_ (bB_ (g := gb1127) (o := .cells #[.int .i64 a0_0, .slice A0_1 l0_1.length c0_1] 24 (0, 0)) (bR_ BK1127.out) hb); replace HB := Z_ (fS_ hB_ hb); (try clear hb); (try clear hb2); (try clear hk); (try clear hi))); go_meet
   case rel => exact ⟨_, (true), rf_, H', ⟨oL_⟩, ⟨bR_ BK1127.out⟩, ⟨hB_⟩⟩
  case rest =>
   clear HC17; (try clear c1); (try clear c2); (try clear p2); (try clear c5); (try clear c7); (try clear c10); (try clear c16); (try clear c16b0); (try clear c16b1); (try clear c19); (try clear hcz21_0); (try clear hcz21_1); (try clear hcz23_0); (try clear hcz23_1); (try clear hcz25_0); (try clear hcz25_1); (try clear hfz21_0); (try clear hfz21_1); (try clear hfz23_0); (try clear hfz23_1); (try clear hfz25_0); (try clear hfz25_1)
   obtain ⟨kq, x35_16, rfl, HA, HJ16, BK1127, HB⟩ := hcut
   cases kq with
   | zero => exact absurd HA.out (by simp [diffs_Higher.j0])
   | succ kj16 =>
    have H := HA.out; clear HA; simp only [diffs_Higher.j0] at H; by_cases c27 : x35_16 = true
    ·subst c27
     rw [if_pos rfl] at H; simp only [oJ_, pI_] at H; obtain ⟨rfl, rfl⟩ := H; go_wp2; go_ret2; exact ⟨_, eW_, by first | exact Kd.R_nil _ _ _ _ _ | exact Kd.N_nil _ _ _ _ _ | exact Kd.V_nil _ _ _ _ _ | exact Kd.Q_nil _ _ _ _ _ | exact Kd.S_nil _ _ _ _ _, hB_⟩
    replace c27 := bE_.mpr c27; subst c27; have H1 : ((slices_Clone_int_int.f l1).bind fun t1136 => (diffs_Higher.l0 kj16 t1136 l2 (l2.length : Int) 0)) = some (r1, r2) := by rw [if_neg (show ¬ (false = true) by decide)] at H; exact H
    clear H; have H := H1; clear H1; replace H := oS_.mp H; obtain ⟨t1136, A280, H⟩ := H; have A28 := Z_ A280; clear A280; have H' := Z_ H; clear H; go_wp2_with (first | ((with_reducible refine gate_callee (f := 99) rfl ?_); refine gL_ (some 37) Try.func99 #[.slice A1 l1.length c1] ?_; (with_reducible refine (slices_Clone_int_int.calls _ _ l1 t1136 _ ?side1 ?side2 A28.out).mono ?_); (case side1 => exact cS_ (cB_ HR1.out HB.out)); (case side2 => exact HC1.out); rintro e w29 ⟨v1137, rfl, ho0, hb⟩; refine ⟨_, rfl, ?_⟩; have HO1138 := Z_ (rL_ ho0 (fZ_ hB_)); replace BK1127 := Z_ (bB_ (g := gb1127) (o := .cells #[.int .i64 a0_0, .slice A0_1 l0_1.length c0_1] 24 (0, 0)) (bR_ BK1127.out) hb); replace HB := Z_ (fS_ hB_ hb); (try clear hb); (try clear hb2); (try clear hk); (try clear hi); (try clear ho0))); go_loopg [40] kj16 (fun kq v40 w' => ∃ (x9_2 : List Int) (x40_2 : Int), v40 = .int .i64 x40_2 ∧ Aside0 (diffs_Higher.l0 kq x9_2 l2 (l2.length : Int) x40_2 = some (r1, r2)) ∧ Aside0 (kq ≤ kj16) ∧ Aside0 (Kd.R (Kd.int .i64) 3 w' w.heap.size (fun _ => True) v1137 x9_2) ∧ Aside0 (w'.heap[gb1127]? = some (.cells #[.int .i64 a0_0, (.slice A0_1 l0_1.length c0_1)] 24 (0, 0))) ∧ Aside0 (Below w.heap.size w w'))
    case atStart => exact ⟨(t1136), (0), rf_, H', ⟨nR_ _⟩, ⟨rK_ HO1138.out⟩, ⟨bR_ BK1127.out⟩, ⟨hB_⟩⟩
    case round =>
     clear H'; (try clear c1); (try clear c2); (try clear p2); (try clear c5); (try clear c7); (try clear c9); (try clear c10); (try clear c16); (try clear c16b0); (try clear c16b1); (try clear c19); (try clear c27); (try clear hcz21_0); (try clear hcz21_1); (try clear hcz23_0); (try clear hcz23_1); (try clear hcz25_0); (try clear hcz25_1); (try clear hfz21_0); (try clear hfz21_1); (try clear hfz23_0); (try clear hfz23_1); (try clear hfz25_0); (try clear hfz25_1); (try clear p2)
     obtain ⟨x9_2, x40_2, rfl, HA, HK2, HO_9, BK1127, HB⟩ := hrel
     cases gk with
     | zero => exact absurd HA.out (by simp [diffs_Higher.l0])
     | succ k2 =>
      have H := HA.out; clear HA; simp only [diffs_Higher.l0] at H; by_cases c30 : x40_2 < (l2.length : Int)
      ·rw [if_pos c30] at H
       have c30b0 : decide (x40_2 < (l2.length : Int)) = true := eT_ c30; clear c30; by_cases c31 : 0 ≤ x40_2
       ·rw [if_pos c31] at H
        have c31b0 : decide (0 ≤ x40_2) = true := eT_ c31; clear c31; by_cases c32 : x40_2 < (l2.length : Int)
        ·rw [if_pos c32] at H
         have c32b0 : decide (x40_2 < (l2.length : Int)) = true := eT_ c32; clear c32; by_cases c33 : x40_2 < (x9_2.length : Int)
         ·rw [if_pos c33] at H
          have c33b0 : decide (x40_2 < (x9_2.length : Int)) = true := eT_ c33; clear c33; obtain ⟨ji34, hji34⟩ : ∃ j_ : Int, (mx (rd x9_2 x40_2) (rd l2 x40_2)) = j_ := ⟨_, rfl⟩; replace H : (diffs_Higher.l0 k2 (x9_2.set (x40_2 : Int).toNat (ji34)) l2 (l2.length : Int) (wrap64 (x40_2 + 1))) = some (r1, r2) := by first | (rw [hji34] at H; exact H) | (simp only [hji34] at H ⊢; exact H)
          have hji34_ : (if (rd x9_2 x40_2) < (rd l2 x40_2) then (rd l2 x40_2) else (rd x9_2 x40_2)) = ji34 := hji34; obtain ⟨y1141, hy1141⟩ : ∃ y_ : List Int, y_ = (x9_2.set (x40_2 : Int).toNat (ji34)) := ⟨_, rfl⟩; replace H : (diffs_Higher.l0 k2 y1141 l2 (l2.length : Int) (wrap64 (x40_2 + 1))) = some (r1, r2) := by first | (rw [hy1141]; with_reducible exact H) | (have H2_ := (oB_ _ _).symm.trans H; rw [hy1141]; with_reducible exact H2_) | (have H2_ := (oB_ _ _).symm.trans H; with_reducible exact H2_) | with_reducible exact H | (rw [hy1141]; exact H) | exact H
          have Ny1141 := Z_ hy1141; clear hy1141; have H' := Z_ H; clear H; have p1139 : 0 ≤ (x40_2 : Int) := dT_ as_; have q1139 : x40_2 < (l2.length : Int) := dT_ as_; obtain ⟨ad1139, e1139, hx1139_0⟩ := Kd.at_int HR2.out x40_2 p1139 q1139; cases e1139
          replace hx1139_0 := (HB.out.cell (World.block_lt_of_cell? w _ hx1139_0)).trans hx1139_0; replace p1139 := eq_true p1139; replace q1139 := eq_true q1139; obtain ⟨Ao36, co36, eo36⟩ := rS_ HO_9.out; subst eo36; have p1140 : 0 ≤ (x40_2 : Int) := dT_ as_; have q1140 : x40_2 < (x9_2.length : Int) := dT_ as_; obtain ⟨ad1140, e1140, hx1140_0⟩ := Kd.at_int (rR_ HO_9.out).2.2 x40_2 p1140 q1140; cases e1140
          replace p1140 := eq_true p1140; replace q1140 := eq_true q1140; have p35 : 0 ≤ (x40_2 : Int) := dT_ as_; have q35 : (x40_2 : Int) < ((x9_2.length : Int) : Int) := dT_ as_; obtain ⟨go35, co35, eo35, gb35, gl35, cl35, HG35⟩ := Kd.R_form HO_9.out (by omega); (first | cases eo35 | (injection eo35 with ea_ en_ ec_; (first | subst ea_ | (injection ea_ with ea_; subst ea_)); subst ec_; clear en_))
          have GB35 := Z_ gb35; have GG35 := Z_ HG35; clear gb35 gl35 HG35; (first | simp only [add_plain] at hx1140_0 | skip)
          obtain ⟨hx35_0, hf35_0⟩ := Kd.R_celln 0 HO_9.out (x40_2 : Int) p35 q35; replace p35 := eq_true p35; replace q35 := eq_true q35; have HP37 := Kd.R_putg HO_9.out (x40_2 : Int) ji34; go_wp2_with (first | ((with_reducible refine gate_store (t := 3) (p := 53) rfl ?_); refine store_event (t := 3) (p := 53) (v := ?vo_w38) (w1 := (wr.setCell ⟨go35, (x40_2 : Int).toNat, none⟩ (.int .i64 ji34))) ?hg ?ho ?hn ?hr ?_; (case ho => rfl); (case hg => rfl); (case hn => rfl); (case hr => first | (go_simp; done) | (go_simp; rfl)); intro w38 hw; have hg : wr.grownBy w38 (some go35) := (by rw [hw]; exact HP37.2); have hp_ : Kd.R (Kd.int .i64) 3 w38 w.heap.size (fun _ => True) (.slice (some ⟨go35, 0, none⟩) x9_2.length co36) y1141 := (by rw [hw, Ny1141.out]; exact HP37.1); clear HP37; replace BK1127 := Z_ (blk_grown (g := gb1127) (o := .cells #[.int .i64 a0_0, .slice A0_1 l0_1.length c0_1] 24 (0, 0)) (bR_ BK1127.out) hg (Kd.R_ne HO_9.out BK1127.out (by decide))); replace HO_9 := Z_ (hp_); replace HB := Z_ ((by rw [hw]; exact fE_ (HB.out) GB35.out : Below w.heap.size w w38)); clear hg hw hp_)); go_roundg k2
          case measure => have := HJ16.out; have := HK2.out; omega
          case rel => exact ⟨(y1141), (wrap64 (x40_2 + 1)), rf_, H', ⟨by have := HJ16.out; have := HK2.out; omega⟩, ⟨rK_ HO_9.out⟩, ⟨bR_ BK1127.out⟩, ⟨hB_⟩⟩
         rw [if_neg c33] at H; exact absurd H (by simp)
        rw [if_neg c32] at H; exact absurd H (by simp)
       rw [if_neg c31] at H; exact absurd H (by simp)
      rw [if_neg c30] at H; have c30b0 : decide (x40_2 < (l2.length : Int)) = false := eF_ c30; clear c30; simp only [oJ_, pI_] at H; obtain ⟨rfl, rfl⟩ := H; go_wp2; go_ret2; exact ⟨_, eW_, rK_ HO_9.out, hB_⟩
 rw [if_neg c16] at H; obtain ⟨c16b0, c16b1⟩ := bn_ c16; (first | rw [c16b0] | (simp only [i64_w, i32_w]; rw [c16b0]) | skip)
 simp only [oJ_, pI_] at H; obtain ⟨rfl, rfl⟩ := H; go_wp2; go_ret2; exact ⟨_, eW_, by first | exact Kd.R_nil _ _ _ _ _ | exact Kd.N_nil _ _ _ _ _ | exact Kd.V_nil _ _ _ _ _ | exact Kd.Q_nil _ _ _ _ _ | exact Kd.S_nil _ _ _ _ _, hB_⟩
end Go.Proofs.Ytpolojoeabmhdaa.A
/- Higher: what it answers. -/
namespace Go.Proofs.Ytpolojoeabmhdaa.A
open Go.RowKit Go.Proofs.YtpolojoeabmhdaaW.PrintWords Go.Proofs.YtpolojoeabmhdaaW.PrintLast Go.Proofs.YtpolojoeabmhdaaW.PrintMore
section
variable {n : Nat} {L : List S39}
structure HigherIs (n : Int) (L : List S39) (x y z : List Int) (e : Int) : Prop where
  arg : ¬ (NumOk n x ∧ NumOk n y) → z = [] ∧ e = 1
  no : NumOk n x ∧ NumOk n y → ¬ (Ful n L x ∧ Ful n L y) → z = [] ∧ e = 43
  yes : Ful n L x ∧ Ful n L y → e = 0 ∧ (z.length : Int) = n ∧ ∀ v, 0 ≤ v → v < n → rd z v = mx (rd x v) (rd y v)
theorem higher_l0 {x y : List Int} (hx : x.length = n) (hy : y.length = n) (hn : n ≤ 256) : ∀ (q : Nat) (i : Int) (z : List Int), (q : Int) + i = n → 0 ≤ i → z.length = n → (∀ v, 0 ≤ v → v < (n : Int) → rd z v = if v < i then mx (rd x v) (rd y v) else rd x v) →
    ∃ z', Ev (fun k => diffs_Higher.l0 k z y y.length i) (z', 0) ∧ z'.length = n ∧ ∀ v, 0 ≤ v → v < (n : Int) → rd z' v = mx (rd x v) (rd y v) := by
  intro q
  induction q with
  | zero =>
    intro i z hq h0 hz hv
    exact ⟨z, Ev.step (f := fun _ => some (z, 0)) (fun k => by rw [diffs_Higher.l0, if_neg (by omega)]) (Ev.now _), hz, fun v v0 v1 => by rw [hv v v0 v1, if_pos (by omega)]⟩
  | succ q ih =>
    intro i z hq h0 hz hv
    obtain ⟨z', g1, g2⟩ := ih (i + 1) (z.set i.toNat (mx (rd z i) (rd y i))) (by omega) (by omega) (by rw [List.length_set]; exact hz) (fun v v0 v1 => by
      rw [rd_set _ _ _ _ h0 (by omega) v0]
      by_cases e : v = i
      · rw [if_pos e, if_pos (by omega), hv i h0 (by omega), if_neg (by omega), e]
      · rw [if_neg e, hv v v0 v1]
        by_cases e2 : v < i
        · rw [if_pos e2, if_pos (by omega)]
        · rw [if_neg e2, if_neg (by omega)])
    refine ⟨z', Ev.step (fun k => ?_) g1, g2⟩
    rw [diffs_Higher.l0, if_pos (by omega), if_pos h0, if_pos (by omega), if_pos (by omega), wrap_id (x := i + 1) (by omega) (by omega)]
theorem higher_ev (hV : Valid n L) (x y : List Int) : ∃ z e, Ev (fun k => diffs_Higher.f k n L x y) (z, e) ∧ HigherIs n L x y z e := by
  have hn2 := hV.n2
  obtain ⟨p, p1, p2⟩ := numbers_some n x
  obtain ⟨q, q1, q2⟩ := numbers_some n y
  have hask := fun p q : Bool => asked_ev n L [p, q] (by simp)
  simp only [if_pos (validB_iff.2 hV)] at hask
  unfold diffs_Higher.f
  rw [p1, q1]
  simp only [Option.bind_some]
  by_cases hA : p = true ∧ q = true
  case neg =>
    have h1 : Ev (fun k => diffs_asked.f k n L [p, q]) 1 := by
      have := hask p q
      rw [if_pos (by cases p <;> cases q <;> first | rfl | exact absurd ⟨rfl, rfl⟩ hA)] at this
      exact this
    have hno : ¬ (NumOk n x ∧ NumOk n y) := fun h => hA ⟨p2.2 h.1, q2.2 h.2⟩
    exact ⟨[], 1, h1.bind (Ev.neg (by decide) (Ev.now _)), fun _ => ⟨rfl, rfl⟩, fun h => absurd h hno, fun h => absurd ⟨h.1.num, h.2.num⟩ hno⟩
  obtain ⟨rfl, rfl⟩ := hA
  have hx := p2.1 rfl
  have hy := q2.1 rfl
  have h0 : Ev (fun k => diffs_asked.f k n L [true, true]) 0 := by
    have := hask true true
    rw [if_neg (by decide)] at this
    exact this
  obtain ⟨b, b1, b2⟩ := holds_some hV hx
  obtain ⟨c, c1, c2⟩ := holds_some hV hy
  have hT : Ev (fun k => diffs_Higher.j0 k x y true) ([], 43) := Ev.step (f := fun _ => some ([], 43)) (fun k => by rw [diffs_Higher.j0]; rfl) (Ev.now _)
  rw [b1, c1]
  simp only [Option.bind_some]
  cases b with
  | false => exact ⟨[], 43, h0.bind (Ev.pos rfl (Ev.neg (by decide) hT)), fun h => absurd ⟨hx, hy⟩ h, fun _ _ => ⟨rfl, rfl⟩, fun h => absurd (b2.2 h.1) (by decide)⟩
  | true =>
    cases c with
    | false => exact ⟨[], 43, h0.bind (Ev.pos rfl (Ev.pos rfl hT)), fun h => absurd ⟨hx, hy⟩ h, fun _ _ => ⟨rfl, rfl⟩, fun h => absurd (c2.2 h.2) (by decide)⟩
    | true =>
      have hlx := hx.l
      have hly := hy.l
      obtain ⟨z, g1, g2, g3⟩ := higher_l0 (x := x) (y := y) (n := n) (by omega) (by omega) (by omega) n 0 x (by omega) (by omega) (by omega) (fun v v0 v1 => by rw [if_neg (by omega)])
      refine ⟨z, 0, h0.bind (Ev.pos rfl (Ev.pos rfl (Ev.step (f := fun k => diffs_Higher.l0 k x y y.length 0) (fun k => ?_) g1))), fun h => absurd ⟨hx, hy⟩ h, fun _ h => absurd ⟨b2.1 rfl, c2.1 rfl⟩ h, fun _ => ⟨rfl, by omega, g3⟩⟩
      rw [diffs_Higher.j0, if_neg (by decide)]
      unfold slices_Clone_int_int.f
      rw [if_pos (by omega)]
      rfl
theorem higher_bad {m : Int} (hv : ¬ validB m L = true) (x y : List Int) : Ev (fun k => diffs_Higher.f k m L x y) ([], 40) := by
  obtain ⟨p, p1, p2⟩ := numbers_some m x
  obtain ⟨q, q1, q2⟩ := numbers_some m y
  have hask := asked_ev m L [p, q] (by simp)
  rw [if_neg hv] at hask
  unfold diffs_Higher.f
  rw [p1, q1]
  simp only [Option.bind_some]
  exact hask.bind (Ev.neg (by decide) (Ev.now _))
theorem mx_is (a b : Int) : (mx a b = a ∨ mx a b = b) ∧ a ≤ mx a b ∧ b ≤ mx a b := by
  unfold mx
  split <;> omega
theorem HigherIs.ful (hV : Valid n L) {x y z : List Int} {e : Int} (h : HigherIs n L x y z e) (hx : Ful n L x) (hy : Ful n L y) : Ful n L z := by
  obtain ⟨_, h1, h2⟩ := h.yes ⟨hx, hy⟩
  have hn1 := hV.n1
  refine ⟨h1, by omega, ?_, fun v v0 v1 => ?_, fun k k0 k1 => ?_⟩
  · rw [h2 0 (by omega) (by omega), hx.z, hy.z]; rfl
  · have := hx.b v v0 v1
    have := hy.b v v0 v1
    have := mx_is (rd x v) (rd y v)
    rw [h2 v v0 v1]
    omega
  · have he := hV.e k k0 k1
    refine ⟨he.a, he.b, he.c, he.g, ?_⟩
    have := (hx.e k k0 k1).2.2.2.2
    have := (hy.e k k0 k1).2.2.2.2
    have := mx_is (rd x (rd_T39 L k).f0) (rd y (rd_T39 L k).f0)
    have := mx_is (rd x (rd_T39 L k).f1) (rd y (rd_T39 L k).f1)
    rw [h2 _ he.c he.g, h2 _ he.a he.b]
    omega
end
end Go.Proofs.Ytpolojoeabmhdaa.A
namespace Go.Proofs.Ytpolojoeabmhdaa.A
open Go.RowKit Go.Proofs.YtpolojoeabmhdaaW.PrintWords Go.Proofs.YtpolojoeabmhdaaW.PrintLast Go.Proofs.YtpolojoeabmhdaaW.PrintMore
attribute [local go_sem] max2_int min2_int max_two min_two max_three min_three max_four min_four
mutual
def snowlinelaw04_fulfils.j0 : Nat → List Int → Bool → Int → List (S39) → Option (Bool)
 | 0, _, _, _, _ => none
 | k + 1, x1, x24, x922000, x922001 => if x24 = true then (some false) else (snowlinelaw04_fulfils.l0 k x1 x1 (x1.length : Int) 0 x922000 x922001)
def snowlinelaw04_fulfils.l0 : Nat → List Int → List Int → Int → Int → Int → List (S39) → Option (Bool)
 | 0, _, _, _, _, _, _ => none
 | k + 1, x1, x25, x26, x27, x922000, x922001 => if x27 < x26 then (if 0 ≤ x27 then (if x27 < (x25.length : Int) then (if (rd x25 x27) < (-1099511627776) then (snowlinelaw04_fulfils.j2 k x1 x25 x26 x27 true x922000 x922001) else (snowlinelaw04_fulfils.j2 k x1 x25 x26 x27 (decide ((rd x25 x27) > 1099511627776)) x922000 x922001)) else (none)) else (none)) else (snowlinelaw04_fulfils.l1 k x1 x922001 (x922001.length : Int) 0)
def snowlinelaw04_fulfils.j2 : Nat → List Int → List Int → Int → Int → Bool → Int → List (S39) → Option (Bool)
 | 0, _, _, _, _, _, _, _ => none
 | k + 1, x1, x25, x26, x27, x36, x922000, x922001 => if x36 = true then (some false) else (snowlinelaw04_fulfils.l0 k x1 x25 x26 (wrap64 (x27 + 1)) x922000 x922001)
def snowlinelaw04_fulfils.l1 : Nat → List Int → List (S39) → Int → Int → Option (Bool)
 | 0, _, _, _, _ => none
 | k + 1, x1, x39, x40, x41 => if x41 < x40 then (if 0 ≤ x41 then (if x41 < (x39.length : Int) then (if ((rd_T39 x39 x41).f0) < 0 then (snowlinelaw04_fulfils.j4 k x1 x39 x40 x41 true) else (if ((rd_T39 x39 x41).f0) ≥ (x1.length : Int) then (snowlinelaw04_fulfils.j4 k x1 x39 x40 x41 true) else (if ((rd_T39 x39 x41).f1) < 0 then (snowlinelaw04_fulfils.j4 k x1 x39 x40 x41 true) else (if ((rd_T39 x39 x41).f1) ≥ (x1.length : Int) then (snowlinelaw04_fulfils.j4 k x1 x39 x40 x41 true) else (if 0 ≤ ((rd_T39 x39 x41).f1) then (if ((rd_T39 x39 x41).f1) < (x1.length : Int) then (if 0 ≤ ((rd_T39 x39 x41).f0) then (if ((rd_T39 x39 x41).f0) < (x1.length : Int) then (snowlinelaw04_fulfils.j4 k x1 x39 x40 x41 (decide ((wrap64 ((rd x1 ((rd_T39 x39 x41).f1)) - (rd x1 ((rd_T39 x39 x41).f0)))) > ((rd_T39 x39 x41).f2)))) else (none)) else (none)) else (none)) else (none)))))) else (none)) else (none)) else (some true)
def snowlinelaw04_fulfils.j4 : Nat → List Int → List (S39) → Int → Int → Bool → Option (Bool)
 | 0, _, _, _, _, _ => none
 | k + 1, x1, x39, x40, x41, x82 => if x82 = true then (some false) else (snowlinelaw04_fulfils.l1 k x1 x39 x40 (wrap64 (x41 + 1)))
end
def snowlinelaw04_fulfils.f (k : Nat) (a0_0 : Int) (l0_1 : List (S39)) (l1 : List Int) : Option (Bool) := if (l1.length : Int) = a0_0 then (if (l1.length : Int) = 0 then (snowlinelaw04_fulfils.j0 k l1 true a0_0 l0_1) else (if 0 < (l1.length : Int) then (snowlinelaw04_fulfils.j0 k l1 ((rd l1 0) != 0) a0_0 l0_1) else (none))) else (snowlinelaw04_fulfils.j0 k l1 true a0_0 l0_1)
theorem snowlinelaw04_fulfils.mono_l : ∀ k, (∀ y0 y1 y2 y3, LeO (snowlinelaw04_fulfils.j0 k y0 y1 y2 y3) (snowlinelaw04_fulfils.j0 (k + 1) y0 y1 y2 y3)) ∧ (∀ y0 y1 y2 y3 y4 y5, LeO (snowlinelaw04_fulfils.l0 k y0 y1 y2 y3 y4 y5) (snowlinelaw04_fulfils.l0 (k + 1) y0 y1 y2 y3 y4 y5)) ∧ (∀ y0 y1 y2 y3 y4 y5 y6, LeO (snowlinelaw04_fulfils.j2 k y0 y1 y2 y3 y4 y5 y6) (snowlinelaw04_fulfils.j2 (k + 1) y0 y1 y2 y3 y4 y5 y6)) ∧ (∀ y0 y1 y2 y3, LeO (snowlinelaw04_fulfils.l1 k y0 y1 y2 y3) (snowlinelaw04_fulfils.l1 (k + 1) y0 y1 y2 y3)) ∧ (∀ y0 y1 y2 y3 y4, LeO (snowlinelaw04_fulfils.j4 k y0 y1 y2 y3 y4) (snowlinelaw04_fulfils.j4 (k + 1) y0 y1 y2 y3 y4))
 | 0 => ⟨fun _ _ _ _ r h => by simp [snowlinelaw04_fulfils.j0] at h, fun _ _ _ _ _ _ r h => by simp [snowlinelaw04_fulfils.l0] at h, fun _ _ _ _ _ _ _ r h => by simp [snowlinelaw04_fulfils.j2] at h, fun _ _ _ _ r h => by simp [snowlinelaw04_fulfils.l1] at h, fun _ _ _ _ _ r h => by simp [snowlinelaw04_fulfils.j4] at h⟩
 | k + 1 => by
  obtain ⟨ih0, ih1, ih2, ih3, ih4⟩ := snowlinelaw04_fulfils.mono_l k; refine ⟨?_, ?_, ?_, ?_, ?_⟩ <;> intros <;> (first | unfold snowlinelaw04_fulfils.j0 | unfold snowlinelaw04_fulfils.l0 | unfold snowlinelaw04_fulfils.j2 | unfold snowlinelaw04_fulfils.l1 | unfold snowlinelaw04_fulfils.j4) <;> repeat' first | (with_reducible first | exact ih0 _ _ _ _ | exact ih1 _ _ _ _ _ _ | exact ih2 _ _ _ _ _ _ _ | exact ih3 _ _ _ _ | exact ih4 _ _ _ _ _ | exact LeO.refl _ | exact LeO.none _ | refine LeO.ite ?_ ?_ | refine LeO.bind ?_ (fun _ => ?_)) | exact ih0 _ _ _ _ | exact ih1 _ _ _ _ _ _ | exact ih2 _ _ _ _ _ _ _ | exact ih3 _ _ _ _ | exact ih4 _ _ _ _ _ | exact LeO.none _ | refine LeO.ite ?_ ?_ | refine LeO.bind ?_ (fun _ => ?_)
theorem snowlinelaw04_fulfils.mono : ∀ a0 a1 a2 k, LeO (snowlinelaw04_fulfils.f k a0 a1 a2) (snowlinelaw04_fulfils.f (k + 1) a0 a1 a2) := by
 intro a0 a1 a2 k; obtain ⟨ih0, ih1, ih2, ih3, ih4⟩ := snowlinelaw04_fulfils.mono_l k; unfold snowlinelaw04_fulfils.f; repeat' first | (with_reducible first | exact ih0 _ _ _ _ | exact ih1 _ _ _ _ _ _ | exact ih2 _ _ _ _ _ _ _ | exact ih3 _ _ _ _ | exact ih4 _ _ _ _ _ | exact LeO.refl _ | exact LeO.none _ | refine LeO.ite ?_ ?_ | refine LeO.bind ?_ (fun _ => ?_)) | exact ih0 _ _ _ _ | exact ih1 _ _ _ _ _ _ | exact ih2 _ _ _ _ _ _ _ | exact ih3 _ _ _ _ | exact ih4 _ _ _ _ _ | exact LeO.none _ | refine LeO.ite ?_ ?_ | refine LeO.bind ?_ (fun _ => ?_)
set_option maxHeartbeats 8000000 in
set_option maxRecDepth 100000 in
theorem snowlinelaw04_fulfils.calls (k : Nat) (a0_0 : Int) (A0_1 : Option Addr) (c0_1 : Nat) (l0_1 : List (S39)) (A1 : Option Addr) (c1 : Nat) (l1 : List Int) (r : Bool) (w : World) (hr0_1 : Kd.C k39 w A0_1 l0_1.length l0_1) (hc0_1 : l0_1.length ≤ c0_1) (hr1 : Kd.C (Kd.int .i64) w A1 l1.length l1) (hc1 : l1.length ≤ c1) (h : snowlinelaw04_fulfils.f k a0_0 l0_1 l1 = some r) :
  Calls Try.prog 48 #[.agg #[.int .i64 a0_0, .slice A0_1 l0_1.length c0_1], .slice A1 l1.length c1] w fun e w' => e = .returned (.bool r) ∧ Below w.heap.size w w' := by
 have hu24 := Try.underlying24; have hu39 := Try.underlying39; have HR0_1 := Z_ hr0_1; have HC0_1 := Z_ hc0_1; clear hr0_1 hc0_1; have HR1 := Z_ hr1; have HC1 := Z_ hc1; clear hr1 hc1; have HB := Z_ (Below.refl w.heap.size w); have H : (if (l1.length : Int) = a0_0 then (if (l1.length : Int) = 0 then (snowlinelaw04_fulfils.j0 k l1 true a0_0 l0_1) else (if 0 < (l1.length : Int) then (snowlinelaw04_fulfils.j0 k l1 ((rd l1 0) != 0) a0_0 l0_1) else (none))) else (snowlinelaw04_fulfils.j0 k l1 true a0_0 l0_1)) = some r := h; clear h; have HC3 := Z_ H; clear H; go_enter Try.func48, Try.ntmps48; go_upto_region 1 with (first | ((with_reducible refine gate_dst (N := 2) rfl ?_); (try (refine gate_guard (by rfl) ?_; dsimp only)); refine bX_ 2 #[.int .i64 a0_0, .slice A0_1 l0_1.length c0_1] 24 ?_; intro gb921 hg w4 hbox hb; have BK921 := Z_ (hbox); have GW921 := Z_ ((by rw [hg]; exact (fZ_ hB_) : w.heap.size ≤ gb921)); have GE921 := Z_ ((by rw [hg]; exact (fZ_ hB_) : w.heap.size ≤ gb921)); replace HB := Z_ (fS_ hB_ hb); clear hb hbox hg)); repeat (go_quiet (first | ((with_reducible refine gate_dst (N := 2) rfl ?_); (try (refine gate_guard (by rfl) ?_; dsimp only)); refine bX_ 2 #[.int .i64 a0_0, .slice A0_1 l0_1.length c0_1] 24 ?_; intro gb921 hg w4 hbox hb; have BK921 := Z_ (hbox); have GW921 := Z_ ((by rw [hg]; exact (fZ_ hB_) : w.heap.size ≤ gb921)); have GE921 := Z_ ((by rw [hg]; exact (fZ_ hB_) : w.heap.size ≤ gb921)); replace HB := Z_ (fS_ hB_ hb); clear hb hbox hg)); go_upto_region 1 with (first | ((with_reducible refine gate_dst (N := 2) rfl ?_); (try (refine gate_guard (by rfl) ?_; dsimp only)); refine bX_ 2 #[.int .i64 a0_0, .slice A0_1 l0_1.length c0_1] 24 ?_; intro gb921 hg w4 hbox hb; have BK921 := Z_ (hbox); have GW921 := Z_ ((by rw [hg]; exact (fZ_ hB_) : w.heap.size ≤ gb921)); have GE921 := Z_ ((by rw [hg]; exact (fZ_ hB_) : w.heap.size ≤ gb921)); replace HB := Z_ (fS_ hB_ hb); clear hb hbox hg)))
 (try simp only [Act.put, sT_, sZ_, sS_])
 go_cut [24] (fun v24 wc => ∃ (kq : Nat) (x24_2 : Bool), v24 = .bool x24_2 ∧ Aside0 (snowlinelaw04_fulfils.j0 kq l1 x24_2 a0_0 l0_1 = some r) ∧ Aside0 (kq ≤ k) ∧ Aside0 (wc.heap[gb921]? = some (.cells #[.int .i64 a0_0, (.slice A0_1 l0_1.length c0_1)] 24 (0, 0))) ∧ Aside0 (Below w.heap.size w wc))
 case first =>
  have H := HC3.out; clear HC3; by_cases c5 : (l1.length : Int) = a0_0
  ·rw [if_pos c5] at H
   have c5b0 : ((l1.length : Int) == a0_0) = true := beq_iff_eq.mpr c5; have c5b1 : ((l1.length : Int) != a0_0) = false := bne_eq_false_iff_eq.mpr c5; clear c5; (first | rw [c5b0] | (simp only [i64_w, i32_w]; rw [c5b0]) | skip)
   by_cases c6 : (l1.length : Int) = 0
   ·rw [if_pos c6] at H
    have c6b0 : ((l1.length : Int) == 0) = true := beq_iff_eq.mpr c6; have c6b1 : ((l1.length : Int) != 0) = false := bne_eq_false_iff_eq.mpr c6; clear c6; have H' := Z_ H; clear H; obtain ⟨⟨hcz7_0, hcz7_1⟩, hfz7_0, hfz7_1⟩ := f2_ BK921.out; go_wp2; repeat (go_quiet (fail); try go_wp2)
    go_meet
    case rel => exact ⟨_, (true), rf_, H', ⟨oL_⟩, ⟨bR_ BK921.out⟩, ⟨hB_⟩⟩
   rw [if_neg c6] at H; have c6b0 : ((l1.length : Int) == 0) = false := beq_eq_false_iff_ne.mpr c6; have c6b1 : ((l1.length : Int) != 0) = true := bne_iff_ne.mpr c6; have c6b2 : ¬ (l1 = []) := fun h_ => c6 (by rw [h_]; rfl)
   by_cases c8 : 0 < (l1.length : Int)
   ·rw [if_pos c8] at H
    have c8b0 : decide (0 < (l1.length : Int)) = true := eT_ c8; have c8b1 : decide (0 < l1.length) = true := eT_ (by omega); clear c8; have H' := Z_ H; clear H; obtain ⟨⟨hcz9_0, hcz9_1⟩, hfz9_0, hfz9_1⟩ := f2_ BK921.out; have p922 : 0 ≤ (0 : Int) := (by omega); have q922 : 0 < (l1.length : Int) := dT_ as_; obtain ⟨ad922, e922, hx922_0⟩ := Kd.at_int HR1.out 0 p922 q922; cases e922
    have qi922 : (0 < l1.length) = True := eq_true (by omega); (try rw [show ((0 : Int)).toNat = 0 from rfl] at hx922_0)
    (try rw [Addr.add_zero'] at hx922_0)
    replace hx922_0 := (HB.out.cell (World.block_lt_of_cell? w _ hx922_0)).trans hx922_0; replace p922 := eq_true p922; replace q922 := eq_true q922; go_wp2; repeat (go_quiet (fail); try go_wp2)
    go_meet
    case rel => exact ⟨_, (((rd l1 0) != 0)), rf_, H', ⟨oL_⟩, ⟨bR_ BK921.out⟩, ⟨hB_⟩⟩
   rw [if_neg c8] at H; exact absurd H (by simp)
  rw [if_neg c5] at H; have c5b0 : ((l1.length : Int) == a0_0) = false := beq_eq_false_iff_ne.mpr c5; have c5b1 : ((l1.length : Int) != a0_0) = true := bne_iff_ne.mpr c5; (first | rw [c5b0] | (simp only [i64_w, i32_w]; rw [c5b0]) | skip)
  have H' := Z_ H; clear H; obtain ⟨⟨hcz10_0, hcz10_1⟩, hfz10_0, hfz10_1⟩ := f2_ BK921.out; go_wp2; repeat (go_quiet (fail); try go_wp2)
  go_meet
  case rel => exact ⟨_, (true), rf_, H', ⟨oL_⟩, ⟨bR_ BK921.out⟩, ⟨hB_⟩⟩
 case rest =>
  clear HC3; (try clear c1); (try clear p2); (try clear c4); (try clear c5); (try clear c5b0); (try clear c5b1); (try clear c6); (try clear c6b0); (try clear c6b1); (try clear c6b2); (try clear c8); (try clear c8b0); (try clear c8b1); (try clear p9); (try clear q9); (try clear hx9); (try clear qi9); (try clear hcz10_0); (try clear hcz10_1); (try clear hcz7_0); (try clear hcz7_1); (try clear hcz9_0); (try clear hcz9_1); (try clear hfz10_0); (try clear hfz10_1); (try clear hfz7_0); (try clear hfz7_1); (try clear hfz9_0); (try clear hfz9_1); (try clear hx922_0); (try clear p922); (try clear q922)
  obtain ⟨kq, x24_2, rfl, HA, HJ2, BK921, HB⟩ := hcut
  cases kq with
  | zero => exact absurd HA.out (by simp [snowlinelaw04_fulfils.j0])
  | succ kj2 =>
   have H := HA.out; clear HA; simp only [snowlinelaw04_fulfils.j0] at H; by_cases c11 : x24_2 = true
   ·subst c11
    rw [if_pos rfl] at H; obtain rfl := oI_ H; go_wp2; repeat (go_quiet (fail); try go_wp2)
    go_ret; exact ⟨eW_, hB_⟩
   replace c11 := bE_.mpr c11; subst c11; have H1 : (snowlinelaw04_fulfils.l0 kj2 l1 l1 (l1.length : Int) 0 a0_0 l0_1) = some r := by rw [if_neg (show ¬ (false = true) by decide)] at H; exact H
   clear H; have H := H1; clear H1; have H' := Z_ H; clear H; go_wp2; repeat (go_quiet (fail); try go_wp2)
   go_loopg [27] kj2 (fun kq v27 w' => ∃ (x27_2 : Int), v27 = .int .i64 x27_2 ∧ Aside0 (snowlinelaw04_fulfils.l0 kq l1 l1 (l1.length : Int) x27_2 a0_0 l0_1 = some r) ∧ Aside0 (kq ≤ kj2) ∧ Aside0 (w'.heap[gb921]? = some (.cells #[.int .i64 a0_0, (.slice A0_1 l0_1.length c0_1)] 24 (0, 0))) ∧ Aside0 (Below w.heap.size w w'))
   case atStart => exact ⟨(0), rf_, H', ⟨nR_ _⟩, ⟨bR_ BK921.out⟩, ⟨hB_⟩⟩
   case round =>
    clear H'; (try clear c1); (try clear p2); (try clear c4); (try clear c5); (try clear c5b0); (try clear c5b1); (try clear c6); (try clear c6b0); (try clear c6b1); (try clear c6b2); (try clear c8); (try clear c8b0); (try clear c8b1); (try clear p9); (try clear q9); (try clear hx9); (try clear qi9); (try clear c11); (try clear hcz10_0); (try clear hcz10_1); (try clear hcz7_0); (try clear hcz7_1); (try clear hcz9_0); (try clear hcz9_1); (try clear hfz10_0); (try clear hfz10_1); (try clear hfz7_0); (try clear hfz7_1); (try clear hfz9_0); (try clear hfz9_1); (try clear hx922_0); (try clear p2); (try clear p9); (try clear p922); (try clear q9); (try clear q922)
    obtain ⟨x27_2, rfl, HA, HK2, BK921, HB⟩ := hrel
    cases gk with
    | zero => exact absurd HA.out (by simp [snowlinelaw04_fulfils.l0])
    | succ k2 =>
     have H := HA.out; clear HA; simp only [snowlinelaw04_fulfils.l0] at H; by_cases c12 : x27_2 < (l1.length : Int)
     ·rw [if_pos c12] at H
      have c12b0 : decide (x27_2 < (l1.length : Int)) = true := eT_ c12; clear c12; by_cases c13 : 0 ≤ x27_2
      ·rw [if_pos c13] at H
       have c13b0 : decide (0 ≤ x27_2) = true := eT_ c13; clear c13; by_cases c14 : x27_2 < (l1.length : Int)
       ·rw [if_pos c14] at H
        have c14b0 : decide (x27_2 < (l1.length : Int)) = true := eT_ c14; clear c14; have HC15 := Z_ H; clear H; have p923 : 0 ≤ (x27_2 : Int) := dT_ as_; have q923 : x27_2 < (l1.length : Int) := dT_ as_; obtain ⟨ad923, e923, hx923_0⟩ := Kd.at_int HR1.out x27_2 p923 q923; cases e923
        replace hx923_0 := (HB.out.cell (World.block_lt_of_cell? w _ hx923_0)).trans hx923_0; replace p923 := eq_true p923; replace q923 := eq_true q923; go_upto_region 6 with (fail); repeat (go_quiet (fail); go_upto_region 6 with (fail))
        go_cut [36] (fun v36 wc => ∃ (kq : Nat) (x36_14 : Bool), v36 = .bool x36_14 ∧ Aside0 (snowlinelaw04_fulfils.j2 kq l1 l1 (l1.length : Int) x27_2 x36_14 a0_0 l0_1 = some r) ∧ Aside0 (kq ≤ k2) ∧ Aside0 (wc.heap[gb921]? = some (.cells #[.int .i64 a0_0, (.slice A0_1 l0_1.length c0_1)] 24 (0, 0))) ∧ Aside0 (Below w.heap.size w wc))
        case first =>
         have H := HC15.out; clear HC15; by_cases c16 : (rd l1 x27_2) < (-1099511627776)
         ·rw [if_pos c16] at H
          have c16b0 : decide ((rd l1 x27_2) < (-1099511627776)) = true := eT_ c16; clear c16; (first | rw [c16b0] | (simp only [i64_w, i32_w]; rw [c16b0]) | skip)
          have H' := Z_ H; clear H; go_wp2; repeat (go_quiet (fail); try go_wp2)
          go_meet
          case rel => exact ⟨_, (true), rf_, H', ⟨by have := HJ2.out; have := HK2.out; first | omega | exact nR_ _⟩, ⟨bR_ BK921.out⟩, ⟨hB_⟩⟩
         rw [if_neg c16] at H; have c16b0 : decide ((rd l1 x27_2) < (-1099511627776)) = false := eF_ c16; clear c16; (first | rw [c16b0] | (simp only [i64_w, i32_w]; rw [c16b0]) | skip)
         have H' := Z_ H; clear H; go_wp2; repeat (go_quiet (fail); try go_wp2)
         go_meet
         case rel => exact ⟨_, (decide ((rd l1 x27_2) > 1099511627776)), rf_, H', ⟨by have := HJ2.out; have := HK2.out; first | omega | exact nR_ _⟩, ⟨bR_ BK921.out⟩, ⟨hB_⟩⟩
        case rest =>
         clear HC15; (try clear c1); (try clear p2); (try clear c4); (try clear c5); (try clear c5b0); (try clear c5b1); (try clear c6); (try clear c6b0); (try clear c6b1); (try clear c6b2); (try clear c8); (try clear c8b0); (try clear c8b1); (try clear p9); (try clear q9); (try clear hx9); (try clear qi9); (try clear c11); (try clear c12); (try clear c12b0); (try clear c13); (try clear c13b0); (try clear c14); (try clear c14b0); (try clear c16); (try clear c16b0); (try clear hcz10_0); (try clear hcz10_1); (try clear hcz7_0); (try clear hcz7_1); (try clear hcz9_0); (try clear hcz9_1); (try clear hfz10_0); (try clear hfz10_1); (try clear hfz7_0); (try clear hfz7_1); (try clear hfz9_0); (try clear hfz9_1); (try clear hx922_0); (try clear hx923_0); (try clear p2); (try clear p9); (try clear p922); (try clear p923); (try clear q9); (try clear q922); (try clear q923)
         obtain ⟨kq, x36_14, rfl, HA, HJ14, BK921, HB⟩ := hcut
         cases kq with
         | zero => exact absurd HA.out (by simp [snowlinelaw04_fulfils.j2])
         | succ kj14 =>
          have H := HA.out; clear HA; simp only [snowlinelaw04_fulfils.j2] at H; by_cases c17 : x36_14 = true
          ·subst c17
           rw [if_pos rfl] at H; obtain rfl := oI_ H; go_wp2; repeat (go_quiet (fail); try go_wp2)
           go_ret; exact ⟨eW_, hB_⟩
          replace c17 := bE_.mpr c17; subst c17; have H1 : (snowlinelaw04_fulfils.l0 kj14 l1 l1 (l1.length : Int) (wrap64 (x27_2 + 1)) a0_0 l0_1) = some r := by rw [if_neg (show ¬ (false = true) by decide)] at H; exact H
          clear H; have H := H1; clear H1; have H' := Z_ H; clear H; go_wp2; repeat (go_quiet (fail); try go_wp2)
          go_roundg kj14
          case measure => have := HJ2.out; have := HK2.out; have := HJ14.out; omega
          case rel => exact ⟨(wrap64 (x27_2 + 1)), rf_, H', ⟨by have := HJ2.out; have := HK2.out; have := HJ14.out; omega⟩, ⟨bR_ BK921.out⟩, ⟨hB_⟩⟩
       rw [if_neg c14] at H; exact absurd H (by simp)
      rw [if_neg c13] at H; exact absurd H (by simp)
     rw [if_neg c12] at H; have c12b0 : decide (x27_2 < (l1.length : Int)) = false := eF_ c12; clear c12; have H' := Z_ H; clear H; obtain ⟨⟨hcz18_0, hcz18_1⟩, hfz18_0, hfz18_1⟩ := f2_ BK921.out; go_wp2; repeat (go_quiet (fail); try go_wp2)
     go_loopg [41] k2 (fun kq v41 w' => ∃ (x41_3 : Int), v41 = .int .i64 x41_3 ∧ Aside0 (snowlinelaw04_fulfils.l1 kq l1 l0_1 (l0_1.length : Int) x41_3 = some r) ∧ Aside0 (kq ≤ k2) ∧ Aside0 (w'.heap[gb921]? = some (.cells #[.int .i64 a0_0, (.slice A0_1 l0_1.length c0_1)] 24 (0, 0))) ∧ Aside0 (Below w.heap.size w w'))
     case atStart => exact ⟨(0), rf_, H', ⟨nR_ _⟩, ⟨bR_ BK921.out⟩, ⟨hB_⟩⟩
     case round =>
      clear H'; (try clear c1); (try clear p2); (try clear c4); (try clear c5); (try clear c5b0); (try clear c5b1); (try clear c6); (try clear c6b0); (try clear c6b1); (try clear c6b2); (try clear p6); (try clear c8); (try clear c8b0); (try clear c8b1); (try clear p9); (try clear q9); (try clear hx9); (try clear qi9); (try clear c11); (try clear c12); (try clear c12b0); (try clear c13); (try clear c13b0); (try clear c14); (try clear c14b0); (try clear c16); (try clear c16b0); (try clear c17); (try clear hcz10_0); (try clear hcz10_1); (try clear hcz18_0); (try clear hcz18_1); (try clear hcz7_0); (try clear hcz7_1); (try clear hcz9_0); (try clear hcz9_1); (try clear hfz10_0); (try clear hfz10_1); (try clear hfz18_0); (try clear hfz18_1); (try clear hfz7_0); (try clear hfz7_1); (try clear hfz9_0); (try clear hfz9_1); (try clear hx922_0); (try clear hx923_0); (try clear p2); (try clear p9); (try clear p922); (try clear p923); (try clear q9); (try clear q922); (try clear q923)
      obtain ⟨x41_3, rfl, HA, HK3, BK921, HB⟩ := hrel
      cases gk with
      | zero => exact absurd HA.out (by simp [snowlinelaw04_fulfils.l1])
      | succ k3 =>
       have H := HA.out; clear HA; simp only [snowlinelaw04_fulfils.l1] at H; by_cases c19 : x41_3 < (l0_1.length : Int)
       ·rw [if_pos c19] at H
        have c19b0 : decide (x41_3 < (l0_1.length : Int)) = true := eT_ c19; clear c19; by_cases c20 : 0 ≤ x41_3
        ·rw [if_pos c20] at H
         have c20b0 : decide (0 ≤ x41_3) = true := eT_ c20; clear c20; by_cases c21 : x41_3 < (l0_1.length : Int)
         ·rw [if_pos c21] at H
          have c21b0 : decide (x41_3 < (l0_1.length : Int)) = true := eT_ c21; clear c21; have HC22 := Z_ H; clear H; have p924 : 0 ≤ (x41_3 : Int) := dT_ as_; have q924 : x41_3 < (l0_1.length : Int) := dT_ as_; obtain ⟨ad924, e924, hx924_0, hx924_1, hx924_2⟩ := at_T39 HR0_1.out x41_3 p924 q924; cases e924
          replace hx924_0 := (HB.out.cell (World.block_lt_of_cell? w _ hx924_0)).trans hx924_0; replace hx924_1 := (HB.out.cell (World.block_lt_of_cell? w _ hx924_1)).trans hx924_1; replace hx924_2 := (HB.out.cell (World.block_lt_of_cell? w _ hx924_2)).trans hx924_2; replace p924 := eq_true p924; replace q924 := eq_true q924; go_upto_region 12 with (first | ((with_reducible refine gate_dst (N := 8) rfl ?_); (try (refine gate_guard (by rfl) ?_; dsimp only)); refine bX_ 8 #[.int .i64 0, .int .i64 0, .int .i64 0] 39 ?_; intro gb925 hg w23 hbox hb; have BK925 := Z_ (hbox); have GW925 := Z_ ((by rw [hg]; exact (fZ_ hB_) : w.heap.size ≤ gb925)); have GE925 := Z_ ((by rw [hg]; exact (fZ_ hB_) : w.heap.size ≤ gb925)); replace HB := Z_ (fS_ hB_ hb); have NB921_925 := Z_ ((by rw [hg]; exact Nat.ne_of_lt (blk_lt (g := gb921) (o := .cells #[.int .i64 a0_0, .slice (some ad924) l0_1.length c0_1] 24 (0, 0)) (bR_ BK921.out)) : gb921 ≠ gb925)); have NB925_921 := Z_ ((by rw [hg]; exact Nat.ne_of_gt (blk_lt (g := gb921) (o := .cells #[.int .i64 a0_0, .slice (some ad924) l0_1.length c0_1] 24 (0, 0)) (bR_ BK921.out)) : gb925 ≠ gb921)); replace BK921 := Z_ (bB_ (g := gb921) (o := .cells #[.int .i64 a0_0, .slice (some ad924) l0_1.length c0_1] 24 (0, 0)) (bR_ BK921.out) hb); clear hb hbox hg; have hnb24 := NB925_921.out; have hnc24 := NB921_925.out; obtain ⟨⟨hcz25_0, hcz25_1, hcz25_2⟩, hfz25_0, hfz25_1, hfz25_2⟩ := f3_ BK925.out)); repeat (go_quiet (first | ((with_reducible refine gate_dst (N := 8) rfl ?_); (try (refine gate_guard (by rfl) ?_; dsimp only)); refine bX_ 8 #[.int .i64 0, .int .i64 0, .int .i64 0] 39 ?_; intro gb925 hg w23 hbox hb; have BK925 := Z_ (hbox); have GW925 := Z_ ((by rw [hg]; exact (fZ_ hB_) : w.heap.size ≤ gb925)); have GE925 := Z_ ((by rw [hg]; exact (fZ_ hB_) : w.heap.size ≤ gb925)); replace HB := Z_ (fS_ hB_ hb); have NB921_925 := Z_ ((by rw [hg]; exact Nat.ne_of_lt (blk_lt (g := gb921) (o := .cells #[.int .i64 a0_0, .slice (some ad924) l0_1.length c0_1] 24 (0, 0)) (bR_ BK921.out)) : gb921 ≠ gb925)); have NB925_921 := Z_ ((by rw [hg]; exact Nat.ne_of_gt (blk_lt (g := gb921) (o := .cells #[.int .i64 a0_0, .slice (some ad924) l0_1.length c0_1] 24 (0, 0)) (bR_ BK921.out)) : gb925 ≠ gb921)); replace BK921 := Z_ (bB_ (g := gb921) (o := .cells #[.int .i64 a0_0, .slice (some ad924) l0_1.length c0_1] 24 (0, 0)) (bR_ BK921.out) hb); clear hb hbox hg; have hnb24 := NB925_921.out; have hnc24 := NB921_925.out; obtain ⟨⟨hcz25_0, hcz25_1, hcz25_2⟩, hfz25_0, hfz25_1, hfz25_2⟩ := f3_ BK925.out)); go_upto_region 12 with (first | ((with_reducible refine gate_dst (N := 8) rfl ?_); (try (refine gate_guard (by rfl) ?_; dsimp only)); refine bX_ 8 #[.int .i64 0, .int .i64 0, .int .i64 0] 39 ?_; intro gb925 hg w23 hbox hb; have BK925 := Z_ (hbox); have GW925 := Z_ ((by rw [hg]; exact (fZ_ hB_) : w.heap.size ≤ gb925)); have GE925 := Z_ ((by rw [hg]; exact (fZ_ hB_) : w.heap.size ≤ gb925)); replace HB := Z_ (fS_ hB_ hb); have NB921_925 := Z_ ((by rw [hg]; exact Nat.ne_of_lt (blk_lt (g := gb921) (o := .cells #[.int .i64 a0_0, .slice (some ad924) l0_1.length c0_1] 24 (0, 0)) (bR_ BK921.out)) : gb921 ≠ gb925)); have NB925_921 := Z_ ((by rw [hg]; exact Nat.ne_of_gt (blk_lt (g := gb921) (o := .cells #[.int .i64 a0_0, .slice (some ad924) l0_1.length c0_1] 24 (0, 0)) (bR_ BK921.out)) : gb925 ≠ gb921)); replace BK921 := Z_ (bB_ (g := gb921) (o := .cells #[.int .i64 a0_0, .slice (some ad924) l0_1.length c0_1] 24 (0, 0)) (bR_ BK921.out) hb); clear hb hbox hg; have hnb24 := NB925_921.out; have hnc24 := NB921_925.out; obtain ⟨⟨hcz25_0, hcz25_1, hcz25_2⟩, hfz25_0, hfz25_1, hfz25_2⟩ := f3_ BK925.out)))
          (try simp only [Act.put, sT_, sZ_, sS_])
          go_cut [82] (fun v82 wc => ∃ (kq : Nat) (x82_21 : Bool), v82 = .bool x82_21 ∧ Aside0 (snowlinelaw04_fulfils.j4 kq l1 l0_1 (l0_1.length : Int) x41_3 x82_21 = some r) ∧ Aside0 (kq ≤ k3) ∧ Aside0 (wc.heap[gb921]? = some (.cells #[.int .i64 a0_0, (.slice (some ad924) l0_1.length c0_1)] 24 (0, 0))) ∧ Aside0 (wc.heap[gb925]? = some (.cells #[.int .i64 ((rd_T39 l0_1 x41_3).f0), .int .i64 ((rd_T39 l0_1 x41_3).f1), .int .i64 ((rd_T39 l0_1 x41_3).f2)] 39 (0, 0))) ∧ Aside0 (Below w.heap.size w wc))
          case first =>
           have H := HC22.out; clear HC22; by_cases c26 : ((rd_T39 l0_1 x41_3).f0) < 0
           ·rw [if_pos c26] at H
            have c26b0 : decide (((rd_T39 l0_1 x41_3).f0) < 0) = true := eT_ c26; clear c26; (first | rw [c26b0] | (simp only [i64_w, i32_w]; rw [c26b0]) | skip)
            have H' := Z_ H; clear H; have hnb27 := NB925_921.out; have hnc27 := NB921_925.out; obtain ⟨⟨hcz28_0, hcz28_1, hcz28_2⟩, hfz28_0, hfz28_1, hfz28_2⟩ := f3_ BK925.out; go_wp2; repeat (go_quiet (fail); try go_wp2)
            go_meet
            case rel => exact ⟨_, (true), rf_, H', ⟨by have := HJ2.out; have := HK2.out; have := HK3.out; first | omega | exact nR_ _⟩, ⟨by (with_reducible repeat (first | refine bN_ ?_ _ | refine bD_ ?_)); refine blk_far ?_ NB921_925.out _; (with_reducible repeat (first | refine bN_ ?_ _ | refine bD_ ?_)); refine blk_far ?_ NB921_925.out _; (with_reducible repeat (first | refine bN_ ?_ _ | refine bD_ ?_)); refine blk_far ?_ NB921_925.out _; (with_reducible repeat (first | refine bN_ ?_ _ | refine bD_ ?_)); exact BK921.out⟩, ⟨by (with_reducible repeat (first | refine bN_ ?_ _ | refine bD_ ?_)); refine blk_put (cs := #[.int .i64 ((rd_T39 l0_1 x41_3).f0), .int .i64 ((rd_T39 l0_1 x41_3).f1), .int .i64 0]) ?_ 2 _ rfl; (with_reducible repeat (first | refine bN_ ?_ _ | refine bD_ ?_)); refine blk_put (cs := #[.int .i64 ((rd_T39 l0_1 x41_3).f0), .int .i64 0, .int .i64 0]) ?_ 1 _ rfl; (with_reducible repeat (first | refine bN_ ?_ _ | refine bD_ ?_)); refine blk_put (cs := #[.int .i64 0, .int .i64 0, .int .i64 0]) ?_ 0 _ rfl; (with_reducible repeat (first | refine bN_ ?_ _ | refine bD_ ?_)); exact BK925.out⟩, ⟨hB_⟩⟩
           rw [if_neg c26] at H; have c26b0 : decide (((rd_T39 l0_1 x41_3).f0) < 0) = false := eF_ c26; clear c26; (first | rw [c26b0] | (simp only [i64_w, i32_w]; rw [c26b0]) | skip)
           by_cases c29 : ((rd_T39 l0_1 x41_3).f0) ≥ (l1.length : Int)
           ·rw [if_pos c29] at H
            have c29b0 : decide ((l1.length : Int) ≤ ((rd_T39 l0_1 x41_3).f0)) = true := eT_ c29; clear c29; have H' := Z_ H; clear H; have hnb30 := NB925_921.out; have hnc30 := NB921_925.out; obtain ⟨⟨hcz31_0, hcz31_1, hcz31_2⟩, hfz31_0, hfz31_1, hfz31_2⟩ := f3_ BK925.out; go_wp2; repeat (go_quiet (fail); try go_wp2)
            go_meet
            case rel => exact ⟨_, (true), rf_, H', ⟨by have := HJ2.out; have := HK2.out; have := HK3.out; first | omega | exact nR_ _⟩, ⟨by (with_reducible repeat (first | refine bN_ ?_ _ | refine bD_ ?_)); refine blk_far ?_ NB921_925.out _; (with_reducible repeat (first | refine bN_ ?_ _ | refine bD_ ?_)); refine blk_far ?_ NB921_925.out _; (with_reducible repeat (first | refine bN_ ?_ _ | refine bD_ ?_)); refine blk_far ?_ NB921_925.out _; (with_reducible repeat (first | refine bN_ ?_ _ | refine bD_ ?_)); exact BK921.out⟩, ⟨by (with_reducible repeat (first | refine bN_ ?_ _ | refine bD_ ?_)); refine blk_put (cs := #[.int .i64 ((rd_T39 l0_1 x41_3).f0), .int .i64 ((rd_T39 l0_1 x41_3).f1), .int .i64 0]) ?_ 2 _ rfl; (with_reducible repeat (first | refine bN_ ?_ _ | refine bD_ ?_)); refine blk_put (cs := #[.int .i64 ((rd_T39 l0_1 x41_3).f0), .int .i64 0, .int .i64 0]) ?_ 1 _ rfl; (with_reducible repeat (first | refine bN_ ?_ _ | refine bD_ ?_)); refine blk_put (cs := #[.int .i64 0, .int .i64 0, .int .i64 0]) ?_ 0 _ rfl; (with_reducible repeat (first | refine bN_ ?_ _ | refine bD_ ?_)); exact BK925.out⟩, ⟨hB_⟩⟩
           rw [if_neg c29] at H; have c29b0 : decide ((l1.length : Int) ≤ ((rd_T39 l0_1 x41_3).f0)) = false := eF_ c29; clear c29; by_cases c32 : ((rd_T39 l0_1 x41_3).f1) < 0
           ·rw [if_pos c32] at H
            have c32b0 : decide (((rd_T39 l0_1 x41_3).f1) < 0) = true := eT_ c32; clear c32; have H' := Z_ H; clear H; have hnb33 := NB925_921.out; have hnc33 := NB921_925.out; obtain ⟨⟨hcz34_0, hcz34_1, hcz34_2⟩, hfz34_0, hfz34_1, hfz34_2⟩ := f3_ BK925.out; go_wp2; repeat (go_quiet (fail); try go_wp2)
            go_meet
            case rel => exact ⟨_, (true), rf_, H', ⟨by have := HJ2.out; have := HK2.out; have := HK3.out; first | omega | exact nR_ _⟩, ⟨by (with_reducible repeat (first | refine bN_ ?_ _ | refine bD_ ?_)); refine blk_far ?_ NB921_925.out _; (with_reducible repeat (first | refine bN_ ?_ _ | refine bD_ ?_)); refine blk_far ?_ NB921_925.out _; (with_reducible repeat (first | refine bN_ ?_ _ | refine bD_ ?_)); refine blk_far ?_ NB921_925.out _; (with_reducible repeat (first | refine bN_ ?_ _ | refine bD_ ?_)); exact BK921.out⟩, ⟨by (with_reducible repeat (first | refine bN_ ?_ _ | refine bD_ ?_)); refine blk_put (cs := #[.int .i64 ((rd_T39 l0_1 x41_3).f0), .int .i64 ((rd_T39 l0_1 x41_3).f1), .int .i64 0]) ?_ 2 _ rfl; (with_reducible repeat (first | refine bN_ ?_ _ | refine bD_ ?_)); refine blk_put (cs := #[.int .i64 ((rd_T39 l0_1 x41_3).f0), .int .i64 0, .int .i64 0]) ?_ 1 _ rfl; (with_reducible repeat (first | refine bN_ ?_ _ | refine bD_ ?_)); refine blk_put (cs := #[.int .i64 0, .int .i64 0, .int .i64 0]) ?_ 0 _ rfl; (with_reducible repeat (first | refine bN_ ?_ _ | refine bD_ ?_)); exact BK925.out⟩, ⟨hB_⟩⟩
           rw [if_neg c32] at H; have c32b0 : decide (((rd_T39 l0_1 x41_3).f1) < 0) = false := eF_ c32; clear c32; by_cases c35 : ((rd_T39 l0_1 x41_3).f1) ≥ (l1.length : Int)
           ·rw [if_pos c35] at H
            have c35b0 : decide ((l1.length : Int) ≤ ((rd_T39 l0_1 x41_3).f1)) = true := eT_ c35; clear c35; have H' := Z_ H; clear H; have hnb36 := NB925_921.out; have hnc36 := NB921_925.out; obtain ⟨⟨hcz37_0, hcz37_1, hcz37_2⟩, hfz37_0, hfz37_1, hfz37_2⟩ := f3_ BK925.out; go_wp2; repeat (go_quiet (fail); try go_wp2)
            go_meet
            case rel => exact ⟨_, (true), rf_, H', ⟨by have := HJ2.out; have := HK2.out; have := HK3.out; first | omega | exact nR_ _⟩, ⟨by (with_reducible repeat (first | refine bN_ ?_ _ | refine bD_ ?_)); refine blk_far ?_ NB921_925.out _; (with_reducible repeat (first | refine bN_ ?_ _ | refine bD_ ?_)); refine blk_far ?_ NB921_925.out _; (with_reducible repeat (first | refine bN_ ?_ _ | refine bD_ ?_)); refine blk_far ?_ NB921_925.out _; (with_reducible repeat (first | refine bN_ ?_ _ | refine bD_ ?_)); exact BK921.out⟩, ⟨by (with_reducible repeat (first | refine bN_ ?_ _ | refine bD_ ?_)); refine blk_put (cs := #[.int .i64 ((rd_T39 l0_1 x41_3).f0), .int .i64 ((rd_T39 l0_1 x41_3).f1), .int .i64 0]) ?_ 2 _ rfl; (with_reducible repeat (first | refine bN_ ?_ _ | refine bD_ ?_)); refine blk_put (cs := #[.int .i64 ((rd_T39 l0_1 x41_3).f0), .int .i64 0, .int .i64 0]) ?_ 1 _ rfl; (with_reducible repeat (first | refine bN_ ?_ _ | refine bD_ ?_)); refine blk_put (cs := #[.int .i64 0, .int .i64 0, .int .i64 0]) ?_ 0 _ rfl; (with_reducible repeat (first | refine bN_ ?_ _ | refine bD_ ?_)); exact BK925.out⟩, ⟨hB_⟩⟩
           rw [if_neg c35] at H; have c35b0 : decide ((l1.length : Int) ≤ ((rd_T39 l0_1 x41_3).f1)) = false := eF_ c35; clear c35; by_cases c38 : 0 ≤ ((rd_T39 l0_1 x41_3).f1)
           ·rw [if_pos c38] at H
            have c38b0 : decide (0 ≤ ((rd_T39 l0_1 x41_3).f1)) = true := eT_ c38; clear c38; by_cases c39 : ((rd_T39 l0_1 x41_3).f1) < (l1.length : Int)
            ·rw [if_pos c39] at H
             have c39b0 : decide (((rd_T39 l0_1 x41_3).f1) < (l1.length : Int)) = true := eT_ c39; clear c39; by_cases c40 : 0 ≤ ((rd_T39 l0_1 x41_3).f0)
             ·rw [if_pos c40] at H
              have c40b0 : decide (0 ≤ ((rd_T39 l0_1 x41_3).f0)) = true := eT_ c40; clear c40; by_cases c41 : ((rd_T39 l0_1 x41_3).f0) < (l1.length : Int)
              ·rw [if_pos c41] at H
               have c41b0 : decide (((rd_T39 l0_1 x41_3).f0) < (l1.length : Int)) = true := eT_ c41; clear c41; have H' := Z_ H; clear H; have hnb42 := NB925_921.out; have hnc42 := NB921_925.out; obtain ⟨⟨hcz43_0, hcz43_1, hcz43_2⟩, hfz43_0, hfz43_1, hfz43_2⟩ := f3_ BK925.out; have p926 : 0 ≤ (((rd_T39 l0_1 x41_3).f1) : Int) := dT_ as_; have q926 : ((rd_T39 l0_1 x41_3).f1) < (l1.length : Int) := dT_ as_; obtain ⟨ad926, e926, hx926_0⟩ := Kd.at_int HR1.out ((rd_T39 l0_1 x41_3).f1) p926 q926; cases e926
               have hn926_0 : ad926.block ≠ gb925 := Nat.ne_of_lt (Nat.lt_of_lt_of_le (by have := World.block_lt_of_cell? _ _ hx926_0; first | rwa [add_block] at this | exact this) GW925.out); have hn926_1 : ad926.block ≠ gb925 := Nat.ne_of_lt (Nat.lt_of_lt_of_le (by have := World.block_lt_of_cell? _ _ hx926_0; first | rwa [add_block] at this | exact this) GW925.out); have hn926_2 : ad926.block ≠ gb925 := Nat.ne_of_lt (Nat.lt_of_lt_of_le (by have := World.block_lt_of_cell? _ _ hx926_0; first | rwa [add_block] at this | exact this) GW925.out); replace hx926_0 := (HB.out.cell (World.block_lt_of_cell? w _ hx926_0)).trans hx926_0; replace hx926_0 := (cell_far (p := ⟨gb925, 0, none⟩) (by first | (rw [add_block]; exact hn926_0) | (show (Addr.add _ _).block ≠ _; rw [add_block]; exact hn926_0) | exact hn926_0) (.int .i64 ((rd_T39 l0_1 x41_3).f0))).trans hx926_0; replace hx926_0 := (cell_far (p := ⟨gb925, 1, none⟩) (by first | (rw [add_block]; exact hn926_1) | (show (Addr.add _ _).block ≠ _; rw [add_block]; exact hn926_1) | exact hn926_1) (.int .i64 ((rd_T39 l0_1 x41_3).f1))).trans hx926_0; replace hx926_0 := (cell_far (p := ⟨gb925, 2, none⟩) (by first | (rw [add_block]; exact hn926_2) | (show (Addr.add _ _).block ≠ _; rw [add_block]; exact hn926_2) | exact hn926_2) (.int .i64 ((rd_T39 l0_1 x41_3).f2))).trans hx926_0; (try have hy926_0 := fun (n_ : Nat) => (show (((((w23.drewN n_).setCell ⟨gb925, 0, none⟩ (.int .i64 ((rd_T39 l0_1 x41_3).f0))).setCell ⟨gb925, 1, none⟩ (.int .i64 ((rd_T39 l0_1 x41_3).f1))).setCell ⟨gb925, 2, none⟩ (.int .i64 ((rd_T39 l0_1 x41_3).f2)))).cell? _ = some _ from hx926_0))
               clear hn926_0; clear hn926_1; clear hn926_2; replace p926 := eq_true p926; replace q926 := eq_true q926; have p927 : 0 ≤ (((rd_T39 l0_1 x41_3).f0) : Int) := dT_ as_; have q927 : ((rd_T39 l0_1 x41_3).f0) < (l1.length : Int) := dT_ as_; obtain ⟨ad927, e927, hx927_0⟩ := Kd.at_int HR1.out ((rd_T39 l0_1 x41_3).f0) p927 q927; obtain rfl : ad926 = ad927 := (by injection e927); have hn927_0 : ad926.block ≠ gb925 := Nat.ne_of_lt (Nat.lt_of_lt_of_le (by have := World.block_lt_of_cell? _ _ hx927_0; first | rwa [add_block] at this | exact this) GW925.out); have hn927_1 : ad926.block ≠ gb925 := Nat.ne_of_lt (Nat.lt_of_lt_of_le (by have := World.block_lt_of_cell? _ _ hx927_0; first | rwa [add_block] at this | exact this) GW925.out); have hn927_2 : ad926.block ≠ gb925 := Nat.ne_of_lt (Nat.lt_of_lt_of_le (by have := World.block_lt_of_cell? _ _ hx927_0; first | rwa [add_block] at this | exact this) GW925.out); replace hx927_0 := (HB.out.cell (World.block_lt_of_cell? w _ hx927_0)).trans hx927_0; replace hx927_0 := (cell_far (p := ⟨gb925, 0, none⟩) (by first | (rw [add_block]; exact hn927_0) | (show (Addr.add _ _).block ≠ _; rw [add_block]; exact hn927_0) | exact hn927_0) (.int .i64 ((rd_T39 l0_1 x41_3).f0))).trans hx927_0; replace hx927_0 := (cell_far (p := ⟨gb925, 1, none⟩) (by first | (rw [add_block]; exact hn927_1) | (show (Addr.add _ _).block ≠ _; rw [add_block]; exact hn927_1) | exact hn927_1) (.int .i64 ((rd_T39 l0_1 x41_3).f1))).trans hx927_0; replace hx927_0 := (cell_far (p := ⟨gb925, 2, none⟩) (by first | (rw [add_block]; exact hn927_2) | (show (Addr.add _ _).block ≠ _; rw [add_block]; exact hn927_2) | exact hn927_2) (.int .i64 ((rd_T39 l0_1 x41_3).f2))).trans hx927_0; (try have hy927_0 := fun (n_ : Nat) => (show (((((w23.drewN n_).setCell ⟨gb925, 0, none⟩ (.int .i64 ((rd_T39 l0_1 x41_3).f0))).setCell ⟨gb925, 1, none⟩ (.int .i64 ((rd_T39 l0_1 x41_3).f1))).setCell ⟨gb925, 2, none⟩ (.int .i64 ((rd_T39 l0_1 x41_3).f2)))).cell? _ = some _ from hx927_0))
               clear hn927_0; clear hn927_1; clear hn927_2; replace p927 := eq_true p927; replace q927 := eq_true q927; go_wp2; repeat (go_quiet (fail); try go_wp2)
               go_meet
               case rel => exact ⟨_, (decide ((wrap64 ((rd l1 ((rd_T39 l0_1 x41_3).f1)) - (rd l1 ((rd_T39 l0_1 x41_3).f0)))) > ((rd_T39 l0_1 x41_3).f2))), rf_, H', ⟨by have := HJ2.out; have := HK2.out; have := HK3.out; first | omega | exact nR_ _⟩, ⟨by (with_reducible repeat (first | refine bN_ ?_ _ | refine bD_ ?_)); refine blk_far ?_ NB921_925.out _; (with_reducible repeat (first | refine bN_ ?_ _ | refine bD_ ?_)); refine blk_far ?_ NB921_925.out _; (with_reducible repeat (first | refine bN_ ?_ _ | refine bD_ ?_)); refine blk_far ?_ NB921_925.out _; (with_reducible repeat (first | refine bN_ ?_ _ | refine bD_ ?_)); exact BK921.out⟩, ⟨by (with_reducible repeat (first | refine bN_ ?_ _ | refine bD_ ?_)); refine blk_put (cs := #[.int .i64 ((rd_T39 l0_1 x41_3).f0), .int .i64 ((rd_T39 l0_1 x41_3).f1), .int .i64 0]) ?_ 2 _ rfl; (with_reducible repeat (first | refine bN_ ?_ _ | refine bD_ ?_)); refine blk_put (cs := #[.int .i64 ((rd_T39 l0_1 x41_3).f0), .int .i64 0, .int .i64 0]) ?_ 1 _ rfl; (with_reducible repeat (first | refine bN_ ?_ _ | refine bD_ ?_)); refine blk_put (cs := #[.int .i64 0, .int .i64 0, .int .i64 0]) ?_ 0 _ rfl; (with_reducible repeat (first | refine bN_ ?_ _ | refine bD_ ?_)); exact BK925.out⟩, ⟨hB_⟩⟩
              rw [if_neg c41] at H; exact absurd H (by simp)
             rw [if_neg c40] at H; exact absurd H (by simp)
            rw [if_neg c39] at H; exact absurd H (by simp)
           rw [if_neg c38] at H; exact absurd H (by simp)
          case rest =>
           clear HC22; (try clear c1); (try clear c2); (try clear p2); (try clear c3); (try clear c4); (try clear c5); (try clear c5b0); (try clear c5b1); (try clear c6); (try clear c6b0); (try clear c6b1); (try clear c6b2); (try clear p6); (try clear c8); (try clear c8b0); (try clear c8b1); (try clear p9); (try clear q9); (try clear hx9); (try clear qi9); (try clear c11); (try clear c12); (try clear c12b0); (try clear c13); (try clear c13b0); (try clear c14); (try clear c14b0); (try clear c16); (try clear c16b0); (try clear c17); (try clear c19); (try clear c19b0); (try clear c20); (try clear c20b0); (try clear c21); (try clear c21b0); (try clear c24); (try clear c26); (try clear c26b0); (try clear c27); (try clear c29); (try clear c29b0); (try clear c30); (try clear c32); (try clear c32b0); (try clear c33); (try clear c35); (try clear c35b0); (try clear c36); (try clear c38); (try clear c38b0); (try clear c39); (try clear c39b0); (try clear c40); (try clear c40b0); (try clear c41); (try clear c41b0); (try clear c42); (try clear hcz10_0); (try clear hcz10_1); (try clear hcz18_0); (try clear hcz18_1); (try clear hcz25_0); (try clear hcz25_1); (try clear hcz25_2); (try clear hcz28_0); (try clear hcz28_1); (try clear hcz28_2); (try clear hcz31_0); (try clear hcz31_1); (try clear hcz31_2); (try clear hcz34_0); (try clear hcz34_1); (try clear hcz34_2); (try clear hcz37_0); (try clear hcz37_1); (try clear hcz37_2); (try clear hcz43_0); (try clear hcz43_1); (try clear hcz43_2); (try clear hcz7_0); (try clear hcz7_1); (try clear hcz9_0); (try clear hcz9_1); (try clear hfz10_0); (try clear hfz10_1); (try clear hfz18_0); (try clear hfz18_1); (try clear hfz25_0); (try clear hfz25_1); (try clear hfz25_2); (try clear hfz28_0); (try clear hfz28_1); (try clear hfz28_2); (try clear hfz31_0); (try clear hfz31_1); (try clear hfz31_2); (try clear hfz34_0); (try clear hfz34_1); (try clear hfz34_2); (try clear hfz37_0); (try clear hfz37_1); (try clear hfz37_2); (try clear hfz43_0); (try clear hfz43_1); (try clear hfz43_2); (try clear hfz7_0); (try clear hfz7_1); (try clear hfz9_0); (try clear hfz9_1); (try clear hx922_0); (try clear hx923_0); (try clear hx924_0); (try clear hx924_1); (try clear hx924_2); (try clear hx926_0); (try clear hx927_0); (try clear p2); (try clear p6); (try clear p9); (try clear p922); (try clear p923); (try clear p924); (try clear p926); (try clear p927); (try clear q9); (try clear q922); (try clear q923); (try clear q924); (try clear q926); (try clear q927)
           obtain ⟨kq, x82_21, rfl, HA, HJ21, BK921, BK925, HB⟩ := hcut
           cases kq with
           | zero => exact absurd HA.out (by simp [snowlinelaw04_fulfils.j4])
           | succ kj21 =>
            have H := HA.out; clear HA; simp only [snowlinelaw04_fulfils.j4] at H; by_cases c44 : x82_21 = true
            ·subst c44
             rw [if_pos rfl] at H; obtain rfl := oI_ H; go_wp2; repeat (go_quiet (fail); try go_wp2)
             go_ret; exact ⟨eW_, hB_⟩
            replace c44 := bE_.mpr c44; subst c44; have H1 : (snowlinelaw04_fulfils.l1 kj21 l1 l0_1 (l0_1.length : Int) (wrap64 (x41_3 + 1))) = some r := by rw [if_neg (show ¬ (false = true) by decide)] at H; exact H
            clear H; have H := H1; clear H1; have H' := Z_ H; clear H; go_wp2; repeat (go_quiet (fail); try go_wp2)
            go_roundg kj21
            case measure => have := HJ2.out; have := HK2.out; have := HK3.out; have := HJ21.out; omega
            case rel => exact ⟨(wrap64 (x41_3 + 1)), rf_, H', ⟨by have := HJ2.out; have := HK2.out; have := HK3.out; have := HJ21.out; omega⟩, ⟨bR_ BK921.out⟩, ⟨hB_⟩⟩
         rw [if_neg c21] at H; exact absurd H (by simp)
        rw [if_neg c20] at H; exact absurd H (by simp)
       rw [if_neg c19] at H; have c19b0 : decide (x41_3 < (l0_1.length : Int)) = false := eF_ c19; clear c19; obtain rfl := oI_ H; go_wp2; repeat (go_quiet (fail); try go_wp2)
       go_ret; exact ⟨eW_, hB_⟩
end Go.Proofs.Ytpolojoeabmhdaa.A
/- fulfils: what it answers. -/
namespace Go.Proofs.Ytpolojoeabmhdaa.A
open Go.RowKit Go.Proofs.YtpolojoeabmhdaaW.PrintWords Go.Proofs.YtpolojoeabmhdaaW.PrintLast Go.Proofs.YtpolojoeabmhdaaW.PrintMore
theorem ful_l1 {n : Int} {L : List S39} {x : List Int} (hx : (x.length : Int) = n) (hL : L.length ≤ 65536) (hb : ∀ v, 0 ≤ v → v < n → -1099511627776 ≤ rd x v ∧ rd x v ≤ 1099511627776) : ∀ (q : Nat) (i : Int), (q : Int) + i = L.length → 0 ≤ i →
    ∃ b, Ev (fun k => snowlinelaw04_fulfils.l1 k x L L.length i) b ∧ (b = true ↔ ∀ k, i ≤ k → k < (L.length : Int) → EC n x (rd_T39 L k))
  | 0, i, hq, hi => ⟨true, Ev.step (f := fun _ => some true) (fun k => by rw [snowlinelaw04_fulfils.l1, if_neg (by omega)]) (Ev.now _), by simp; intro k h1 h2; omega⟩
  | q + 1, i, hq, hi => by
    have hlt : i < (L.length : Int) := by omega
    have hT : Ev (fun k => snowlinelaw04_fulfils.j4 k x L L.length i true) false := Ev.step (f := fun _ => some false) (fun k => by rw [snowlinelaw04_fulfils.j4]; rfl) (Ev.now _)
    have no : ¬ EC n x (rd_T39 L i) → (false = true ↔ ∀ k, i ≤ k → k < (L.length : Int) → EC n x (rd_T39 L k)) := fun h => ⟨fun h => (by cases h), fun h2 => absurd (h2 i (Int.le_refl _) hlt) h⟩
    have hst : ∀ {b}, Ev (fun k => if (rd_T39 L i).f0 < 0 then snowlinelaw04_fulfils.j4 k x L L.length i true else if (rd_T39 L i).f0 ≥ (x.length : Int) then snowlinelaw04_fulfils.j4 k x L L.length i true else if (rd_T39 L i).f1 < 0 then snowlinelaw04_fulfils.j4 k x L L.length i true else if (rd_T39 L i).f1 ≥ (x.length : Int) then snowlinelaw04_fulfils.j4 k x L L.length i true else if 0 ≤ (rd_T39 L i).f1 then (if (rd_T39 L i).f1 < (x.length : Int) then (if 0 ≤ (rd_T39 L i).f0 then (if (rd_T39 L i).f0 < (x.length : Int) then snowlinelaw04_fulfils.j4 k x L L.length i (decide (wrap64 (rd x (rd_T39 L i).f1 - rd x (rd_T39 L i).f0) > (rd_T39 L i).f2)) else none) else none) else none) else none) b → Ev (fun k => snowlinelaw04_fulfils.l1 k x L L.length i) b := fun h =>
      Ev.step (fun k => by rw [snowlinelaw04_fulfils.l1, if_pos hlt, if_pos hi, if_pos hlt]) h
    by_cases c1 : (rd_T39 L i).f0 < 0
    · exact ⟨false, hst (Ev.pos c1 hT), no fun h => by have := h.1; omega⟩
    by_cases c2 : (rd_T39 L i).f0 ≥ (x.length : Int)
    · exact ⟨false, hst (Ev.neg c1 (Ev.pos c2 hT)), no fun h => by have := h.2.1; omega⟩
    by_cases c3 : (rd_T39 L i).f1 < 0
    · exact ⟨false, hst (Ev.neg c1 (Ev.neg c2 (Ev.pos c3 hT))), no fun h => by have := h.2.2.1; omega⟩
    by_cases c4 : (rd_T39 L i).f1 ≥ (x.length : Int)
    · exact ⟨false, hst (Ev.neg c1 (Ev.neg c2 (Ev.neg c3 (Ev.pos c4 hT)))), no fun h => by have := h.2.2.2.1; omega⟩
    have b0 := hb (rd_T39 L i).f0 (by omega) (by omega)
    have b1 := hb (rd_T39 L i).f1 (by omega) (by omega)
    have hin : ∀ {b}, Ev (fun k => snowlinelaw04_fulfils.j4 k x L L.length i (decide (wrap64 (rd x (rd_T39 L i).f1 - rd x (rd_T39 L i).f0) > (rd_T39 L i).f2))) b → Ev (fun k => snowlinelaw04_fulfils.l1 k x L L.length i) b := fun h =>
      hst (Ev.neg c1 (Ev.neg c2 (Ev.neg c3 (Ev.neg c4 (Ev.pos (by omega) (Ev.pos (by omega) (Ev.pos (by omega) (Ev.pos (by omega) h))))))))
    rw [wrap_id (by omega) (by omega)] at hin
    by_cases c5 : rd x (rd_T39 L i).f1 - rd x (rd_T39 L i).f0 > (rd_T39 L i).f2
    · rw [decide_eq_true c5] at hin
      exact ⟨false, hin hT, no fun h => by have := h.2.2.2.2; omega⟩
    rw [decide_eq_false c5] at hin
    obtain ⟨b, h1, h2⟩ := ful_l1 hx hL hb q (i + 1) (by omega) (by omega)
    refine ⟨b, hin (Ev.step (f := fun k => snowlinelaw04_fulfils.l1 k x L L.length (i + 1)) (fun k => by rw [snowlinelaw04_fulfils.j4, if_neg (by decide), wrap_id (x := i + 1) (by omega) (by omega)]) h1), h2.trans ⟨fun h k k0 k1 => ?_, fun h k k0 k1 => h k (by omega) k1⟩⟩
    by_cases e : k = i
    · rw [e]; exact ⟨by omega, by omega, by omega, by omega, by omega⟩
    · exact h k (by omega) k1
theorem ful_l0 {n : Int} {L : List S39} {x : List Int} (N : Int) (hx : (x.length : Int) = n) (hn : n ≤ 65536) (hL : L.length ≤ 65536) : ∀ (q : Nat) (i : Int), (q : Int) + i = n → 0 ≤ i → (∀ v, 0 ≤ v → v < i → -1099511627776 ≤ rd x v ∧ rd x v ≤ 1099511627776) →
    ∃ b, Ev (fun k => snowlinelaw04_fulfils.l0 k x x x.length i N L) b ∧ (b = true ↔ (∀ v, 0 ≤ v → v < n → -1099511627776 ≤ rd x v ∧ rd x v ≤ 1099511627776) ∧ ∀ k, 0 ≤ k → k < (L.length : Int) → EC n x (rd_T39 L k))
  | 0, i, hq, hi, hb => by
    have hb' : ∀ v, 0 ≤ v → v < n → -1099511627776 ≤ rd x v ∧ rd x v ≤ 1099511627776 := fun v v0 v1 => hb v v0 (by omega)
    obtain ⟨b, h1, h2⟩ := ful_l1 hx hL hb' L.length 0 (by omega) (by omega)
    exact ⟨b, Ev.step (fun k => by rw [snowlinelaw04_fulfils.l0, if_neg (by omega)]) h1, h2.trans ⟨fun h => ⟨hb', h⟩, fun h => h.2⟩⟩
  | q + 1, i, hq, hi, hb => by
    have hlt : i < (x.length : Int) := by omega
    have hT : Ev (fun k => snowlinelaw04_fulfils.j2 k x x x.length i true N L) false := Ev.step (f := fun _ => some false) (fun k => by rw [snowlinelaw04_fulfils.j2]; rfl) (Ev.now _)
    by_cases c1 : rd x i < -1099511627776
    · exact ⟨false, Ev.step (f := fun k => snowlinelaw04_fulfils.j2 k x x x.length i true N L) (fun k => by rw [snowlinelaw04_fulfils.l0, if_pos hlt, if_pos hi, if_pos hlt, if_pos c1]) hT, fun h => (by cases h), fun h => by have := h.1 i hi (by omega); omega⟩
    have hin : ∀ {b}, Ev (fun k => snowlinelaw04_fulfils.j2 k x x x.length i (decide (rd x i > 1099511627776)) N L) b → Ev (fun k => snowlinelaw04_fulfils.l0 k x x x.length i N L) b := fun h =>
      Ev.step (fun k => by rw [snowlinelaw04_fulfils.l0, if_pos hlt, if_pos hi, if_pos hlt, if_neg c1]) h
    by_cases c2 : rd x i > 1099511627776
    · rw [decide_eq_true c2] at hin
      exact ⟨false, hin hT, fun h => (by cases h), fun h => by have := h.1 i hi (by omega); omega⟩
    rw [decide_eq_false c2] at hin
    obtain ⟨b, h1, h2⟩ := ful_l0 N hx hn hL q (i + 1) (by omega) (by omega) (fun v v0 v1 => by
      by_cases e : v = i
      · rw [e]; omega
      · exact hb v v0 (by omega))
    exact ⟨b, hin (Ev.step (fun k => by rw [snowlinelaw04_fulfils.j2, if_neg (by decide), wrap_id (x := i + 1) (by omega) (by omega)]) h1), h2⟩
theorem fulfils_ev (n : Int) (L : List S39) (x : List Int) (hn : n ≤ 65536) (hL : L.length ≤ 65536) : ∃ b, Ev (fun k => snowlinelaw04_fulfils.f k n L x) b ∧ (b = true ↔ Ful n L x) := by
  unfold snowlinelaw04_fulfils.f
  have hT : Ev (fun k => snowlinelaw04_fulfils.j0 k x true n L) false := Ev.step (f := fun _ => some false) (fun k => by rw [snowlinelaw04_fulfils.j0]; rfl) (Ev.now _)
  by_cases c1 : (x.length : Int) = n
  case neg => exact ⟨false, Ev.neg c1 hT, fun h => (by cases h), fun h => absurd h.l c1⟩
  by_cases c2 : (x.length : Int) = 0
  · exact ⟨false, Ev.pos c1 (Ev.pos c2 hT), fun h => (by cases h), fun h => by have := h.n0; omega⟩
  by_cases c3 : rd x 0 = 0
  case neg =>
    refine ⟨false, Ev.pos c1 (Ev.neg c2 (Ev.pos (by omega) ?_)), fun h => (by cases h), fun h => absurd h.z c3⟩
    rw [show (rd x 0 != 0) = true from bne_iff_ne.mpr c3]
    exact hT
  obtain ⟨b, h1, h2⟩ := ful_l0 n c1 hn hL x.length 0 (by omega) (by omega) (fun v v0 v1 => by omega)
  refine ⟨b, Ev.pos c1 (Ev.neg c2 (Ev.pos (by omega) ?_)), h2.trans ⟨fun h => ⟨c1, by omega, c3, h.1, h.2⟩, fun h => ⟨h.b, h.e⟩⟩⟩
  rw [show (rd x 0 != 0) = false from bne_eq_false_iff_eq.mpr c3]
  exact Ev.step (fun k => by rw [snowlinelaw04_fulfils.j0, if_neg (by decide)]) h1
end Go.Proofs.Ytpolojoeabmhdaa.A
namespace Go.Proofs.Ytpolojoeabmhdaa.A
open Go.RowKit Go.Proofs.YtpolojoeabmhdaaW.PrintWords Go.Proofs.YtpolojoeabmhdaaW.PrintLast Go.Proofs.YtpolojoeabmhdaaW.PrintMore
attribute [local go_sem] max2_int min2_int max_two min_two max_three min_three max_four min_four
def snowlinelaw04_small.f (a0_0 : Int) (l0_1 : List (S39)) : Option (Bool) := if a0_0 ≤ 16 then (some (decide ((l0_1.length : Int) ≤ 60))) else (some false)
set_option maxHeartbeats 8000000 in
set_option maxRecDepth 100000 in
theorem snowlinelaw04_small.calls (a0_0 : Int) (A0_1 : Option Addr) (c0_1 : Nat) (l0_1 : List (S39)) (r : Bool) (w : World) (hr0_1 : Kd.C k39 w A0_1 l0_1.length l0_1) (hc0_1 : l0_1.length ≤ c0_1) (h : snowlinelaw04_small.f a0_0 l0_1 = some r) :
  Calls Try.prog 23 #[.agg #[.int .i64 a0_0, .slice A0_1 l0_1.length c0_1]] w fun e w' => e = .returned (.bool r) ∧ Below w.heap.size w w' := by
 have hu24 := Try.underlying24; have HR0_1 := Z_ hr0_1; have HC0_1 := Z_ hc0_1; clear hr0_1 hc0_1; have HB := Z_ (Below.refl w.heap.size w); have H : (if a0_0 ≤ 16 then (some (decide ((l0_1.length : Int) ≤ 60))) else (some false)) = some r := h; clear h; by_cases c2 : a0_0 ≤ 16
 ·rw [if_pos c2] at H
  have c2b0 : decide (a0_0 ≤ 16) = true := eT_ c2; clear c2; obtain rfl := oI_ H; go_enter Try.func23, Try.ntmps23; go_wp2_with (first | ((with_reducible refine gate_dst (N := 1) rfl ?_); (try (refine gate_guard (by rfl) ?_; dsimp only)); refine bX_ 1 #[.int .i64 a0_0, .slice A0_1 l0_1.length c0_1] 24 ?_; intro gb338 hg w3 hbox hb; have BK338 := Z_ (hbox); have GW338 := Z_ ((by rw [hg]; exact (fZ_ hB_) : w.heap.size ≤ gb338)); have GE338 := Z_ ((by rw [hg]; exact (fZ_ hB_) : w.heap.size ≤ gb338)); replace HB := Z_ (fS_ hB_ hb); clear hb hbox hg; obtain ⟨⟨hcz4_0, hcz4_1⟩, hfz4_0, hfz4_1⟩ := f2_ BK338.out)); go_ret; exact ⟨eW_, hB_⟩
 rw [if_neg c2] at H; have c2b0 : decide (a0_0 ≤ 16) = false := eF_ c2; clear c2; obtain rfl := oI_ H; go_enter Try.func23, Try.ntmps23; go_wp2_with (first | ((with_reducible refine gate_dst (N := 1) rfl ?_); (try (refine gate_guard (by rfl) ?_; dsimp only)); refine bX_ 1 #[.int .i64 a0_0, .slice A0_1 l0_1.length c0_1] 24 ?_; intro gb338 hg w5 hbox hb; have BK338 := Z_ (hbox); have GW338 := Z_ ((by rw [hg]; exact (fZ_ hB_) : w.heap.size ≤ gb338)); have GE338 := Z_ ((by rw [hg]; exact (fZ_ hB_) : w.heap.size ≤ gb338)); replace HB := Z_ (fS_ hB_ hb); clear hb hbox hg; obtain ⟨⟨hcz6_0, hcz6_1⟩, hfz6_0, hfz6_1⟩ := f2_ BK338.out)); go_ret; exact ⟨eW_, hB_⟩
end Go.Proofs.Ytpolojoeabmhdaa.A
