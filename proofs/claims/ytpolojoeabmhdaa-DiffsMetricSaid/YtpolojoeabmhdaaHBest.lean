/- best: the use of the differences that fill ends with. -/
import Derived.Test.YtpolojoeabmhdaaHFill
import Derived.Test.YtpolojoeabmhdaaHSolve
import Derived.Test.YtpolojoeabmhdaaAf77
import Derived.Test.YtpolojoeabmhdaaAf98
namespace Go.Proofs.Ytpolojoeabmhdaa.A
open Go.RowKit Go.Proofs.YtpolojoeabmhdaaW.PrintWords Go.Proofs.YtpolojoeabmhdaaW.PrintLast Go.Proofs.YtpolojoeabmhdaaW.PrintMore
set_option linter.unusedVariables false
set_option linter.unusedSimpArgs false
def bestOk (n0 : Int) (diffs : List S39) (wn : List Int) : Bool := decide (diffs.length ≤ 65536) && decide (wn.length ≤ 65536) && decide (n0 ≤ 4611686018427387904) && diffs.all (fun d => decide (-4611686018427387904 ≤ d.f2) && decide (d.f2 ≤ 4611686018427387904))
theorem bestOk_iff {n0 : Int} {diffs : List S39} {wn : List Int} (h : bestOk n0 diffs wn = true) : diffs.length ≤ 65536 ∧ wn.length ≤ 65536 ∧ n0 ≤ 4611686018427387904 ∧ ∀ d ∈ diffs, -4611686018427387904 ≤ d.f2 ∧ d.f2 ≤ 4611686018427387904 := by
 simp only [bestOk, Bool.and_eq_true, decide_eq_true_eq, List.all_eq_true] at h
 exact ⟨h.1.1.1, h.1.1.2, h.1.2, fun d hd => h.2 d hd⟩
def diffs_best.f (k : Nat) (a0_0 : Int) (l0_1 : List (S39)) (l1 : List Int) : Option (Bool × List Int × List Int × Int) := (diffs_weighty.f a0_0 l0_1 l1).bind fun t233 => ((diffs_asked.f k a0_0 l0_1 (([t233] : List Bool))).bind fun t237 => (if t237 = 0 then ((diffs_solve.f k a0_0 l0_1).bind fun bt => (if bt.2.2.2.2 ≥ 0 then (some (false, [], [], 41)) else (if bestOk a0_0 l0_1 l1 = true then ((fillL k a0_0 l0_1 (List.replicate l0_1.length 0) l1).bind fun r => some (r.1, r.2.1, r.2.2, 0)) else none))) else (some (false, [], [], t237))))
/-- What best leaves in the memory. -/
def BestPost (a0_0 : Int) (A0_1 : Option Addr) (c0_1 : Nat) (l0_1 : List S39) (w : World) (r1 : Bool) (r2 r3 : List Int) (r4 : Int) (e : Ending) (w' : World) : Prop :=
 (r4 ≠ 0 ∧ e = .returned (.tuple #[.pointer none, .bool r1, .int .i64 r4]) ∧ Below w.heap.size w w') ∨
 (r4 = 0 ∧ ∃ (g : Nat) (AF : Option Addr) (nF cF : Nat) (AW : Option Addr) (nW cW : Nat), e = .returned (.tuple #[.pointer (some ⟨g, 0, none⟩), .bool r1, .int .i64 0]) ∧ w.heap.size ≤ g ∧ nF = l0_1.length ∧ l0_1.length ≤ 65536 ∧ (∀ d ∈ l0_1, -4611686018427387904 ≤ d.f2 ∧ d.f2 ≤ 4611686018427387904) ∧ Us g a0_0 A0_1 l0_1.length c0_1 AF nF cF AW nW cW w r2 r3 w')
set_option maxHeartbeats 8000000 in
set_option maxRecDepth 100000 in
theorem diffs_best.calls (k : Nat) (a0_0 : Int) (A0_1 : Option Addr) (c0_1 : Nat) (l0_1 : List (S39)) (A1 : Option Addr) (c1 : Nat) (l1 : List Int) (r1 : Bool) (r2 r3 : List Int) (r4 : Int) (w : World) (hr0_1 : Kd.C k39 w A0_1 l0_1.length l0_1) (hc0_1 : l0_1.length ≤ c0_1) (hr1 : Kd.C (Kd.int .i64) w A1 l1.length l1) (hc1 : l1.length ≤ c1) (h : diffs_best.f k a0_0 l0_1 l1 = some (r1, r2, r3, r4)) :
  Calls Try.prog 79 #[.agg #[.int .i64 a0_0, .slice A0_1 l0_1.length c0_1], .slice A1 l1.length c1] w (BestPost a0_0 A0_1 c0_1 l0_1 w r1 r2 r3 r4) := by
 have hu24 := Try.underlying24
 have hu88 := Try.underlying88
 have HR0_1 := Aside0.mk hr0_1
 have HC0_1 := Aside0.mk hc0_1
 clear hr0_1 hc0_1
 have HR1 := Aside0.mk hr1
 have HC1 := Aside0.mk hc1
 clear hr1 hc1
 have HB := Aside0.mk (Below.refl w.heap.size w)
 obtain ⟨t233, A30, H⟩ := Option.bind_eq_some_iff.mp h
 clear h
 have A3 := Aside0.mk A30
 clear A30
 obtain ⟨y234, hy234⟩ : ∃ y_ : List Bool, y_ = (([t233] : List Bool)) := ⟨_, rfl⟩
 rw [← hy234] at H
 have Ny234 := Aside0.mk hy234
 clear hy234
 obtain ⟨t237, A40, H⟩ := Option.bind_eq_some_iff.mp H
 have A4 := Aside0.mk A40
 clear A40
 have HH := Aside0.mk H
 clear H
 go_enter Try.func79, Try.ntmps79
 try go_wp2_with (first | ((with_reducible refine gate_dst (N := 2) rfl ?_); refine box_event ?hg (N := 2) ?hd (cs := #[.int .i64 a0_0, .slice A0_1 l0_1.length c0_1]) (t := 24) ?hr ?_; (case hd => rfl); (case hg => rfl); (case hr => first | (go_simp; done) | (go_simp; rfl)); intro gb232 hg w38 hbox hb; have BK232 := Aside0.mk (hbox); have GW232 := Aside0.mk ((by rw [hg]; exact (below_size HB.out) : w.heap.size ≤ gb232)); have GE232 := Aside0.mk ((by rw [hg]; exact (below_size HB.out) : w.heap.size ≤ gb232)); replace HB := Aside0.mk (below_step HB.out hb); clear hb hbox hg))
 replace BK232 := Aside0.mk (blk_drew BK232.out)
 replace HB := Aside0.mk (below_drew1 HB.out)
 refine start_ (n := 7) (S := fun w' => w'.cell? ⟨gb232, 0, none⟩ = some (.int .i64 a0_0) ∧ w'.cell? ⟨gb232, 1, none⟩ = some (.slice A0_1 l0_1.length c0_1)) (ds := []) #[false, false, false, false, false, false, false] (by kernel_rfl) rfl rfl ⟨(blk_cell BK232.out 0).trans rfl, (blk_cell BK232.out 1).trans rfl⟩ (fun hHeld => ?_)
 generalize w38.drew = w39 at BK232 HB hHeld ⊢
 refine pure_ (i := 2) (N := some 15) (v := ?_) (a' := ?_) #[false, false, true, false, false, false, false] rfl rfl (by kernel_rfl) (fun _ _ _ h => h) (Or.inl ⟨by rfl, ?_⟩) ?_ ?_
 rotate_left
 ·intro w'; go_simp; with_reducible rfl
 rotate_left
 ·simp only [Act.put, List.setIfInBounds_toArray, List.set_cons_zero, List.set_cons_succ, i64_w]; rfl
 refine take_ (i := 0) (N := some 13) (v := ?_) (a' := ?_) #[true, false, true, false, false, false, false] rfl rfl (by kernel_rfl) (fun _ _ _ h => h) (Or.inl ⟨by rfl, ?_⟩) hHeld ?_ ?_
 rotate_left
 ·rintro w' ⟨s0, s1⟩; go_simp; with_reducible rfl
 rotate_left
 ·simp only [Act.put, List.setIfInBounds_toArray, List.set_cons_zero, List.set_cons_succ, i64_w]; rfl
 refine take_ (i := 1) (N := some 14) (v := ?_) (a' := ?_) #[true, true, true, false, false, false, false] rfl rfl (by kernel_rfl) (fun _ _ _ h => h) (Or.inl ⟨by rfl, ?_⟩) hHeld ?_ ?_
 rotate_left
 ·rintro w' ⟨s0, s1⟩; go_simp; with_reducible rfl
 rotate_left
 ·simp only [Act.put, List.setIfInBounds_toArray, List.set_cons_zero, List.set_cons_succ, i64_w]; rfl
 refine one_ (i := 3) (N := some 16) #[true, true, true, true, false, false, false] rfl rfl (by kernel_rfl) (by decide) (fun K hK => ?_)
 refine goes_ Try.func98 (by kernel_rfl) rfl #[.agg #[.int .i64 a0_0, .slice A0_1 l0_1.length c0_1], .slice A1 l1.length c1] (by rfl) rfl rfl (by (try simp only [List.map_toArray, List.map_cons, List.map_nil]); first | done | rfl | (simp only [List.length_drop, List.length_take]; rfl)) ?_
 with_reducible refine (diffs_weighty.calls a0_0 _ _ l0_1 _ _ l1 t233 _ ?side1 ?side2 ?side3 ?side4 A3.out).mono ?_
 (case side1 => exact (Kd.C_below HR0_1.out HB.out))
 (case side2 => exact HC0_1.out)
 (case side3 => exact (Kd.C_below HR1.out HB.out))
 (case side4 => exact HC1.out)
 rintro e w40 ⟨rfl, hb⟩
 refine ⟨_, rfl, ?_⟩
 replace BK232 := Aside0.mk (blk_below (g := gb232) (o := .cells #[.int .i64 a0_0, .slice A0_1 l0_1.length c0_1] 24 (0, 0)) BK232.out hb)
 replace HB := Aside0.mk (below_step HB.out hb)
 (try clear hb)
 (try clear hb2)
 (try clear hk)
 (try clear hi)
 refine hK.out _ _ ⟨(blk_cell BK232.out 0).trans rfl, (blk_cell BK232.out 1).trans rfl⟩ (fun hHeld => ?_)
 clear hK K
 refine norm_ (a' := ?_) ?_ ?_
 rotate_left
 ·show Act.put _ (some 16) _ = _; simp only [Act.put, List.setIfInBounds_toArray, List.set_cons_zero, List.set_cons_succ, i64_w]; rfl
 refine one_ (i := 4) (N := some 17) #[true, true, true, true, true, false, false] rfl rfl (by kernel_rfl) (by decide) (fun K hK => ?_)
 refine Kd.R_lit_step Kd.bool _ 4 ?hg (N := 17) ?hd (xs := ([t233] : List Bool)) (inner := [.bool t233]) (ok := fun _ => True) (okp := fun _ => True) ?hr ?hp (fun _ hk => hk) trivial (Below.refl _ _) (Nat.le_refl _) (by simp) ?_; (case hd => rfl); (case hg => rfl); (case hr => first | (go_simp; done) | (go_simp; rfl)); (case hp => exact (Reps.one (show Kd.M Kd.bool _ _ _ t233 [.bool t233] from rfl) (Reps.none _ _)))
 intro v235 w41 ho42 hb hg_ hnew_
 clear hg_ hnew_
 (first | rw [← Ny234.out] at ho42 | (simp only [Int.reduceToNat] at ho42; rw [← Ny234.out] at ho42))
 have HO236 := Aside0.mk (Kd.R_lower ho42 (below_size HB.out))
 replace BK232 := Aside0.mk (blk_below (g := gb232) (o := .cells #[.int .i64 a0_0, .slice A0_1 l0_1.length c0_1] 24 (0, 0)) BK232.out hb)
 replace HB := Aside0.mk (below_step HB.out hb)
 clear hb ho42
 obtain ⟨Ao43, co43, eo43⟩ := Kd.R_slice HO236.out
 (first | subst eo43 | (injection eo43 with f1_ f2_ f3_; have f4_ := f1_.symm; have f5_ := f3_.symm; clear f1_ f2_ f3_; subst f4_; subst f5_))
 refine hK.out _ _ ⟨(blk_cell BK232.out 0).trans rfl, (blk_cell BK232.out 1).trans rfl⟩ (fun hHeld => ?_)
 clear hK K
 refine norm_ (a' := ?_) ?_ ?_
 rotate_left
 ·show Act.put _ (some 17) _ = _; simp only [Act.put, List.setIfInBounds_toArray, List.set_cons_zero, List.set_cons_succ, i64_w]; rfl
 refine one_ (i := 5) (N := some 18) #[true, true, true, true, true, true, false] rfl rfl (by kernel_rfl) (by decide) (fun K hK => ?_)
 refine goes_ Try.func77 (by kernel_rfl) rfl #[.agg #[.int .i64 a0_0, .slice A0_1 l0_1.length c0_1], .slice Ao43 y234.length co43] (by rfl) rfl rfl (by (try simp only [List.map_toArray, List.map_cons, List.map_nil]); first | done | rfl | (simp only [List.length_drop, List.length_take]; rfl)) ?_
 with_reducible refine (diffs_asked.calls k a0_0 _ _ l0_1 _ _ y234 t237 _ ?side1 ?side2 ?side3 ?side4 A4.out).mono ?_
 (case side1 => exact (Kd.C_below HR0_1.out HB.out))
 (case side2 => exact HC0_1.out)
 (case side3 => repeat (first | exact (Kd.R_reads' HO236.out).2.2 | (with_reducible refine Kd.C_alloc ?_ _) | (with_reducible refine Kd.C_drewN ?_ _) | (with_reducible refine Kd.C_drew ?_)))
 (case side4 => exact (Kd.R_reads' HO236.out).2.1)
 rintro e w44 ⟨rfl, hb⟩
 refine ⟨_, rfl, ?_⟩
 replace HO236 := Aside0.mk (Kd.R_below HO236.out hb)
 replace BK232 := Aside0.mk (blk_below (g := gb232) (o := .cells #[.int .i64 a0_0, .slice A0_1 l0_1.length c0_1] 24 (0, 0)) BK232.out hb)
 replace HB := Aside0.mk (below_step HB.out hb)
 (try clear hb)
 (try clear hb2)
 (try clear hk)
 (try clear hi)
 refine hK.out _ _ ⟨(blk_cell BK232.out 0).trans rfl, (blk_cell BK232.out 1).trans rfl⟩ (fun hHeld => ?_)
 clear hK K
 refine norm_ (a' := ?_) ?_ ?_
 rotate_left
 ·show Act.put _ (some 18) _ = _; simp only [Act.put, List.setIfInBounds_toArray, List.set_cons_zero, List.set_cons_succ, i64_w]; rfl
 refine pure_ (i := 6) (N := some 7) (v := ?_) (a' := ?_) #[true, true, true, true, true, true, true] rfl rfl (by kernel_rfl) (fun _ _ _ h => h) (Or.inl ⟨by rfl, ?_⟩) ?_ ?_
 rotate_left
 ·intro w'; go_simp; with_reducible rfl
 rotate_left
 ·simp only [Act.put, List.setIfInBounds_toArray, List.set_cons_zero, List.set_cons_succ, i64_w]; rfl
 refine done_ (by kernel_rfl) ?_
 by_cases c5 : t237 = 0
 case neg =>
  have H := HH.out
  rw [if_neg c5] at H
  have c5b1 : (t237 != 0) = true := bne_iff_ne.mpr c5
  simp only [Option.some.injEq, Prod.mk.injEq] at H
  obtain ⟨rfl, rfl, rfl, rfl⟩ := H
  have C5 := Aside0.mk c5
  clear c5 HH
  go_wp2
  go_ret3
  exact Or.inl ⟨C5.out, rfl, HB.out⟩
 case pos =>
  have H := HH.out
  rw [if_pos c5] at H
  have c5b1 : (t237 != 0) = false := bne_eq_false_iff_eq.mpr c5
  obtain ⟨⟨t238, t241, t244, t247, t250⟩, A60, H⟩ := Option.bind_eq_some_iff.mp H
  have A6 := Aside0.mk A60
  have HH2 := Aside0.mk H
  clear A60 H HH c5
  have hcz30_0 : w44.cell? ⟨gb232, 0, none⟩ = some (.int .i64 a0_0) := (blk_cell BK232.out 0).trans rfl
  have hcz30_1 : w44.cell? ⟨gb232, 1, none⟩ = some (.slice A0_1 l0_1.length c0_1) := (blk_cell BK232.out 1).trans rfl
  obtain ⟨b7, hb7⟩ : ∃ b, decide (0 ≤ t250) = b := ⟨_, rfl⟩
  go_upto_if 31 with (first
   | ((with_reducible refine gate_callee (f := 81) rfl ?_); refine goesL_ (some 26) rfl rfl Try.func81 (by kernel_rfl) rfl #[.iface 100 (.agg #[.int .i64 a0_0, .slice A0_1 l0_1.length c0_1])] rfl (by (try simp only [List.map_toArray, List.map_cons, List.map_nil]); first | done | rfl) ?_; refine (diffs_solve.calls k a0_0 _ _ l0_1 t238 t241 t244 t247 t250 _ (Kd.C_below HR0_1.out HB.out) HC0_1.out A6.out).mono ?_; rintro e w31 ⟨v239, v242, v245, v248, rfl, ho0, ho1, ho2, ho3, hb⟩; refine ⟨_, rfl, ?_⟩; have n0_ := Aside0.mk (blk_below BK232.out hb); have n1_ := Aside0.mk (below_step HB.out hb); clear BK232 HB HO236 hcz30_0 hcz30_1; have BK232 := n0_; have HB := n1_; clear n0_ n1_ hb; (obtain ⟨Ao31, co31, eo31, _⟩ := Kd.R_reads ho0); subst eo31; (obtain ⟨Ao32, co32, eo32, _⟩ := Kd.R_reads ho1); subst eo32; (obtain ⟨Ao33, co33, eo33, _⟩ := Kd.R_reads ho2); subst eo33; (obtain ⟨Ao34, co34, eo34, _⟩ := Kd.R_reads ho3); subst eo34; clear ho0 ho1 ho2 ho3)
   | ((with_reducible refine gate_dst (N := 9) rfl ?_); refine box_event ?hg (N := 9) ?hd (cs := #[.slice none 0 0, .slice none 0 0, .slice none 0 0]) (t := 88) ?hr ?_; (case hd => rfl); (case hg => rfl); (case hr => first | (go_simp; done) | (go_simp; rfl)); intro g9 hg9 w32 hbox hb; have n0_ := Aside0.mk (blk_below BK232.out hb); have n1_ := Aside0.mk (below_step HB.out hb); have NG := Aside0.mk (show w.heap.size ≤ g9 ∧ gb232 ≠ g9 from ⟨by rw [hg9]; exact HB.out.size, by rw [hg9]; exact Nat.ne_of_lt (blk_lt BK232.out)⟩); have BT := Aside0.mk hbox; clear BK232 HB hb hbox hg9; have BK232 := n0_; have HB := n1_; clear n0_ n1_)
   | (refine gate_store (t := 88) (p := 9) (v := .tmp 28) rfl ?_; refine store_box rfl rfl 88 (.tmp 9) (.tmp 28) rfl [.slice Ao32 t241.length co32, .slice Ao33 t244.length co33, .slice Ao34 t247.length co34] (by rfl) g9 rfl _ rfl rfl (by intro q hq; simp only [List.mem_cons, List.not_mem_nil, or_false] at hq; rcases hq with rfl | rfl | rfl <;> rfl) _ BT.out rfl ?_; intro w33 hb5 hg5; replace BK232 := Aside0.mk (blk_grown BK232.out hg5 (fun e => NG.out.2 (Option.some.inj e))); replace HB := Aside0.mk (HB.out.grown hg5 HB.out.size (fun k e => by cases e; exact NG.out.1)); clear BT hb5 hg5))
  cases b7 with
  | true =>
   have c7 := of_decide_eq_true hb7
   have H := HH2.out
   simp only [ge_iff_le] at H
   rw [if_pos c7] at H
   simp only [Option.some.injEq, Prod.mk.injEq] at H
   obtain ⟨rfl, rfl, rfl, rfl⟩ := H
   clear HH2 c7
   go_wp2
   go_ret3
   exact Or.inl ⟨by decide, rfl, HB.out⟩
  | false =>
   have c7 := of_decide_eq_false hb7
   have H := HH2.out
   simp only [ge_iff_le] at H
   rw [if_neg c7] at H
   by_cases cb : bestOk a0_0 l0_1 l1 = true
   case neg => rw [if_neg cb] at H; exact absurd H (by simp)
   rw [if_pos cb] at H
   obtain ⟨⟨q1, q2, q3⟩, hfill, H⟩ := Option.bind_eq_some_iff.mp H
   simp only [Option.some.injEq, Prod.mk.injEq] at H
   obtain ⟨rfl, rfl, rfl, rfl⟩ := H
   have HFI := Aside0.mk hfill
   have HOK := Aside0.mk (bestOk_iff cb)
   clear HH2 hfill cb c7
   go_wp2
   replace BK232 := Aside0.mk (blk_drew BK232.out)
   replace HB := Aside0.mk (below_drew1 HB.out)
   refine start_ (n := 10) (S := fun w' => w'.cell? ⟨gb232, 0, none⟩ = some (.int .i64 a0_0) ∧ w'.cell? ⟨gb232, 1, none⟩ = some (.slice A0_1 l0_1.length c0_1)) (ds := []) #[false, false, false, false, false, false, false, false, false, false] (by kernel_rfl) rfl rfl ⟨(blk_cell BK232.out 0).trans rfl, (blk_cell BK232.out 1).trans rfl⟩ (fun hHeld => ?_)
   generalize w33.drew = w34 at BK232 HB hHeld ⊢
   refine pure_ (i := 1) (N := some 33) (v := ?_) (a' := ?_) #[false, true, false, false, false, false, false, false, false, false] rfl rfl (by kernel_rfl) (fun _ _ _ h => h) (Or.inl ⟨by rfl, ?_⟩) ?_ ?_
   rotate_left
   ·intro w'; go_simp; with_reducible rfl
   rotate_left
   ·simp only [Act.put, List.setIfInBounds_toArray, List.set_cons_zero, List.set_cons_succ, i64_w]; rfl
   refine pure_ (i := 5) (N := some 37) (v := ?_) (a' := ?_) #[false, true, false, false, false, true, false, false, false, false] rfl rfl (by kernel_rfl) (fun _ _ _ h => h) (Or.inl ⟨by rfl, ?_⟩) ?_ ?_
   rotate_left
   ·intro w'; go_simp; with_reducible rfl
   rotate_left
   ·simp only [Act.put, List.setIfInBounds_toArray, List.set_cons_zero, List.set_cons_succ, i64_w]; rfl
   refine take_ (i := 0) (N := some 32) (v := ?_) (a' := ?_) #[true, true, false, false, false, true, false, false, false, false] rfl rfl (by kernel_rfl) (fun _ _ _ h => h) (Or.inl ⟨by rfl, ?_⟩) hHeld ?_ ?_
   rotate_left
   ·rintro w' ⟨s0, s1⟩; go_simp; with_reducible rfl
   rotate_left
   ·simp only [Act.put, List.setIfInBounds_toArray, List.set_cons_zero, List.set_cons_succ, i64_w]; rfl
   refine take_ (i := 2) (N := some 34) (v := ?_) (a' := ?_) #[true, true, true, false, false, true, false, false, false, false] rfl rfl (by kernel_rfl) (fun _ _ _ h => h) (Or.inl ⟨by rfl, ?_⟩) hHeld ?_ ?_
   rotate_left
   ·rintro w' ⟨s0, s1⟩; go_simp; with_reducible rfl
   rotate_left
   ·simp only [Act.put, List.setIfInBounds_toArray, List.set_cons_zero, List.set_cons_succ, i64_w]; rfl
   refine pure_ (i := 3) (N := some 35) (v := ?_) (a' := ?_) #[true, true, true, true, false, true, false, false, false, false] rfl rfl (by kernel_rfl) (fun _ _ _ h => h) (Or.inl ⟨by rfl, ?_⟩) ?_ ?_
   rotate_left
   ·intro w'; go_simp; with_reducible rfl
   rotate_left
   ·simp only [Act.put, List.setIfInBounds_toArray, List.set_cons_zero, List.set_cons_succ, i64_w]; rfl
   refine join_ (σ := Value × Value) 3 #[true, true, true, true, true, true, true, false, false, false] (fun s_ => [(36, s_.1), (38, s_.2)]) (fun s_ w' => (w'.cell? ⟨gb232, 0, none⟩ = some (.int .i64 a0_0) ∧ w'.cell? ⟨gb232, 1, none⟩ = some (.slice A0_1 l0_1.length c0_1)) ∧ Kd.R (Kd.int .i64) 3 w' w.heap.size (fun _ => True) s_.1 (List.replicate l0_1.length 0) ∧ Kd.R (Kd.int .i64) 3 w' w.heap.size (fun _ => True) s_.2 l1 ∧ Dj s_.1 s_.2 ∧ (w'.heap[gb232]? = some (.cells #[.int .i64 a0_0, .slice A0_1 l0_1.length c0_1] 24 (0, 0))) ∧ Below w.heap.size w w') ?_ ?_
   rotate_left
   ·intro hCont
    refine two_ (i := 4) (j := 6) (Ni := some 36) (Nj := some 38) #[true, true, true, true, true, true, false, false, false, false] #[true, true, true, true, false, true, true, false, false, false] rfl rfl rfl rfl (by kernel_rfl) (by decide) (by decide) (fun K hK => ?_) (fun K hK => ?_)
    ·skip
     refine Kd.R_make_step (Kd.int .i64) _ 3 (by rfl) (N := 36) rfl 29 _ _ rfl (l0_1.length : Int) (by rfl) (by rfl) Try.underlying29 (.int .i64 0) 8 info3 rfl (by decide) (by omega) 0 (ok := fun _ => True) (okp := fun _ => True) rfl (fun _ hk => hk) trivial (by omega) (by have := HOK.out.1; omega) (Below.refl _ _) (Nat.le_refl _) ?_
     intro vF w35 ho hb hg hnew
     simp only [Int.toNat_natCast] at ho
     have n0_ := Aside0.mk (blk_below BK232.out hb)
     have n1_ := Aside0.mk (below_step HB.out hb)
     have HF0 := Aside0.mk ho
     have HS0 := Aside0.mk HB.out.size
     clear BK232 HB hb ho
     have BK232 := n0_
     have HB := n1_
     clear n0_ n1_
     refine hK.out _ _ ⟨(blk_cell BK232.out 0).trans rfl, (blk_cell BK232.out 1).trans rfl⟩ (fun hHeld => ?_)
     clear hK K
     refine norm_ (a' := ?_) ?_ ?_
     rotate_left
     ·show Act.put _ (some 36) _ = _; simp only [Act.put, List.setIfInBounds_toArray, List.set_cons_zero, List.set_cons_succ, i64_w]; rfl
     refine one_ (i := 6) (N := some 38) #[true, true, true, true, true, true, true, false, false, false] rfl rfl (by kernel_rfl) (by decide) (fun K hK => ?_)
     refine goes_ Try.func99 (by kernel_rfl) rfl #[.slice A1 l1.length c1] (by rfl) rfl rfl (by (try simp only [List.map_toArray, List.map_cons, List.map_nil]); first | done | rfl) ?_
     refine (slices_Clone_int_int.calls _ _ l1 l1 _ (Kd.C_below HR1.out HB.out) HC1.out (by unfold slices_Clone_int_int.f; rw [if_pos HOK.out.2.1])).mono ?_
     rintro e w36 ⟨vW, rfl, ho, hb⟩
     refine ⟨_, rfl, ?_⟩
     have n0_ := Aside0.mk (blk_below BK232.out hb)
     have n1_ := Aside0.mk (below_step HB.out hb)
     have HW0 := Aside0.mk ho
     have HF1 := Aside0.mk (Kd.R_below HF0.out hb)
     have HDJ := Aside0.mk (Dj.fresh HF0.out ho (Nat.le_refl _))
     have n2_ := Aside0.mk HB.out.size
     clear BK232 HB hb ho
     have BK232 := n0_
     have HB := n1_
     clear n0_ n1_
     refine hK.out _ _ ⟨(blk_cell BK232.out 0).trans rfl, (blk_cell BK232.out 1).trans rfl⟩ (fun hHeld => ?_)
     clear hK K
     refine norm_ (a' := ?_) ?_ ?_
     rotate_left
     ·show Act.put _ (some 38) _ = _; simp only [Act.put, List.setIfInBounds_toArray, List.set_cons_zero, List.set_cons_succ, i64_w]; rfl
     exact norm_ (by simp only [putAll, Act.put, List.setIfInBounds_toArray, List.set_cons_zero, List.set_cons_succ]) (hCont (vF, vW) _ ⟨hHeld, Kd.R_lower HF1.out HS0.out, Kd.R_lower HW0.out n2_.out, HDJ.out, BK232.out, HB.out⟩)
    ·skip
     refine goes_ Try.func99 (by kernel_rfl) rfl #[.slice A1 l1.length c1] (by rfl) rfl rfl (by (try simp only [List.map_toArray, List.map_cons, List.map_nil]); first | done | rfl) ?_
     refine (slices_Clone_int_int.calls _ _ l1 l1 _ (Kd.C_below HR1.out HB.out) HC1.out (by unfold slices_Clone_int_int.f; rw [if_pos HOK.out.2.1])).mono ?_
     rintro e w35 ⟨vW, rfl, ho, hb⟩
     refine ⟨_, rfl, ?_⟩
     have n0_ := Aside0.mk (blk_below BK232.out hb)
     have n1_ := Aside0.mk (below_step HB.out hb)
     have HW0 := Aside0.mk ho
     have HS0 := Aside0.mk HB.out.size
     clear BK232 HB hb ho
     have BK232 := n0_
     have HB := n1_
     clear n0_ n1_
     refine hK.out _ _ ⟨(blk_cell BK232.out 0).trans rfl, (blk_cell BK232.out 1).trans rfl⟩ (fun hHeld => ?_)
     clear hK K
     refine norm_ (a' := ?_) ?_ ?_
     rotate_left
     ·show Act.put _ (some 38) _ = _; simp only [Act.put, List.setIfInBounds_toArray, List.set_cons_zero, List.set_cons_succ, i64_w]; rfl
     refine one_ (i := 4) (N := some 36) #[true, true, true, true, true, true, true, false, false, false] rfl rfl (by kernel_rfl) (by decide) (fun K hK => ?_)
     refine Kd.R_make_step (Kd.int .i64) _ 3 (by rfl) (N := 36) rfl 29 _ _ rfl (l0_1.length : Int) (by rfl) (by rfl) Try.underlying29 (.int .i64 0) 8 info3 rfl (by decide) (by omega) 0 (ok := fun _ => True) (okp := fun _ => True) rfl (fun _ hk => hk) trivial (by omega) (by have := HOK.out.1; omega) (Below.refl _ _) (Nat.le_refl _) ?_
     intro vF w36 ho hb hg hnew
     simp only [Int.toNat_natCast] at ho
     have n0_ := Aside0.mk (blk_below BK232.out hb)
     have n1_ := Aside0.mk (below_step HB.out hb)
     have HF0 := Aside0.mk ho
     have HW1 := Aside0.mk (Kd.R_below HW0.out hb)
     have HDJ := Aside0.mk (Dj.symm (Dj.fresh HW0.out ho (Nat.le_refl _)))
     have n2_ := Aside0.mk HB.out.size
     clear BK232 HB hb ho
     have BK232 := n0_
     have HB := n1_
     clear n0_ n1_
     refine hK.out _ _ ⟨(blk_cell BK232.out 0).trans rfl, (blk_cell BK232.out 1).trans rfl⟩ (fun hHeld => ?_)
     clear hK K
     refine norm_ (a' := ?_) ?_ ?_
     rotate_left
     ·show Act.put _ (some 36) _ = _; simp only [Act.put, List.setIfInBounds_toArray, List.set_cons_zero, List.set_cons_succ, i64_w]; rfl
     exact norm_ (by simp only [putAll, Act.put, List.setIfInBounds_toArray, List.set_cons_zero, List.set_cons_succ]) (hCont (vF, vW) _ ⟨hHeld, Kd.R_lower HF0.out n2_.out, Kd.R_lower HW1.out HS0.out, HDJ.out, BK232.out, HB.out⟩)
   rintro ⟨vF, vW⟩ w37 ⟨hHeld, hF, hW, hDJ, hBK, hBL⟩
   obtain ⟨AF, cF, rfl⟩ := own_slice (Kd.own_of_R hF)
   obtain ⟨AW, cW, rfl⟩ := own_slice (Kd.own_of_R hW)
   clear BK232 HB
   have BK232 := Aside0.mk hBK
   have HB := Aside0.mk hBL
   have HF := Aside0.mk hF
   have HW := Aside0.mk hW
   have HDJ := Aside0.mk hDJ
   clear hBK hBL hF hW hDJ
   refine norm_ (a' := ?_) ?_ ?_
   rotate_left
   ·simp only [putAll, Act.put, List.setIfInBounds_toArray, List.set_cons_zero, List.set_cons_succ]
    rfl
   refine pure_ (i := 7) (N := some 39) (v := ?_) (a' := ?_) #[true, true, true, true, true, true, true, true, false, false] rfl rfl (by kernel_rfl) (fun _ _ _ h => h) (Or.inl ⟨by rfl, ?_⟩) ?_ ?_
   rotate_left
   ·intro w'; go_simp; with_reducible rfl
   rotate_left
   ·simp only [Act.put, List.setIfInBounds_toArray, List.set_cons_zero, List.set_cons_succ, i64_w]; rfl
   refine one_ (i := 8) (N := some 40) #[true, true, true, true, true, true, true, true, true, false] rfl rfl (by kernel_rfl) (by decide) (fun K hK => ?_)
   refine box_step ?hg (N := 40) ?hd (cs := #[.int .i64 a0_0, .slice A0_1 l0_1.length c0_1, .slice AF (List.replicate l0_1.length (0 : Int)).length cF, .slice AW l1.length cW]) (t := 96) ?hr ?_; (case hd => rfl); (case hg => rfl); (case hr => first | (go_simp; done) | (go_simp; rfl))
   intro g hg w38 hbox hb
   have HU := Aside0.mk (Us.mk (g := g) (n0 := a0_0) (AD := A0_1) (nD := l0_1.length) (cD := c0_1) (w0 := w) hbox (Kd.R_below HF.out hb) (Kd.R_below HW.out hb) (below_step HB.out hb))
   have HGE := Aside0.mk (show w.heap.size ≤ g from by rw [hg]; exact HB.out.size)
   replace BK232 := Aside0.mk (blk_below BK232.out hb)
   clear HB hb hbox hg HF HW
   refine hK.out _ _ ⟨(blk_cell BK232.out 0).trans rfl, (blk_cell BK232.out 1).trans rfl⟩ (fun hHeld => ?_)
   clear hK K
   refine norm_ (a' := ?_) ?_ ?_
   rotate_left
   ·show Act.put _ (some 40) _ = _; simp only [Act.put, List.setIfInBounds_toArray, List.set_cons_zero, List.set_cons_succ, i64_w]; rfl
   refine pure_ (i := 9) (N := some 11) (v := ?_) (a' := ?_) #[true, true, true, true, true, true, true, true, true, true] rfl rfl (by kernel_rfl) (fun _ _ _ h => h) (Or.inl ⟨by rfl, ?_⟩) ?_ ?_
   rotate_left
   ·intro w'; go_simp; with_reducible rfl
   rotate_left
   ·simp only [Act.put, List.setIfInBounds_toArray, List.set_cons_zero, List.set_cons_succ, i64_w]; rfl
   refine done_ (by kernel_rfl) ?_
   go_wp2_with ((with_reducible refine gate_callee (f := 110) rfl ?_); refine goesL_ (some 42) rfl rfl Try.func110 (by kernel_rfl) rfl #[.pointer (some ⟨g, 0, none⟩)] rfl (by (try simp only [List.map_toArray, List.map_cons, List.map_nil]); first | done | rfl) ?_; refine (use_fill.calls k g a0_0 A0_1 c0_1 l0_1 AF _ cF AW _ cW _ l1 q1 q2 q3 w _ HU.out HGE.out HR0_1.out HC0_1.out HDJ.out (List.length_replicate ..) HOK.out.1 HOK.out.2.1 HOK.out.2.2.1 HOK.out.2.2.2 HFI.out).mono ?_; rintro e w39 ⟨rfl, hu⟩; refine ⟨_, rfl, ?_⟩; clear HU; have HU := Aside0.mk hu; clear hu)
   go_ret3
   exact Or.inr ⟨rfl, g, AF, _, cF, AW, _, cW, rfl, HGE.out, List.length_replicate .., HOK.out.1, HOK.out.2.2.2, HU.out⟩
end Go.Proofs.Ytpolojoeabmhdaa.A
