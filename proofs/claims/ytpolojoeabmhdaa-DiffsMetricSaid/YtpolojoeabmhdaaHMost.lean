/- Most, Best, Flow. -/
import Derived.Test.YtpolojoeabmhdaaHBest
import Derived.Test.YtpolojoeabmhdaaAf80
namespace Go.Proofs.Ytpolojoeabmhdaa.A
open Go.RowKit Go.Proofs.YtpolojoeabmhdaaW.PrintWords Go.Proofs.YtpolojoeabmhdaaW.PrintLast Go.Proofs.YtpolojoeabmhdaaW.PrintMore
set_option linter.unusedVariables false
set_option linter.unusedSimpArgs false
/-! ### more rounds, the same answer -/
theorem pathL_mono (L : List S39) (la : List Int) : ∀ k v acc, LeO (pathL L la k v acc) (pathL L la (k + 1) v acc)
 | 0, v, acc => fun r h => by simp [pathL] at h
 | k + 1, v, acc => by
  unfold pathL
  refine LeO.ite ?_ (LeO.refl _)
  refine LeO.ite ?_ (LeO.refl _)
  exact LeO.ite (pathL_mono L la k _ _) (LeO.refl _)
theorem stepL_mono (k : Nat) (n0 : Int) (D : List S39) (fl wn : List Int) (tg : Int) (gv : List Int) : LeO (stepL k n0 D fl wn tg gv) (stepL (k + 1) n0 D fl wn tg gv) := by
 unfold stepL
 refine LeO.bind (diffs_grow.mono _ _ _ _) (fun t => ?_)
 refine LeO.ite ?_ (LeO.refl _)
 refine LeO.ite (LeO.refl _) ?_
 exact LeO.bind (pathL_mono _ _ _ _ _) (fun p => LeO.refl _)
theorem fillA_mono (k : Nat) (n0 : Int) (D : List S39) : ∀ q i fl wn, LeO (fillA k n0 D q i fl wn) (fillA (k + 1) n0 D (q + 1) i fl wn)
 | 0, i, fl, wn => fun r h => by simp [fillA] at h
 | q + 1, i, fl, wn => by
  unfold fillA
  refine LeO.ite ?_ (LeO.refl _)
  refine LeO.ite ?_ (LeO.refl _)
  refine LeO.ite ?_ (fillA_mono k n0 D q _ _ _)
  exact LeO.bind (stepL_mono _ _ _ _ _ _ _) (fun r => LeO.ite (LeO.refl _) (fillA_mono k n0 D q _ _ _))
theorem fillB_mono (k : Nat) (n0 : Int) (D : List S39) : ∀ q i fl wn, LeO (fillB k n0 D q i fl wn) (fillB (k + 1) n0 D (q + 1) i fl wn)
 | 0, i, fl, wn => fun r h => by simp [fillB] at h
 | q + 1, i, fl, wn => by
  unfold fillB
  refine LeO.ite ?_ (LeO.refl _)
  refine LeO.ite ?_ (LeO.refl _)
  refine LeO.ite ?_ (fillB_mono k n0 D q _ _ _)
  exact LeO.bind (stepL_mono _ _ _ _ _ _ _) (fun r => LeO.ite (LeO.refl _) (fillB_mono k n0 D q _ _ _))
theorem fillL_mono (k : Nat) (n0 : Int) (D : List S39) (fl wn : List Int) : LeO (fillL k n0 D fl wn) (fillL (k + 1) n0 D fl wn) := by
 unfold fillL
 exact LeO.bind (fillA_mono _ _ _ _ _ _ _) (fun r => LeO.ite (LeO.refl _) (fillB_mono _ _ _ _ _ _ _))
theorem diffs_best.mono : ∀ a0 a1 a2 k, LeO (diffs_best.f k a0 a1 a2) (diffs_best.f (k + 1) a0 a1 a2) := by
 intro a0 a1 a2 k
 unfold diffs_best.f
 refine LeO.bind (LeO.refl _) (fun t => LeO.bind (diffs_asked.mono _ _ _ _) (fun e => LeO.ite ?_ (LeO.refl _)))
 refine LeO.bind (diffs_solve.mono _ _ _) (fun bt => LeO.ite (LeO.refl _) (LeO.ite ?_ (LeO.refl _)))
 exact LeO.bind (fillL_mono _ _ _ _ _) (fun r => LeO.refl _)
def diffs_Most.f (k : Nat) (a0_0 : Int) (l0_1 : List (S39)) (l1 : List Int) : Option (Int × Bool × Int) := (diffs_best.f k a0_0 l0_1 l1).bind fun b => if b.2.2.2 = 0 then (if b.1 = true then ((diffs_cost.f k a0_0 l0_1 b.2.1).bind fun c => some (c, true, 0)) else some (0, false, 0)) else some (0, false, b.2.2.2)
theorem diffs_Most.mono : ∀ a0 a1 a2 k, LeO (diffs_Most.f k a0 a1 a2) (diffs_Most.f (k + 1) a0 a1 a2) := by
 intro a0 a1 a2 k
 unfold diffs_Most.f
 exact LeO.bind (diffs_best.mono _ _ _ _) (fun b => LeO.ite (LeO.ite (LeO.bind (diffs_cost.mono _ _ _ _) (fun c => LeO.refl _)) (LeO.refl _)) (LeO.refl _))
def diffs_Best.f (k : Nat) (a0_0 : Int) (l0_1 : List (S39)) (l1 : List Int) : Option (List Int × Bool × Int) := (diffs_best.f k a0_0 l0_1 l1).bind fun b => if b.2.2.2 = 0 then (if b.1 = true then ((diffs_solve.f k a0_0 (linesL l0_1 b.2.1)).bind fun c => some (c.1, true, 0)) else some ([], false, 0)) else some ([], false, b.2.2.2)
theorem diffs_Best.mono : ∀ a0 a1 a2 k, LeO (diffs_Best.f k a0 a1 a2) (diffs_Best.f (k + 1) a0 a1 a2) := by
 intro a0 a1 a2 k
 unfold diffs_Best.f
 exact LeO.bind (diffs_best.mono _ _ _ _) (fun b => LeO.ite (LeO.ite (LeO.bind (diffs_solve.mono _ _ _) (fun c => LeO.refl _)) (LeO.refl _)) (LeO.refl _))
def diffs_Flow.f (k : Nat) (a0_0 : Int) (l0_1 : List (S39)) (l1 : List Int) : Option (List Int × Bool × Int) := (diffs_best.f k a0_0 l0_1 l1).bind fun b => if b.2.2.2 = 0 then (if b.1 = true then some (b.2.1, true, 0) else some ([], false, 0)) else some ([], false, b.2.2.2)
theorem diffs_Flow.mono : ∀ a0 a1 a2 k, LeO (diffs_Flow.f k a0 a1 a2) (diffs_Flow.f (k + 1) a0 a1 a2) := by
 intro a0 a1 a2 k
 unfold diffs_Flow.f
 exact LeO.bind (diffs_best.mono _ _ _ _) (fun b => LeO.refl _)
/-! ### best, both ways -/
theorem diffs_best.err (k : Nat) (a0_0 : Int) (A0_1 : Option Addr) (c0_1 : Nat) (l0_1 : List (S39)) (A1 : Option Addr) (c1 : Nat) (l1 : List Int) (r1 : Bool) (r2 r3 : List Int) (r4 : Int) (w : World) (hr0_1 : Kd.C k39 w A0_1 l0_1.length l0_1) (hc0_1 : l0_1.length ≤ c0_1) (hr1 : Kd.C (Kd.int .i64) w A1 l1.length l1) (hc1 : l1.length ≤ c1) (h : diffs_best.f k a0_0 l0_1 l1 = some (r1, r2, r3, r4)) (h4 : r4 ≠ 0) :
  Calls Try.prog 79 #[.agg #[.int .i64 a0_0, .slice A0_1 l0_1.length c0_1], .slice A1 l1.length c1] w fun e w' => e = .returned (.tuple #[.pointer none, .bool r1, .int .i64 r4]) ∧ Below w.heap.size w w' :=
 (diffs_best.calls k a0_0 A0_1 c0_1 l0_1 A1 c1 l1 r1 r2 r3 r4 w hr0_1 hc0_1 hr1 hc1 h).mono fun e w' hp => by
  rcases hp with ⟨_, a, b⟩ | ⟨a, _⟩
  ·exact ⟨a, b⟩
  ·exact absurd a h4
theorem diffs_best.okay (k : Nat) (a0_0 : Int) (A0_1 : Option Addr) (c0_1 : Nat) (l0_1 : List (S39)) (A1 : Option Addr) (c1 : Nat) (l1 : List Int) (r1 : Bool) (r2 r3 : List Int) (w : World) (hr0_1 : Kd.C k39 w A0_1 l0_1.length l0_1) (hc0_1 : l0_1.length ≤ c0_1) (hr1 : Kd.C (Kd.int .i64) w A1 l1.length l1) (hc1 : l1.length ≤ c1) (h : diffs_best.f k a0_0 l0_1 l1 = some (r1, r2, r3, 0)) :
  Calls Try.prog 79 #[.agg #[.int .i64 a0_0, .slice A0_1 l0_1.length c0_1], .slice A1 l1.length c1] w fun e w' => ∃ (g : Nat) (AF : Option Addr) (nF cF : Nat) (AW : Option Addr) (nW cW : Nat), e = .returned (.tuple #[.pointer (some ⟨g, 0, none⟩), .bool r1, .int .i64 0]) ∧ w.heap.size ≤ g ∧ nF = l0_1.length ∧ l0_1.length ≤ 65536 ∧ (∀ d ∈ l0_1, -4611686018427387904 ≤ d.f2 ∧ d.f2 ≤ 4611686018427387904) ∧ Us g a0_0 A0_1 l0_1.length c0_1 AF nF cF AW nW cW w r2 r3 w' :=
 (diffs_best.calls k a0_0 A0_1 c0_1 l0_1 A1 c1 l1 r1 r2 r3 0 w hr0_1 hc0_1 hr1 hc1 h).mono fun e w' hp => by
  rcases hp with ⟨a, _⟩ | ⟨_, hp⟩
  ·exact absurd rfl a
  ·exact hp
theorem Us.graph {g : Nat} {n0 : Int} {AD : Option Addr} {diffs : List S39} {cD : Nat} {AF : Option Addr} {nF cF : Nat} {AW : Option Addr} {nW cW : Nat} {w0 : World} {fl wn : List Int} {W : World} (h : Us g n0 AD diffs.length cD AF nF cF AW nW cW w0 fl wn W) (hn : nF = diffs.length) (hl : diffs.length ≤ 65536) (hm : ∀ d ∈ diffs, -4611686018427387904 ≤ d.f2 ∧ d.f2 ≤ 4611686018427387904) (hD : Kd.C k39 W AD diffs.length diffs) (hcD : diffs.length ≤ cD) : Graph W 91 (.pointer (some ⟨g, 0, none⟩)) n0 (linesL diffs fl) := by
 obtain ⟨rfl, _, h2⟩ := Kd.R_reads' h.rf
 exact graph_use h.bu hD hcD h2 hn hl hm
set_option maxHeartbeats 4000000 in
set_option maxRecDepth 100000 in
theorem diffs_Most.calls (k : Nat) (a0_0 : Int) (A0_1 : Option Addr) (c0_1 : Nat) (l0_1 : List (S39)) (A1 : Option Addr) (c1 : Nat) (l1 : List Int) (r1 : Int) (r2 : Bool) (r3 : Int) (w : World) (hr0_1 : Kd.C k39 w A0_1 l0_1.length l0_1) (hc0_1 : l0_1.length ≤ c0_1) (hr1 : Kd.C (Kd.int .i64) w A1 l1.length l1) (hc1 : l1.length ≤ c1) (h : diffs_Most.f k a0_0 l0_1 l1 = some (r1, r2, r3)) :
  Calls Try.prog 31 #[.agg #[.int .i64 a0_0, .slice A0_1 l0_1.length c0_1], .slice A1 l1.length c1] w fun e w' => e = .returned (.tuple #[.int .i64 r1, .bool r2, .int .i64 r3]) ∧ Below w.heap.size w w' := by
 have hu24 := Try.underlying24
 have HR0_1 := Aside0.mk hr0_1
 have HC0_1 := Aside0.mk hc0_1
 have HR1 := Aside0.mk hr1
 have HC1 := Aside0.mk hc1
 clear hr0_1 hc0_1 hr1 hc1
 have HB := Aside0.mk (Below.refl w.heap.size w)
 unfold diffs_Most.f at h
 obtain ⟨⟨b1, b2, b3, b4⟩, hbe, h⟩ := Option.bind_eq_some_iff.mp h
 simp only at h
 have HBE := Aside0.mk hbe
 clear hbe
 by_cases h4 : b4 = 0
 case neg =>
  rw [if_neg h4] at h
  simp only [Option.some.injEq, Prod.mk.injEq] at h
  obtain ⟨rfl, rfl, rfl⟩ := h
  have H4 := Aside0.mk h4
  have h4b : (b4 != 0) = true := bne_iff_ne.mpr h4
  clear h4
  go_enter Try.func31, Try.ntmps31
  go_wp2_with (first | ((with_reducible refine gate_dst (N := 2) rfl ?_); refine box_event ?hg (N := 2) ?hd (cs := #[.int .i64 a0_0, .slice A0_1 l0_1.length c0_1]) (t := 24) ?hr ?_; (case hd => rfl); (case hg => rfl); (case hr => first | (go_simp; done) | (go_simp; rfl)); intro gb hgb w1 hbox hb; have BK := Aside0.mk hbox; clear HB; have HB := Aside0.mk hb; have hz0 : w1.cell? ⟨gb, 0, none⟩ = some (.int .i64 a0_0) := (blk_cell hbox 0).trans rfl; have hz1 : w1.cell? ⟨gb, 1, none⟩ = some (.slice A0_1 l0_1.length c0_1) := (blk_cell hbox 1).trans rfl; clear hbox hb hgb) | ((with_reducible refine gate_callee (f := 79) rfl ?_); refine goesL_ (some 13) rfl rfl Try.func79 (by kernel_rfl) rfl #[.agg #[.int .i64 a0_0, .slice A0_1 l0_1.length c0_1], .slice A1 l1.length c1] rfl (by (try simp only [List.map_toArray, List.map_cons, List.map_nil]); first | done | rfl) ?_; refine (diffs_best.err k a0_0 _ _ l0_1 _ _ l1 b1 b2 b3 b4 _ (Kd.C_below HR0_1.out HB.out) HC0_1.out (Kd.C_below HR1.out HB.out) HC1.out HBE.out H4.out).mono ?_; rintro e w2 ⟨rfl, hb⟩; refine ⟨_, rfl, ?_⟩; replace HB := Aside0.mk (below_step HB.out hb); clear hb hz0 hz1))
  go_ret3
  exact ⟨rfl, HB.out⟩
 case pos =>
 subst h4
 rw [if_pos rfl] at h
 cases b1 with
 | false =>
  rw [if_neg (by decide)] at h
  simp only [Option.some.injEq, Prod.mk.injEq] at h
  obtain ⟨rfl, rfl, rfl⟩ := h
  go_enter Try.func31, Try.ntmps31
  go_wp2_with (first | ((with_reducible refine gate_dst (N := 2) rfl ?_); refine box_event ?hg (N := 2) ?hd (cs := #[.int .i64 a0_0, .slice A0_1 l0_1.length c0_1]) (t := 24) ?hr ?_; (case hd => rfl); (case hg => rfl); (case hr => first | (go_simp; done) | (go_simp; rfl)); intro gb hgb w1 hbox hb; have BK := Aside0.mk hbox; clear HB; have HB := Aside0.mk hb; have hz0 : w1.cell? ⟨gb, 0, none⟩ = some (.int .i64 a0_0) := (blk_cell hbox 0).trans rfl; have hz1 : w1.cell? ⟨gb, 1, none⟩ = some (.slice A0_1 l0_1.length c0_1) := (blk_cell hbox 1).trans rfl; clear hbox hb hgb) | ((with_reducible refine gate_callee (f := 79) rfl ?_); refine goesL_ (some 13) rfl rfl Try.func79 (by kernel_rfl) rfl #[.agg #[.int .i64 a0_0, .slice A0_1 l0_1.length c0_1], .slice A1 l1.length c1] rfl (by (try simp only [List.map_toArray, List.map_cons, List.map_nil]); first | done | rfl) ?_; refine (diffs_best.okay k a0_0 _ _ l0_1 _ _ l1 _ b2 b3 _ (Kd.C_below HR0_1.out HB.out) HC0_1.out (Kd.C_below HR1.out HB.out) HC1.out HBE.out).mono ?_; rintro e w2 ⟨g, AF, nF, cF, AW, nW, cW, rfl, hge, rfl, hl, hm, hu⟩; refine ⟨_, rfl, ?_⟩; have n0_ := Aside0.mk (below_step HB.out hu.hb); have n1_ := Aside0.mk (blk_below BK.out hu.hb); have HS0 := Aside0.mk HB.out.size; clear HB BK hz0 hz1; have HB := n0_; have BK := n1_; have HU := Aside0.mk hu; have HLL := Aside0.mk (And.intro hl hm); have hz0 : w2.cell? ⟨gb, 0, none⟩ = some (.int .i64 a0_0) := (blk_cell BK.out 0).trans rfl; have hz1 : w2.cell? ⟨gb, 1, none⟩ = some (.slice A0_1 l0_1.length c0_1) := (blk_cell BK.out 1).trans rfl; have hg2 : w2.cell? ⟨g, 2, none⟩ = some (.slice AF l0_1.length cF) := (blk_cell hu.bu 2).trans rfl; clear n0_ n1_ hu hl hm hge))
  go_ret3
  exact ⟨rfl, HB.out⟩
 | true =>
  rw [if_pos rfl] at h
  obtain ⟨c, hc, h⟩ := Option.bind_eq_some_iff.mp h
  simp only [Option.some.injEq, Prod.mk.injEq] at h
  obtain ⟨rfl, rfl, rfl⟩ := h
  have HCO := Aside0.mk hc
  clear hc
  go_enter Try.func31, Try.ntmps31
  go_wp2_with (first | ((with_reducible refine gate_dst (N := 2) rfl ?_); refine box_event ?hg (N := 2) ?hd (cs := #[.int .i64 a0_0, .slice A0_1 l0_1.length c0_1]) (t := 24) ?hr ?_; (case hd => rfl); (case hg => rfl); (case hr => first | (go_simp; done) | (go_simp; rfl)); intro gb hgb w1 hbox hb; have BK := Aside0.mk hbox; clear HB; have HB := Aside0.mk hb; have hz0 : w1.cell? ⟨gb, 0, none⟩ = some (.int .i64 a0_0) := (blk_cell hbox 0).trans rfl; have hz1 : w1.cell? ⟨gb, 1, none⟩ = some (.slice A0_1 l0_1.length c0_1) := (blk_cell hbox 1).trans rfl; clear hbox hb hgb) | ((with_reducible refine gate_callee (f := 79) rfl ?_); refine goesL_ (some 13) rfl rfl Try.func79 (by kernel_rfl) rfl #[.agg #[.int .i64 a0_0, .slice A0_1 l0_1.length c0_1], .slice A1 l1.length c1] rfl (by (try simp only [List.map_toArray, List.map_cons, List.map_nil]); first | done | rfl) ?_; refine (diffs_best.okay k a0_0 _ _ l0_1 _ _ l1 _ b2 b3 _ (Kd.C_below HR0_1.out HB.out) HC0_1.out (Kd.C_below HR1.out HB.out) HC1.out HBE.out).mono ?_; rintro e w2 ⟨g, AF, nF, cF, AW, nW, cW, rfl, hge, rfl, hl, hm, hu⟩; refine ⟨_, rfl, ?_⟩; have n0_ := Aside0.mk (below_step HB.out hu.hb); have n1_ := Aside0.mk (blk_below BK.out hu.hb); have HS0 := Aside0.mk HB.out.size; clear HB BK hz0 hz1; have HB := n0_; have BK := n1_; have HU := Aside0.mk hu; have HLL := Aside0.mk (And.intro hl hm); have hz0 : w2.cell? ⟨gb, 0, none⟩ = some (.int .i64 a0_0) := (blk_cell BK.out 0).trans rfl; have hz1 : w2.cell? ⟨gb, 1, none⟩ = some (.slice A0_1 l0_1.length c0_1) := (blk_cell BK.out 1).trans rfl; have hg2 : w2.cell? ⟨g, 2, none⟩ = some (.slice AF l0_1.length cF) := (blk_cell hu.bu 2).trans rfl; clear n0_ n1_ hu hl hm hge))
  replace BK := Aside0.mk (blk_drew BK.out)
  replace HB := Aside0.mk (below_drew1 HB.out)
  replace HU := Aside0.mk (HU.out.below (below_drew1 (Below.refl _ _)))
  clear hz0 hz1 hg2
  refine start_ (n := 9) (S := fun w' => w'.cell? ⟨gb, 0, none⟩ = some (.int .i64 a0_0) ∧ w'.cell? ⟨gb, 1, none⟩ = some (.slice A0_1 l0_1.length c0_1) ∧ w'.cell? ⟨g, 2, none⟩ = some (.slice AF l0_1.length cF)) (ds := []) #[false, false, false, false, false, false, false, false, false] (by kernel_rfl) rfl rfl ⟨(blk_cell BK.out 0).trans rfl, (blk_cell BK.out 1).trans rfl, (blk_cell HU.out.bu 2).trans rfl⟩ (fun hHeld => ?_)
  generalize w2.drew = w3 at BK HB HU hHeld ⊢
  refine pure_ (i := 1) (N := some 25) (v := ?_) (a' := ?_) #[false, true, false, false, false, false, false, false, false] rfl rfl (by kernel_rfl) (fun _ _ _ h => h) (Or.inl ⟨by rfl, ?_⟩) ?_ ?_
  rotate_left
  ·intro w'; go_simp; with_reducible rfl
  rotate_left
  ·simp only [Act.put, List.setIfInBounds_toArray, List.set_cons_zero, List.set_cons_succ, i64_w]; rfl
  refine pure_ (i := 2) (N := some 26) (v := ?_) (a' := ?_) #[false, true, true, false, false, false, false, false, false] rfl rfl (by kernel_rfl) (fun _ _ _ h => h) (Or.inl ⟨by rfl, ?_⟩) ?_ ?_
  rotate_left
  ·intro w'; go_simp; with_reducible rfl
  rotate_left
  ·simp only [Act.put, List.setIfInBounds_toArray, List.set_cons_zero, List.set_cons_succ, i64_w]; rfl
  refine pure_ (i := 3) (N := some 27) (v := ?_) (a' := ?_) #[false, true, true, true, false, false, false, false, false] rfl rfl (by kernel_rfl) (fun _ _ _ h => h) (Or.inl ⟨by rfl, ?_⟩) ?_ ?_
  rotate_left
  ·intro w'; go_simp; with_reducible rfl
  rotate_left
  ·simp only [Act.put, List.setIfInBounds_toArray, List.set_cons_zero, List.set_cons_succ, i64_w]; rfl
  refine take_ (i := 0) (N := some 24) (v := ?_) (a' := ?_) #[true, true, true, true, false, false, false, false, false] rfl rfl (by kernel_rfl) (fun _ _ _ h => h) (Or.inl ⟨by rfl, ?_⟩) hHeld ?_ ?_
  rotate_left
  ·rintro w' ⟨s0, s1, s2⟩; go_simp; with_reducible rfl
  rotate_left
  ·simp only [Act.put, List.setIfInBounds_toArray, List.set_cons_zero, List.set_cons_succ, i64_w]; rfl
  refine take_ (i := 4) (N := some 28) (v := ?_) (a' := ?_) #[true, true, true, true, true, false, false, false, false] rfl rfl (by kernel_rfl) (fun _ _ _ h => h) (Or.inl ⟨by rfl, ?_⟩) hHeld ?_ ?_
  rotate_left
  ·rintro w' ⟨s0, s1, s2⟩; go_simp; with_reducible rfl
  rotate_left
  ·simp only [Act.put, List.setIfInBounds_toArray, List.set_cons_zero, List.set_cons_succ, i64_w]; rfl
  refine one_ (i := 5) (N := some 29) #[true, true, true, true, true, true, false, false, false] rfl rfl (by kernel_rfl) (by decide) (fun K hK => ?_)
  have hlen := (Kd.R_reads' HU.out.rf).1
  refine goes_ Try.func80 (by kernel_rfl) rfl #[.agg #[.int .i64 a0_0, .slice A0_1 l0_1.length c0_1], .slice AF b2.length cF] (by rfl) rfl rfl (by rw [← hlen]; (try simp only [List.map_toArray, List.map_cons, List.map_nil]); first | done | rfl) ?_
  refine (diffs_cost.calls k a0_0 _ _ l0_1 _ _ b2 c _ (Kd.C_below HR0_1.out HB.out) HC0_1.out (Kd.R_reads' HU.out.rf).2.2 (by have := (Kd.R_reads' HU.out.rf).2.1; omega) HCO.out).mono ?_
  rintro e w4 ⟨rfl, hb⟩
  refine ⟨_, rfl, ?_⟩
  replace BK := Aside0.mk (blk_below BK.out hb)
  replace HB := Aside0.mk (below_step HB.out hb)
  replace HU := Aside0.mk (HU.out.below hb)
  clear hb hlen
  refine hK.out _ _ ⟨(blk_cell BK.out 0).trans rfl, (blk_cell BK.out 1).trans rfl, (blk_cell HU.out.bu 2).trans rfl⟩ (fun hHeld => ?_)
  clear hK K
  refine norm_ (a' := ?_) ?_ ?_
  rotate_left
  ·show Act.put _ (some 29) _ = _; simp only [Act.put, List.setIfInBounds_toArray, List.set_cons_zero, List.set_cons_succ, i64_w]; rfl
  refine pure_ (i := 6) (N := some 4) (v := ?_) (a' := ?_) #[true, true, true, true, true, true, true, false, false] rfl rfl (by kernel_rfl) (fun _ _ _ h => h) (Or.inl ⟨by rfl, ?_⟩) ?_ ?_
  rotate_left
  ·intro w'; go_simp; with_reducible rfl
  rotate_left
  ·simp only [Act.put, List.setIfInBounds_toArray, List.set_cons_zero, List.set_cons_succ, i64_w]; rfl
  refine pure_ (i := 7) (N := some 5) (v := ?_) (a' := ?_) #[true, true, true, true, true, true, true, true, false] rfl rfl (by kernel_rfl) (fun _ _ _ h => h) (Or.inl ⟨by rfl, ?_⟩) ?_ ?_
  rotate_left
  ·intro w'; go_simp; with_reducible rfl
  rotate_left
  ·simp only [Act.put, List.setIfInBounds_toArray, List.set_cons_zero, List.set_cons_succ, i64_w]; rfl
  refine pure_ (i := 8) (N := some 6) (v := ?_) (a' := ?_) #[true, true, true, true, true, true, true, true, true] rfl rfl (by kernel_rfl) (fun _ _ _ h => h) (Or.inl ⟨by rfl, ?_⟩) ?_ ?_
  rotate_left
  ·intro w'; go_simp; with_reducible rfl
  rotate_left
  ·simp only [Act.put, List.setIfInBounds_toArray, List.set_cons_zero, List.set_cons_succ, i64_w]; rfl
  refine done_ (by kernel_rfl) ?_
  go_wp2
  go_ret3
  exact ⟨rfl, HB.out⟩
set_option maxHeartbeats 4000000 in
set_option maxRecDepth 100000 in
theorem diffs_Flow.calls (k : Nat) (a0_0 : Int) (A0_1 : Option Addr) (c0_1 : Nat) (l0_1 : List (S39)) (A1 : Option Addr) (c1 : Nat) (l1 : List Int) (r1 : List Int) (r2 : Bool) (r3 : Int) (w : World) (hr0_1 : Kd.C k39 w A0_1 l0_1.length l0_1) (hc0_1 : l0_1.length ≤ c0_1) (hr1 : Kd.C (Kd.int .i64) w A1 l1.length l1) (hc1 : l1.length ≤ c1) (h : diffs_Flow.f k a0_0 l0_1 l1 = some (r1, r2, r3)) :
  Calls Try.prog 53 #[.agg #[.int .i64 a0_0, .slice A0_1 l0_1.length c0_1], .slice A1 l1.length c1] w fun e w' => ∃ v0_ : Value, e = .returned (.tuple #[v0_, .bool r2, .int .i64 r3]) ∧ Kd.R (Kd.int .i64) 3 w' w.heap.size (fun _ => True) v0_ r1 ∧ Below w.heap.size w w' := by
 have hu24 := Try.underlying24
 have HR0_1 := Aside0.mk hr0_1
 have HC0_1 := Aside0.mk hc0_1
 have HR1 := Aside0.mk hr1
 have HC1 := Aside0.mk hc1
 clear hr0_1 hc0_1 hr1 hc1
 have HB := Aside0.mk (Below.refl w.heap.size w)
 unfold diffs_Flow.f at h
 obtain ⟨⟨b1, b2, b3, b4⟩, hbe, h⟩ := Option.bind_eq_some_iff.mp h
 simp only at h
 have HBE := Aside0.mk hbe
 clear hbe
 by_cases h4 : b4 = 0
 case neg =>
  rw [if_neg h4] at h
  simp only [Option.some.injEq, Prod.mk.injEq] at h
  obtain ⟨rfl, rfl, rfl⟩ := h
  have H4 := Aside0.mk h4
  have h4b : (b4 != 0) = true := bne_iff_ne.mpr h4
  clear h4
  go_enter Try.func53, Try.ntmps53
  go_wp2_with (first | ((with_reducible refine gate_dst (N := 2) rfl ?_); refine box_event ?hg (N := 2) ?hd (cs := #[.int .i64 a0_0, .slice A0_1 l0_1.length c0_1]) (t := 24) ?hr ?_; (case hd => rfl); (case hg => rfl); (case hr => first | (go_simp; done) | (go_simp; rfl)); intro gb hgb w1 hbox hb; have BK := Aside0.mk hbox; clear HB; have HB := Aside0.mk hb; have hz0 : w1.cell? ⟨gb, 0, none⟩ = some (.int .i64 a0_0) := (blk_cell hbox 0).trans rfl; have hz1 : w1.cell? ⟨gb, 1, none⟩ = some (.slice A0_1 l0_1.length c0_1) := (blk_cell hbox 1).trans rfl; clear hbox hb hgb) | ((with_reducible refine gate_callee (f := 79) rfl ?_); refine goesL_ (some 13) rfl rfl Try.func79 (by kernel_rfl) rfl #[.agg #[.int .i64 a0_0, .slice A0_1 l0_1.length c0_1], .slice A1 l1.length c1] rfl (by (try simp only [List.map_toArray, List.map_cons, List.map_nil]); first | done | rfl) ?_; refine (diffs_best.err k a0_0 _ _ l0_1 _ _ l1 b1 b2 b3 b4 _ (Kd.C_below HR0_1.out HB.out) HC0_1.out (Kd.C_below HR1.out HB.out) HC1.out HBE.out H4.out).mono ?_; rintro e w2 ⟨rfl, hb⟩; refine ⟨_, rfl, ?_⟩; replace HB := Aside0.mk (below_step HB.out hb); clear hb hz0 hz1))
  go_ret3
  exact ⟨_, rfl, Kd.R_nil _ _ _ _ _, HB.out⟩
 case pos =>
 subst h4
 rw [if_pos rfl] at h
 cases b1 with
 | false =>
  rw [if_neg (by decide)] at h
  simp only [Option.some.injEq, Prod.mk.injEq] at h
  obtain ⟨rfl, rfl, rfl⟩ := h
  go_enter Try.func53, Try.ntmps53
  go_wp2_with (first | ((with_reducible refine gate_dst (N := 2) rfl ?_); refine box_event ?hg (N := 2) ?hd (cs := #[.int .i64 a0_0, .slice A0_1 l0_1.length c0_1]) (t := 24) ?hr ?_; (case hd => rfl); (case hg => rfl); (case hr => first | (go_simp; done) | (go_simp; rfl)); intro gb hgb w1 hbox hb; have BK := Aside0.mk hbox; clear HB; have HB := Aside0.mk hb; have hz0 : w1.cell? ⟨gb, 0, none⟩ = some (.int .i64 a0_0) := (blk_cell hbox 0).trans rfl; have hz1 : w1.cell? ⟨gb, 1, none⟩ = some (.slice A0_1 l0_1.length c0_1) := (blk_cell hbox 1).trans rfl; clear hbox hb hgb) | ((with_reducible refine gate_callee (f := 79) rfl ?_); refine goesL_ (some 13) rfl rfl Try.func79 (by kernel_rfl) rfl #[.agg #[.int .i64 a0_0, .slice A0_1 l0_1.length c0_1], .slice A1 l1.length c1] rfl (by (try simp only [List.map_toArray, List.map_cons, List.map_nil]); first | done | rfl) ?_; refine (diffs_best.okay k a0_0 _ _ l0_1 _ _ l1 _ b2 b3 _ (Kd.C_below HR0_1.out HB.out) HC0_1.out (Kd.C_below HR1.out HB.out) HC1.out HBE.out).mono ?_; rintro e w2 ⟨g, AF, nF, cF, AW, nW, cW, rfl, hge, rfl, hl, hm, hu⟩; refine ⟨_, rfl, ?_⟩; have n0_ := Aside0.mk (below_step HB.out hu.hb); have n1_ := Aside0.mk (blk_below BK.out hu.hb); have HS0 := Aside0.mk HB.out.size; clear HB BK hz0 hz1; have HB := n0_; have BK := n1_; have HU := Aside0.mk hu; have HLL := Aside0.mk (And.intro hl hm); have hz0 : w2.cell? ⟨gb, 0, none⟩ = some (.int .i64 a0_0) := (blk_cell BK.out 0).trans rfl; have hz1 : w2.cell? ⟨gb, 1, none⟩ = some (.slice A0_1 l0_1.length c0_1) := (blk_cell BK.out 1).trans rfl; have hg2 : w2.cell? ⟨g, 2, none⟩ = some (.slice AF l0_1.length cF) := (blk_cell hu.bu 2).trans rfl; clear n0_ n1_ hu hl hm hge))
  go_ret3
  exact ⟨_, rfl, Kd.R_nil _ _ _ _ _, HB.out⟩
 | true =>
  rw [if_pos rfl] at h
  simp only [Option.some.injEq, Prod.mk.injEq] at h
  obtain ⟨rfl, rfl, rfl⟩ := h
  go_enter Try.func53, Try.ntmps53
  go_wp2_with (first | ((with_reducible refine gate_dst (N := 2) rfl ?_); refine box_event ?hg (N := 2) ?hd (cs := #[.int .i64 a0_0, .slice A0_1 l0_1.length c0_1]) (t := 24) ?hr ?_; (case hd => rfl); (case hg => rfl); (case hr => first | (go_simp; done) | (go_simp; rfl)); intro gb hgb w1 hbox hb; have BK := Aside0.mk hbox; clear HB; have HB := Aside0.mk hb; have hz0 : w1.cell? ⟨gb, 0, none⟩ = some (.int .i64 a0_0) := (blk_cell hbox 0).trans rfl; have hz1 : w1.cell? ⟨gb, 1, none⟩ = some (.slice A0_1 l0_1.length c0_1) := (blk_cell hbox 1).trans rfl; clear hbox hb hgb) | ((with_reducible refine gate_callee (f := 79) rfl ?_); refine goesL_ (some 13) rfl rfl Try.func79 (by kernel_rfl) rfl #[.agg #[.int .i64 a0_0, .slice A0_1 l0_1.length c0_1], .slice A1 l1.length c1] rfl (by (try simp only [List.map_toArray, List.map_cons, List.map_nil]); first | done | rfl) ?_; refine (diffs_best.okay k a0_0 _ _ l0_1 _ _ l1 _ b2 b3 _ (Kd.C_below HR0_1.out HB.out) HC0_1.out (Kd.C_below HR1.out HB.out) HC1.out HBE.out).mono ?_; rintro e w2 ⟨g, AF, nF, cF, AW, nW, cW, rfl, hge, rfl, hl, hm, hu⟩; refine ⟨_, rfl, ?_⟩; have n0_ := Aside0.mk (below_step HB.out hu.hb); have n1_ := Aside0.mk (blk_below BK.out hu.hb); have HS0 := Aside0.mk HB.out.size; clear HB BK hz0 hz1; have HB := n0_; have BK := n1_; have HU := Aside0.mk hu; have HLL := Aside0.mk (And.intro hl hm); have hz0 : w2.cell? ⟨gb, 0, none⟩ = some (.int .i64 a0_0) := (blk_cell BK.out 0).trans rfl; have hz1 : w2.cell? ⟨gb, 1, none⟩ = some (.slice A0_1 l0_1.length c0_1) := (blk_cell BK.out 1).trans rfl; have hg2 : w2.cell? ⟨g, 2, none⟩ = some (.slice AF l0_1.length cF) := (blk_cell hu.bu 2).trans rfl; clear n0_ n1_ hu hl hm hge))
  go_ret3
  exact ⟨_, rfl, Kd.R_lower HU.out.rf HS0.out, HB.out⟩
set_option maxHeartbeats 4000000 in
set_option maxRecDepth 100000 in
theorem diffs_Best.calls (k : Nat) (a0_0 : Int) (A0_1 : Option Addr) (c0_1 : Nat) (l0_1 : List (S39)) (A1 : Option Addr) (c1 : Nat) (l1 : List Int) (r1 : List Int) (r2 : Bool) (r3 : Int) (w : World) (hr0_1 : Kd.C k39 w A0_1 l0_1.length l0_1) (hc0_1 : l0_1.length ≤ c0_1) (hr1 : Kd.C (Kd.int .i64) w A1 l1.length l1) (hc1 : l1.length ≤ c1) (h : diffs_Best.f k a0_0 l0_1 l1 = some (r1, r2, r3)) :
  Calls Try.prog 52 #[.agg #[.int .i64 a0_0, .slice A0_1 l0_1.length c0_1], .slice A1 l1.length c1] w fun e w' => ∃ v0_ : Value, e = .returned (.tuple #[v0_, .bool r2, .int .i64 r3]) ∧ Kd.R (Kd.int .i64) 3 w' w.heap.size (fun _ => True) v0_ r1 ∧ Below w.heap.size w w' := by
 have hu24 := Try.underlying24
 have HR0_1 := Aside0.mk hr0_1
 have HC0_1 := Aside0.mk hc0_1
 have HR1 := Aside0.mk hr1
 have HC1 := Aside0.mk hc1
 clear hr0_1 hc0_1 hr1 hc1
 have HB := Aside0.mk (Below.refl w.heap.size w)
 unfold diffs_Best.f at h
 obtain ⟨⟨b1, b2, b3, b4⟩, hbe, h⟩ := Option.bind_eq_some_iff.mp h
 simp only at h
 have HBE := Aside0.mk hbe
 clear hbe
 by_cases h4 : b4 = 0
 case neg =>
  rw [if_neg h4] at h
  simp only [Option.some.injEq, Prod.mk.injEq] at h
  obtain ⟨rfl, rfl, rfl⟩ := h
  have H4 := Aside0.mk h4
  have h4b : (b4 != 0) = true := bne_iff_ne.mpr h4
  clear h4
  go_enter Try.func52, Try.ntmps52
  go_wp2_with (first | ((with_reducible refine gate_dst (N := 2) rfl ?_); refine box_event ?hg (N := 2) ?hd (cs := #[.int .i64 a0_0, .slice A0_1 l0_1.length c0_1]) (t := 24) ?hr ?_; (case hd => rfl); (case hg => rfl); (case hr => first | (go_simp; done) | (go_simp; rfl)); intro gb hgb w1 hbox hb; have BK := Aside0.mk hbox; clear HB; have HB := Aside0.mk hb; have hz0 : w1.cell? ⟨gb, 0, none⟩ = some (.int .i64 a0_0) := (blk_cell hbox 0).trans rfl; have hz1 : w1.cell? ⟨gb, 1, none⟩ = some (.slice A0_1 l0_1.length c0_1) := (blk_cell hbox 1).trans rfl; clear hbox hb hgb) | ((with_reducible refine gate_callee (f := 79) rfl ?_); refine goesL_ (some 16) rfl rfl Try.func79 (by kernel_rfl) rfl #[.agg #[.int .i64 a0_0, .slice A0_1 l0_1.length c0_1], .slice A1 l1.length c1] rfl (by (try simp only [List.map_toArray, List.map_cons, List.map_nil]); first | done | rfl) ?_; refine (diffs_best.err k a0_0 _ _ l0_1 _ _ l1 b1 b2 b3 b4 _ (Kd.C_below HR0_1.out HB.out) HC0_1.out (Kd.C_below HR1.out HB.out) HC1.out HBE.out H4.out).mono ?_; rintro e w2 ⟨rfl, hb⟩; refine ⟨_, rfl, ?_⟩; replace HB := Aside0.mk (below_step HB.out hb); clear hb hz0 hz1))
  go_ret3
  exact ⟨_, rfl, Kd.R_nil _ _ _ _ _, HB.out⟩
 case pos =>
 subst h4
 rw [if_pos rfl] at h
 cases b1 with
 | false =>
  rw [if_neg (by decide)] at h
  simp only [Option.some.injEq, Prod.mk.injEq] at h
  obtain ⟨rfl, rfl, rfl⟩ := h
  go_enter Try.func52, Try.ntmps52
  go_wp2_with (first | ((with_reducible refine gate_dst (N := 2) rfl ?_); refine box_event ?hg (N := 2) ?hd (cs := #[.int .i64 a0_0, .slice A0_1 l0_1.length c0_1]) (t := 24) ?hr ?_; (case hd => rfl); (case hg => rfl); (case hr => first | (go_simp; done) | (go_simp; rfl)); intro gb hgb w1 hbox hb; have BK := Aside0.mk hbox; clear HB; have HB := Aside0.mk hb; have hz0 : w1.cell? ⟨gb, 0, none⟩ = some (.int .i64 a0_0) := (blk_cell hbox 0).trans rfl; have hz1 : w1.cell? ⟨gb, 1, none⟩ = some (.slice A0_1 l0_1.length c0_1) := (blk_cell hbox 1).trans rfl; clear hbox hb hgb) | ((with_reducible refine gate_callee (f := 79) rfl ?_); refine goesL_ (some 16) rfl rfl Try.func79 (by kernel_rfl) rfl #[.agg #[.int .i64 a0_0, .slice A0_1 l0_1.length c0_1], .slice A1 l1.length c1] rfl (by (try simp only [List.map_toArray, List.map_cons, List.map_nil]); first | done | rfl) ?_; refine (diffs_best.okay k a0_0 _ _ l0_1 _ _ l1 _ b2 b3 _ (Kd.C_below HR0_1.out HB.out) HC0_1.out (Kd.C_below HR1.out HB.out) HC1.out HBE.out).mono ?_; rintro e w2 ⟨g, AF, nF, cF, AW, nW, cW, rfl, hge, rfl, hl, hm, hu⟩; refine ⟨_, rfl, ?_⟩; have n0_ := Aside0.mk (below_step HB.out hu.hb); have n1_ := Aside0.mk (blk_below BK.out hu.hb); have HS0 := Aside0.mk HB.out.size; clear HB BK hz0 hz1; have HB := n0_; have BK := n1_; have HU := Aside0.mk hu; have HLL := Aside0.mk (And.intro hl hm); have hz0 : w2.cell? ⟨gb, 0, none⟩ = some (.int .i64 a0_0) := (blk_cell BK.out 0).trans rfl; have hz1 : w2.cell? ⟨gb, 1, none⟩ = some (.slice A0_1 l0_1.length c0_1) := (blk_cell BK.out 1).trans rfl; have hg2 : w2.cell? ⟨g, 2, none⟩ = some (.slice AF l0_1.length cF) := (blk_cell hu.bu 2).trans rfl; clear n0_ n1_ hu hl hm hge))
  go_ret3
  exact ⟨_, rfl, Kd.R_nil _ _ _ _ _, HB.out⟩
 | true =>
  rw [if_pos rfl] at h
  obtain ⟨⟨s1, s2, s3, s4, s5⟩, hc, h⟩ := Option.bind_eq_some_iff.mp h
  simp only [Option.some.injEq, Prod.mk.injEq] at h
  obtain ⟨rfl, rfl, rfl⟩ := h
  have HSO := Aside0.mk hc
  clear hc
  go_enter Try.func52, Try.ntmps52
  go_wp2_with (first
   | ((with_reducible refine gate_dst (N := 2) rfl ?_); refine box_event ?hg (N := 2) ?hd (cs := #[.int .i64 a0_0, .slice A0_1 l0_1.length c0_1]) (t := 24) ?hr ?_; (case hd => rfl); (case hg => rfl); (case hr => first | (go_simp; done) | (go_simp; rfl)); intro gb hgb w1 hbox hb; have BK := Aside0.mk hbox; clear HB; have HB := Aside0.mk hb; have hz0 : w1.cell? ⟨gb, 0, none⟩ = some (.int .i64 a0_0) := (blk_cell hbox 0).trans rfl; have hz1 : w1.cell? ⟨gb, 1, none⟩ = some (.slice A0_1 l0_1.length c0_1) := (blk_cell hbox 1).trans rfl; clear hbox hb hgb)
   | ((with_reducible refine gate_callee (f := 79) rfl ?_); refine goesL_ (some 16) rfl rfl Try.func79 (by kernel_rfl) rfl #[.agg #[.int .i64 a0_0, .slice A0_1 l0_1.length c0_1], .slice A1 l1.length c1] rfl (by (try simp only [List.map_toArray, List.map_cons, List.map_nil]); first | done | rfl) ?_; refine (diffs_best.okay k a0_0 _ _ l0_1 _ _ l1 _ b2 b3 _ (Kd.C_below HR0_1.out HB.out) HC0_1.out (Kd.C_below HR1.out HB.out) HC1.out HBE.out).mono ?_; rintro e w2 ⟨g, AF, nF, cF, AW, nW, cW, rfl, hge, rfl, hl, hm, hu⟩; refine ⟨_, rfl, ?_⟩; have n0_ := Aside0.mk (below_step HB.out hu.hb); have n1_ := Aside0.mk (blk_below BK.out hu.hb); have HS0 := Aside0.mk HB.out.size; clear HB BK hz0 hz1; have HB := n0_; have BK := n1_; have HU := Aside0.mk hu; have HLL := Aside0.mk (And.intro hl hm); have hz0 : w2.cell? ⟨gb, 0, none⟩ = some (.int .i64 a0_0) := (blk_cell BK.out 0).trans rfl; have hz1 : w2.cell? ⟨gb, 1, none⟩ = some (.slice A0_1 l0_1.length c0_1) := (blk_cell BK.out 1).trans rfl; have hg2 : w2.cell? ⟨g, 2, none⟩ = some (.slice AF l0_1.length cF) := (blk_cell hu.bu 2).trans rfl; clear n0_ n1_ hu hl hm hge)
   | ((with_reducible refine gate_callee (f := 81) rfl ?_); refine goesL_ (some 30) rfl rfl Try.func81 (by kernel_rfl) rfl #[.iface 91 (.pointer (some ⟨g, 0, none⟩))] rfl (by (try simp only [List.map_toArray, List.map_cons, List.map_nil]); first | done | rfl) ?_; refine (diffs_solve.any k 91 _ a0_0 (linesL l0_1 b2) s1 s2 s3 s4 s5 _ (HU.out.graph rfl HLL.out.1 HLL.out.2 (Kd.C_below HR0_1.out HB.out) HC0_1.out) HSO.out).mono ?_; rintro e w3 ⟨v0, v1, v2, v3, rfl, ho0, ho1, ho2, ho3, hb⟩; refine ⟨_, rfl, ?_⟩; have HO := Aside0.mk (Kd.R_lower (Kd.R_mono ho0 (fun _ _ => trivial)) HB.out.size : Kd.R (Kd.int .i64) 3 w3 w.heap.size (fun _ => True) v0 s1); replace HB := Aside0.mk (below_step HB.out hb); clear BK HU hb hz0 hz1 hg2; (obtain ⟨Ao32, co32, eo32, _⟩ := Kd.R_reads ho1); subst eo32; (obtain ⟨Ao33, co33, eo33, _⟩ := Kd.R_reads ho2); subst eo33; (obtain ⟨Ao34, co34, eo34, _⟩ := Kd.R_reads ho3); subst eo34; clear ho0 ho1 ho2 ho3)
   | ((with_reducible refine gate_dst (N := 11) rfl ?_); refine box_event ?hg (N := 11) ?hd (cs := #[.slice none 0 0, .slice none 0 0, .slice none 0 0]) (t := 88) ?hr ?_; (case hd => rfl); (case hg => rfl); (case hr => first | (go_simp; done) | (go_simp; rfl)); intro g9 hg9 w4 hbox hb; have n1_ := Aside0.mk (below_step HB.out hb); have n0_ := Aside0.mk (Kd.R_below HO.out hb); have NG := Aside0.mk (show w.heap.size ≤ g9 ∧ (∀ k, v0.ownBlock = some k → k ≠ g9) from ⟨by rw [hg9]; exact HB.out.size, fun k e => by have := Kd.R_lt HO.out k e; omega⟩); have BT := Aside0.mk hbox; clear HB HO hb hbox hg9; have HB := n1_; have HO := n0_; clear n0_ n1_)
   | (refine gate_store (t := 88) (p := 11) (v := .tmp 32) rfl ?_; refine store_box rfl rfl 88 (.tmp 11) (.tmp 32) rfl [.slice Ao32 s2.length co32, .slice Ao33 s3.length co33, .slice Ao34 s4.length co34] (by rfl) g9 rfl _ rfl rfl (by intro q hq; simp only [List.mem_cons, List.not_mem_nil, or_false] at hq; rcases hq with rfl | rfl | rfl <;> rfl) _ BT.out rfl ?_; intro w5 hb5 hg5; replace HB := Aside0.mk (HB.out.grown hg5 HB.out.size (fun k e => by cases e; exact NG.out.1)); replace HO := Aside0.mk (Kd.R_grown2 HO.out rfl hg5 (fun k e e2 => NG.out.2 k e2.symm (Option.some.inj e).symm)); clear BT hb5 hg5))
  go_ret3
  exact ⟨_, rfl, HO.out, HB.out⟩
end Go.Proofs.Ytpolojoeabmhdaa.A
