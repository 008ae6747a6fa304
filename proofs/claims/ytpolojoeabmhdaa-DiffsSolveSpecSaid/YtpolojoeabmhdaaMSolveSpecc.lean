import Derived.Test.YtpolojoeabmhdaaMZcoreHFacts
import Derived.Test.YtpolojoeabmhdaaMSolveSpeca
import Derived.Test.YtpolojoeabmhdaaMSolveSpecb
import Derived.Test.YtpolojoeabmhdaaMZcoreb
import Derived.Test.YtpolojoeabmhdaaMZcoree
import Derived.Test.YtpolojoeabmhdaaMZcoref
import Derived.Test.YtpolojoeabmhdaaMZcoreg
import Derived.Test.YtpolojoeabmhdaaMZcoreh
import Derived.Test.YtpolojoeabmhdaaRows
set_option linter.unusedVariables false
set_option linter.unusedSimpArgs false
/- Holds, Solve: what they answer. -/
namespace Go.Proofs.Ytpolojoeabmhdaa.A
open Go.RowKit Go.Proofs.YtpolojoeabmhdaaW.PrintWords Go.Proofs.YtpolojoeabmhdaaW.PrintLast Go.Proofs.YtpolojoeabmhdaaW.PrintMore
theorem numbers_some (n : Int) (x : List Int) : ∃ b, diffs_numbers.f n x = some b ∧ (b = true ↔ NumOk n x) := by
  unfold diffs_numbers.f
  by_cases c : (x.length : Int) = n
  · rw [if_pos c]
    unfold cf122.f
    refine ⟨_, rfl, ?_⟩
    rw [Bool.not_eq_true', List.any_eq_false]
    constructor
    · intro h
      refine ⟨c, fun v v0 v1 => ?_⟩
      have := h (rd x v) (rd_mem v0 (by omega))
      simpa [in_] using this
    · intro h y hy
      obtain ⟨v, v0, v1, rfl⟩ := mem_rd hy
      have := h.b v v0 (by omega)
      simp [in_, this.1, this.2]
  · rw [if_neg c]
    exact ⟨false, rfl, fun h => (by cases h), fun h => absurd h.l c⟩
section
variable {n : Nat} {L : List S39}
theorem holds_some (hV : Valid n L) {x : List Int} (hx : NumOk n x) : ∃ b, diffs_holds.f n L x = some b ∧ (b = true ↔ Ful n L x) := by
  have hn1 := hV.n1
  have hl := hx.l
  have hE := edges_mem hV.e
  unfold diffs_holds.f
  rw [if_neg (by omega)]
  by_cases c : rd x 0 = 0
  · have hok : L.all (holdsOk x) = true := by
      rw [List.all_eq_true]
      intro d hd
      have he := hE d hd
      have b0 := hx.b _ he.a he.b
      have b1 := hx.b _ he.c he.g
      unfold holdsOk
      simp only [Bool.and_eq_true, decide_eq_true_eq]
      have h1 := he.a
      have h2 := he.b
      have h3 := he.c
      have h4 := he.g
      exact ⟨⟨⟨⟨⟨h1, by omega⟩, h3⟩, by omega⟩, by omega⟩, by omega⟩
    rw [if_pos c, if_pos hok]
    refine ⟨_, rfl, ?_⟩
    rw [List.all_eq_true]
    constructor
    · intro h
      refine ⟨hl, by omega, c, hx.b, fun k k0 k1 => ?_⟩
      have he := hV.e k k0 k1
      have hm : rd_T39 L k ∈ L := by
        unfold rd_T39
        rw [List.getD_eq_getElem?_getD, List.getElem?_eq_getElem (by omega)]; exact List.getElem_mem _
      exact ⟨he.a, he.b, he.c, he.g, by simpa using h _ hm⟩
    · intro h d hd
      obtain ⟨i, hi, rfl⟩ := List.getElem_of_mem hd
      have := (h.e i (by omega) (by omega)).2.2.2.2
      unfold rd_T39 at this
      rw [List.getD_eq_getElem?_getD, Int.toNat_natCast, List.getElem?_eq_getElem hi] at this
      exact decide_eq_true this
  · rw [if_neg c]
    exact ⟨false, rfl, fun h => (by cases h), fun h => absurd h.z c⟩
theorem holds_ev (hV : Valid n L) (x : List Int) : ∃ b e, Ev (fun k => diffs_Holds.f k n L x) (b, e) ∧ (b = true ↔ Ful n L x) ∧ (¬ NumOk n x → e = 1) ∧ (NumOk n x → e = 0) := by
  obtain ⟨p, p1, p2⟩ := numbers_some n x
  have hask := asked_ev n L [p] (by simp)
  rw [if_pos (validB_iff.2 hV)] at hask
  unfold diffs_Holds.f
  rw [p1]
  simp only [Option.bind_some]
  cases p with
  | false => exact ⟨false, 1, hask.bind (Ev.neg (by decide) (Ev.now _)), ⟨fun h => (by cases h), fun h => p2.2 h.num⟩, fun _ => rfl, fun h => absurd (p2.2 h) (by decide)⟩
  | true =>
    have hx := p2.1 rfl
    obtain ⟨b, b1, b2⟩ := holds_some hV hx
    rw [b1]
    exact ⟨b, 0, hask.bind (Ev.pos (by decide) (Ev.now _)), b2, fun h => absurd hx h, fun _ => rfl⟩
theorem holds_bad {m : Int} (hv : ¬ validB m L = true) (x : List Int) : Ev (fun k => diffs_Holds.f k m L x) (false, 40) := by
  obtain ⟨p, p1, p2⟩ := numbers_some m x
  have hask := asked_ev m L [p] (by simp)
  rw [if_neg hv] at hask
  unfold diffs_Holds.f
  rw [p1]
  simp only [Option.bind_some]
  exact hask.bind (Ev.neg (by decide) (Ev.now _))
theorem dsolve_ev (hV : Valid n L) : ∃ x e, Ev (fun k => diffs_Solve.f k n L) (x, e) ∧ (Solv L → e = 0 ∧ Ful n L x) ∧ (¬ Solv L → e = 41 ∧ x = []) := by
  have hn0 : 0 < n := by have := hV.n1; omega
  have hn : n ≤ 256 := by have := hV.n2; omega
  have hc := check_ev n L
  rw [if_pos (validB_iff.2 hV)] at hc
  unfold diffs_Solve.f
  by_cases hs : Solv L
  · obtain ⟨x, s, h1, h2⟩ := solve_ful hn0 hn hV.e (hmul hV) hs
    exact ⟨x, 0, hc.bind (Ev.pos rfl (h1.bind (Ev.neg (by simp) (Ev.now _)))), fun _ => ⟨rfl, h2⟩, fun h => absurd hs h⟩
  · obtain ⟨x, s, bad, h1, h2, h3, h4, h5⟩ := solve_ev hn0 (by omega) hV.e (hmul hV)
    have hb : ¬ bad = -1 := fun e => hs ((h2.bad_iff hV.e (fun v a b => mem_allL.2 ⟨a, b⟩)).1 e)
    exact ⟨[], 41, hc.bind (Ev.pos rfl (h3.bind (Ev.pos (by rcases h2.res with ⟨a, _⟩ | ⟨a, _⟩; exact absurd a hb; exact a) (Ev.now _)))), fun h => absurd h hs, fun _ => ⟨rfl, rfl⟩⟩
theorem dsolve_bad {m : Int} (hv : ¬ validB m L = true) : Ev (fun k => diffs_Solve.f k m L) ([], 40) := by
  have hc := check_ev m L
  rw [if_neg hv] at hc
  unfold diffs_Solve.f
  exact hc.bind (Ev.neg (by decide) (Ev.now _))
end
end Go.Proofs.Ytpolojoeabmhdaa.A
namespace Go.Proofs.Ytpolojoeabmhdaa.A
open Go.RowKit Go.Proofs.YtpolojoeabmhdaaW.PrintWords Go.Proofs.YtpolojoeabmhdaaW.PrintLast Go.Proofs.YtpolojoeabmhdaaW.PrintMore
attribute [local go_sem] max2_int min2_int max_two min_two max_three min_three max_four min_four
def snowlinelaw04_small.f (a0_0 : Int) (l0_1 : List (S39)) : Option (Bool) := if a0_0 ≤ 16 then (some (decide ((l0_1.length : Int) ≤ 60))) else (some false)
set_option maxHeartbeats 8000000 in
set_option maxRecDepth 100000 in
theorem snowlinelaw04_small.calls (a0_0 : Int) (A0_1 : Option Addr) (c0_1 : Nat) (l0_1 : List (S39)) (r : Bool) (w : World) (hr0_1 : Kd.C k39 w A0_1 l0_1.length l0_1) (hc0_1 : l0_1.length ≤ c0_1) (h : snowlinelaw04_small.f a0_0 l0_1 = some r) :
  Calls Try.prog 23 #[.agg #[.int .i64 a0_0, .slice A0_1 l0_1.length c0_1]] w fun e w' => e = .returned (.bool r) ∧ Below w.heap.size w w' := by
 have hu24 := Try.underlying24; have HR0_1 := Z_ hr0_1; have HC0_1 := Z_ hc0_1; clear hr0_1 hc0_1; have HB := Z_ (Below.refl w.heap.size w); have H : (if a0_0 ≤ 16 then (some (decide ((l0_1.length : Int) ≤ 60))) else (some false)) = some r := h; clear h; by_cases c2 : a0_0 ≤ 16
 ·rw [if_pos c2] at H
  have c2b0 : decide (a0_0 ≤ 16) = true := eT_ c2; clear c2; obtain rfl := oI_ H; go_enter Try.func23, Try.ntmps23; go_wp2_with (first | ((with_reducible refine gate_dst (N := 1) rfl ?_); (try (refine gate_guard (by rfl) ?_; dsimp only)); refine bX_ 1 #[.int .i64 a0_0, .slice A0_1 l0_1.length c0_1] 24 ?_; intro gb338 hg w3 hbox hb; have BK338 := Z_ (hbox); have GW338 := Z_ ((by rw [hg]; exact (fZ_ hB_) : w.heap.size ≤ gb338)); have GE338 := Z_ ((by rw [hg]; exact (fZ_ hB_) : w.heap.size ≤ gb338)); replace HB := Z_ (fS_ hB_ hb); clear hb hbox hg; obtain ⟨⟨hcz4_0, hcz4_1⟩, hfz4_0, hfz4_1⟩ := f2_ BK338.out)); go_ret; exact ⟨eW_, hB_⟩
 rw [if_neg c2] at H; have c2b0 : decide (a0_0 ≤ 16) = false := eF_ c2; clear c2; obtain rfl := oI_ H; go_enter Try.func23, Try.ntmps23; go_wp2_with (first | ((with_reducible refine gate_dst (N := 1) rfl ?_); (try (refine gate_guard (by rfl) ?_; dsimp only)); refine bX_ 1 #[.int .i64 a0_0, .slice A0_1 l0_1.length c0_1] 24 ?_; intro gb338 hg w5 hbox hb; have BK338 := Z_ (hbox); have GW338 := Z_ ((by rw [hg]; exact (fZ_ hB_) : w.heap.size ≤ gb338)); have GE338 := Z_ ((by rw [hg]; exact (fZ_ hB_) : w.heap.size ≤ gb338)); replace HB := Z_ (fS_ hB_ hb); clear hb hbox hg; obtain ⟨⟨hcz6_0, hcz6_1⟩, hfz6_0, hfz6_1⟩ := f2_ BK338.out)); go_ret; exact ⟨eW_, hB_⟩
def snowlinelaw04_DiffsSolveSpec.j0 : Nat → Bool → Int → List (S39) → Option (Bool)
 | 0, _, _, _ => none
 | k + 1, x26, x823000, x823001 => if x26 = true then (some true) else ((diffs_Solve.f k x823000 x823001).bind fun bt828 => ((diffs_Clash.f k x823000 x823001).bind fun bt832 => ((snowlineref04_Check.f k x823000 x823001).bind fun t837 => (if t837 = 0 then ((snowlineref04_Solvable.f k x823000 x823001).bind fun t838 => (if t838 = true then (if bt828.2 = 0 then ((snowlineref04_Fulfils.f k x823000 x823001 bt828.1).bind fun t839 => (if t839 = true then (if (bt832.1.length : Int) = 0 then (if bt832.2.1 = true then (some false) else (some (bt832.2.2 == 0))) else (some false)) else (some false))) else (some false)) else (if bt828.2 = 41 then (if (bt828.1.length : Int) = 0 then (if bt832.2.1 = true then (if bt832.2.2 = 0 then ((snowlineref04_CheckClash.f k x823000 x823001 bt832.1).bind fun t840 => (some (t840 == 0))) else (some false)) else (some false)) else (some false)) else (some false)))) else (if (bt828.1.length : Int) = 0 then (if bt828.2 = 40 then (if (bt832.1.length : Int) = 0 then (if bt832.2.1 = true then (some false) else (some (bt832.2.2 == 40))) else (some false)) else (some false)) else (some false))))))
def snowlinelaw04_DiffsSolveSpec.f (k : Nat) (a0_0 : Int) (l0_1 : List (S39)) (l1 : List Int) : Option (Bool) := (snowlinelaw04_sane.f).bind fun t823 => (if t823 = true then ((diffs_CheckClash.f k a0_0 l0_1 l1).bind fun t824 => ((snowlineref04_CheckClash.f k a0_0 l0_1 l1).bind fun t825 => (if t824 = t825 then ((snowlineref04_Check.f k a0_0 l0_1).bind fun t826 => (if t826 = 0 then ((snowlinelaw04_small.f a0_0 l0_1).bind fun t827 => (snowlinelaw04_DiffsSolveSpec.j0 k (!t827) a0_0 l0_1)) else (snowlinelaw04_DiffsSolveSpec.j0 k false a0_0 l0_1))) else (some false)))) else (some false))
theorem snowlinelaw04_DiffsSolveSpec.mono_l : ∀ k, (∀ y0 y1 y2, LeO (snowlinelaw04_DiffsSolveSpec.j0 k y0 y1 y2) (snowlinelaw04_DiffsSolveSpec.j0 (k + 1) y0 y1 y2))
 | 0 => fun _ _ _ r h => by simp [snowlinelaw04_DiffsSolveSpec.j0] at h
 | k + 1 => by
  have ih0 := snowlinelaw04_DiffsSolveSpec.mono_l k; intro y0 y1 y2; unfold snowlinelaw04_DiffsSolveSpec.j0; repeat' first | (with_reducible first | exact ih0 _ _ _ | exact diffs_CheckClash.mono _ _ _ _ | exact diffs_Clash.mono _ _ _ | exact diffs_Solve.mono _ _ _ | exact snowlineref04_Check.mono _ _ _ | exact snowlineref04_CheckClash.mono _ _ _ _ | exact snowlineref04_Fulfils.mono _ _ _ _ | exact snowlineref04_Solvable.mono _ _ _ | exact LeO.refl _ | exact LeO.none _ | refine LeO.ite ?_ ?_ | refine LeO.bind ?_ (fun _ => ?_)) | exact ih0 _ _ _ | exact diffs_CheckClash.mono _ _ _ _ | exact diffs_Clash.mono _ _ _ | exact diffs_Solve.mono _ _ _ | exact snowlineref04_Check.mono _ _ _ | exact snowlineref04_CheckClash.mono _ _ _ _ | exact snowlineref04_Fulfils.mono _ _ _ _ | exact snowlineref04_Solvable.mono _ _ _ | exact LeO.none _ | refine LeO.ite ?_ ?_ | refine LeO.bind ?_ (fun _ => ?_)
theorem snowlinelaw04_DiffsSolveSpec.mono : ∀ a0 a1 a2 k, LeO (snowlinelaw04_DiffsSolveSpec.f k a0 a1 a2) (snowlinelaw04_DiffsSolveSpec.f (k + 1) a0 a1 a2) := by
 intro a0 a1 a2 k; have ih0 := snowlinelaw04_DiffsSolveSpec.mono_l k; unfold snowlinelaw04_DiffsSolveSpec.f; repeat' first | (with_reducible first | exact ih0 _ _ _ | exact diffs_CheckClash.mono _ _ _ _ | exact diffs_Clash.mono _ _ _ | exact diffs_Solve.mono _ _ _ | exact snowlineref04_Check.mono _ _ _ | exact snowlineref04_CheckClash.mono _ _ _ _ | exact snowlineref04_Fulfils.mono _ _ _ _ | exact snowlineref04_Solvable.mono _ _ _ | exact LeO.refl _ | exact LeO.none _ | refine LeO.ite ?_ ?_ | refine LeO.bind ?_ (fun _ => ?_)) | exact ih0 _ _ _ | exact diffs_CheckClash.mono _ _ _ _ | exact diffs_Clash.mono _ _ _ | exact diffs_Solve.mono _ _ _ | exact snowlineref04_Check.mono _ _ _ | exact snowlineref04_CheckClash.mono _ _ _ _ | exact snowlineref04_Fulfils.mono _ _ _ _ | exact snowlineref04_Solvable.mono _ _ _ | exact LeO.none _ | refine LeO.ite ?_ ?_ | refine LeO.bind ?_ (fun _ => ?_)
set_option maxHeartbeats 8000000 in
set_option maxRecDepth 100000 in
theorem snowlinelaw04_DiffsSolveSpec.calls (k : Nat) (a0_0 : Int) (A0_1 : Option Addr) (c0_1 : Nat) (l0_1 : List (S39)) (A1 : Option Addr) (c1 : Nat) (l1 : List Int) (r : Bool) (w : World) (hr0_1 : Kd.C k39 w A0_1 l0_1.length l0_1) (hc0_1 : l0_1.length ≤ c0_1) (hr1 : Kd.C (Kd.int .i64) w A1 l1.length l1) (hc1 : l1.length ≤ c1) (h : snowlinelaw04_DiffsSolveSpec.f k a0_0 l0_1 l1 = some r) :
  Calls Try.prog 10 #[.agg #[.int .i64 a0_0, .slice A0_1 l0_1.length c0_1], .slice A1 l1.length c1] w fun e w' => e = .returned (.bool r) ∧ Below w.heap.size w w' := by
 have hu24 := Try.underlying24; have HR0_1 := Z_ hr0_1; have HC0_1 := Z_ hc0_1; clear hr0_1 hc0_1; have HR1 := Z_ hr1; have HC1 := Z_ hc1; clear hr1 hc1; have HB := Z_ (Below.refl w.heap.size w); have H : ((snowlinelaw04_sane.f).bind fun t823 => (if t823 = true then ((diffs_CheckClash.f k a0_0 l0_1 l1).bind fun t824 => ((snowlineref04_CheckClash.f k a0_0 l0_1 l1).bind fun t825 => (if t824 = t825 then ((snowlineref04_Check.f k a0_0 l0_1).bind fun t826 => (if t826 = 0 then ((snowlinelaw04_small.f a0_0 l0_1).bind fun t827 => (snowlinelaw04_DiffsSolveSpec.j0 k (!t827) a0_0 l0_1)) else (snowlinelaw04_DiffsSolveSpec.j0 k false a0_0 l0_1))) else (some false)))) else (some false))) = some r := h; clear h; replace H := oS_.mp H; obtain ⟨t823, A30, H⟩ := H; have A3 := Z_ A30; clear A30; have HF4 := Z_ H; clear H; go_enter Try.func10, Try.ntmps10; go_upto_if 11 with (first | ((with_reducible refine gate_dst (N := 2) rfl ?_); (try (refine gate_guard (by rfl) ?_; dsimp only)); refine bX_ 2 #[.int .i64 a0_0, .slice A0_1 l0_1.length c0_1] 24 ?_; intro gb822 hg w5 hbox hb; have BK822 := Z_ (hbox); have GW822 := Z_ ((by rw [hg]; exact (fZ_ hB_) : w.heap.size ≤ gb822)); have GE822 := Z_ ((by rw [hg]; exact (fZ_ hB_) : w.heap.size ≤ gb822)); replace HB := Z_ (fS_ hB_ hb); clear hb hbox hg) | ((with_reducible refine gate_callee (f := 21) rfl ?_); refine gL_ (some 10) Try.func21 #[] ?_; (with_reducible refine (snowlinelaw04_sane.calls  t823 _ A3.out).mono ?_); rintro e w6 ⟨rfl, hb⟩; refine ⟨_, rfl, ?_⟩; replace BK822 := Z_ (bB_ (g := gb822) (o := .cells #[.int .i64 a0_0, .slice A0_1 l0_1.length c0_1] 24 (0, 0)) (bR_ BK822.out) hb); replace HB := Z_ (fS_ hB_ hb); (try clear hb); (try clear hb2); (try clear hk); (try clear hi))); (try simp only [Act.put, sT_, sZ_, sS_])
 have H := HF4.out; clear HF4; by_cases c7 : t823 = true
 ·subst c7
  rw [if_pos rfl] at H; replace H := oS_.mp H; obtain ⟨t824, A80, H⟩ := H; have A8 := Z_ A80; clear A80; replace H := oS_.mp H; obtain ⟨t825, A90, H⟩ := H; have A9 := Z_ A90; clear A90; have HF10 := Z_ H; clear H; try go_wp2
  replace BK822 := Z_ (bD_ BK822.out); replace HB := Z_ (fD_ HB.out); refine start_ (n := 7) (S := fun w' => w'.cell? ⟨gb822, 0, none⟩ = some (.int .i64 a0_0) ∧ w'.cell? ⟨gb822, 1, none⟩ = some (.slice A0_1 l0_1.length c0_1)) (ds := []) #[false, false, false, false, false, false, false] (by kernel_rfl) rfl rfl ⟨(bC_ BK822.out 0).trans rfl, (bC_ BK822.out 1).trans rfl⟩ (fun hHeld => ?_); generalize w6.drew = w11 at BK822 HB hHeld ⊢; refine pP_ 1 13 ?_; refine pP_ 4 16 ?_; refine pT_ 0 12 ?_; refine pT_ 3 15 ?_; refine oN_ 2 (some 14) (fun K hK => ?_); refine gO_ Try.func37 #[.agg #[.int .i64 a0_0, .slice A0_1 l0_1.length c0_1], .slice A1 l1.length c1] ?_; with_reducible refine (diffs_CheckClash.calls k a0_0 _ _ l0_1 _ _ l1 t824 _ ?side1 ?side2 ?side3 ?side4 A8.out).mono ?_
  (case side1 => exact cS_ (cB_ HR0_1.out HB.out))
  (case side2 => exact HC0_1.out)
  (case side3 => exact cS_ (cB_ HR1.out HB.out))
  (case side4 => exact HC1.out)
  rintro e w12 ⟨rfl, hb⟩; refine ⟨_, rfl, ?_⟩; replace BK822 := Z_ (bB_ (g := gb822) (o := .cells #[.int .i64 a0_0, .slice A0_1 l0_1.length c0_1] 24 (0, 0)) (bR_ BK822.out) hb); replace HB := Z_ (fS_ hB_ hb); (try clear hb)
  (try clear hb2)
  (try clear hk)
  (try clear hi)
  refine hK.out _ _ ⟨(bC_ BK822.out 0).trans rfl, (bC_ BK822.out 1).trans rfl⟩ (fun hHeld => ?_); clear hK K; refine nP_ 14 ?_; refine oN_ 5 (some 17) (fun K hK => ?_); refine gO_ Try.func38 #[.agg #[.int .i64 a0_0, .slice A0_1 l0_1.length c0_1], .slice A1 l1.length c1] ?_; with_reducible refine (snowlineref04_CheckClash.calls k a0_0 _ _ l0_1 _ _ l1 t825 _ ?side1 ?side2 ?side3 ?side4 A9.out).mono ?_
  (case side1 => exact cS_ (cB_ HR0_1.out HB.out))
  (case side2 => exact HC0_1.out)
  (case side3 => exact cS_ (cB_ HR1.out HB.out))
  (case side4 => exact HC1.out)
  rintro e w13 ⟨rfl, hb⟩; refine ⟨_, rfl, ?_⟩; replace BK822 := Z_ (bB_ (g := gb822) (o := .cells #[.int .i64 a0_0, .slice A0_1 l0_1.length c0_1] 24 (0, 0)) (bR_ BK822.out) hb); replace HB := Z_ (fS_ hB_ hb); (try clear hb)
  (try clear hb2)
  (try clear hk)
  (try clear hi)
  refine hK.out _ _ ⟨(bC_ BK822.out 0).trans rfl, (bC_ BK822.out 1).trans rfl⟩ (fun hHeld => ?_); clear hK K; refine nP_ 17 ?_; refine pP_ 6 18 ?_; refine dN_ ?_; go_upto_if 18 with (fail); have H := HF10.out; clear HF10; by_cases c14 : t824 = t825
  ·rw [if_pos c14] at H
   obtain ⟨c14b0, c14b1⟩ := be_ c14; clear c14; (first | rw [c14b0] | (simp only [i64_w, i32_w]; rw [c14b0]) | skip)
   have HC15 := Z_ H; clear H; go_upto_region 5 with (fail); go_cut [26] (fun v26 wc => ∃ (kq : Nat) (x26_14 : Bool), v26 = .bool x26_14 ∧ Aside0 (snowlinelaw04_DiffsSolveSpec.j0 kq x26_14 a0_0 l0_1 = some r) ∧ Aside0 (kq ≤ k) ∧ Aside0 (wc.heap[gb822]? = some (.cells #[.int .i64 a0_0, (.slice A0_1 l0_1.length c0_1)] 24 (0, 0))) ∧ Aside0 (Below w.heap.size w wc))
   case first =>
    have H := HC15.out; clear HC15; replace H := oS_.mp H; obtain ⟨t826, A160, H⟩ := H; have A16 := Z_ A160; clear A160; by_cases c17 : t826 = 0
    ·rw [if_pos c17] at H
     obtain ⟨c17b0, c17b1⟩ := be_ c17; clear c17; (first | rw [c17b0] | (simp only [i64_w, i32_w]; rw [c17b0]) | skip)
     replace H := oS_.mp H; obtain ⟨t827, A180, H⟩ := H; have A18 := Z_ A180; clear A180; have H' := Z_ H; clear H; obtain ⟨⟨hcz19_0, hcz19_1⟩, hfz19_0, hfz19_1⟩ := f2_ BK822.out; go_wp2_with (first | ((with_reducible refine gate_callee (f := 22) rfl ?_); refine gL_ (some 20) Try.func22 #[.agg #[.int .i64 a0_0, .slice A0_1 l0_1.length c0_1]] ?_; (with_reducible refine (snowlineref04_Check.calls k a0_0 _ _ l0_1 t826 _ ?side1 ?side2 A16.out).mono ?_); (case side1 => exact cS_ (cB_ HR0_1.out HB.out)); (case side2 => exact HC0_1.out); rintro e w20 ⟨rfl, hb⟩; refine ⟨_, rfl, ?_⟩; replace BK822 := Z_ (bB_ (g := gb822) (o := .cells #[.int .i64 a0_0, .slice A0_1 l0_1.length c0_1] 24 (0, 0)) (bR_ BK822.out) hb); replace HB := Z_ (fS_ hB_ hb); (try clear hb); (try clear hb2); (try clear hk); (try clear hi); obtain ⟨⟨hcz21_0, hcz21_1⟩, hfz21_0, hfz21_1⟩ := f2_ BK822.out) | (go_at_call 23; (with_reducible refine (snowlinelaw04_small.calls a0_0 _ _ l0_1 t827 _ ?side1 ?side2 A18.out).mono ?_); (case side1 => exact cS_ (cB_ HR0_1.out HB.out)); (case side2 => exact HC0_1.out); rintro e w22 ⟨rfl, hb⟩; replace BK822 := Z_ (bB_ (g := gb822) (o := .cells #[.int .i64 a0_0, .slice A0_1 l0_1.length c0_1] 24 (0, 0)) (bR_ BK822.out) hb); replace HB := Z_ (fS_ hB_ hb); (try clear hb); (try clear hb2); (try clear hk); (try clear hi))); go_meet
     case rel => exact ⟨_, (!t827), rf_, H', ⟨oL_⟩, ⟨bR_ BK822.out⟩, ⟨hB_⟩⟩
    rw [if_neg c17] at H; obtain ⟨c17b0, c17b1⟩ := bn_ c17; (first | rw [c17b0] | (simp only [i64_w, i32_w]; rw [c17b0]) | skip)
    have H' := Z_ H; clear H; obtain ⟨⟨hcz23_0, hcz23_1⟩, hfz23_0, hfz23_1⟩ := f2_ BK822.out; go_wp2_with (first | ((with_reducible refine gate_callee (f := 22) rfl ?_); refine gL_ (some 20) Try.func22 #[.agg #[.int .i64 a0_0, .slice A0_1 l0_1.length c0_1]] ?_; (with_reducible refine (snowlineref04_Check.calls k a0_0 _ _ l0_1 t826 _ ?side1 ?side2 A16.out).mono ?_); (case side1 => exact cS_ (cB_ HR0_1.out HB.out)); (case side2 => exact HC0_1.out); rintro e w24 ⟨rfl, hb⟩; refine ⟨_, rfl, ?_⟩; replace BK822 := Z_ (bB_ (g := gb822) (o := .cells #[.int .i64 a0_0, .slice A0_1 l0_1.length c0_1] 24 (0, 0)) (bR_ BK822.out) hb); replace HB := Z_ (fS_ hB_ hb); (try clear hb); (try clear hb2); (try clear hk); (try clear hi))); go_meet
    case rel => exact ⟨_, (false), rf_, H', ⟨oL_⟩, ⟨bR_ BK822.out⟩, ⟨hB_⟩⟩
   case rest =>
    clear HC15; (try clear c1); (try clear c2); (try clear p2); (try clear c3); (try clear c7); (try clear c10); (try clear c14); (try clear c14b0); (try clear c14b1); (try clear c17); (try clear c17b0); (try clear c17b1); (try clear c21); (try clear c22); (try clear hcz19_0); (try clear hcz19_1); (try clear hcz21_0); (try clear hcz21_1); (try clear hcz23_0); (try clear hcz23_1); (try clear hfz19_0); (try clear hfz19_1); (try clear hfz21_0); (try clear hfz21_1); (try clear hfz23_0); (try clear hfz23_1)
    obtain ⟨kq, x26_14, rfl, HA, HJ14, BK822, HB⟩ := hcut
    cases kq with
    | zero => exact absurd HA.out (by simp [snowlinelaw04_DiffsSolveSpec.j0])
    | succ kj14 =>
     have H := HA.out; clear HA; simp only [snowlinelaw04_DiffsSolveSpec.j0] at H; by_cases c25 : x26_14 = true
     ·subst c25
      rw [if_pos rfl] at H; obtain rfl := oI_ H; go_wp2; go_ret; exact ⟨eW_, hB_⟩
     replace c25 := bE_.mpr c25; subst c25; have H1 : ((diffs_Solve.f kj14 a0_0 l0_1).bind fun bt828 => ((diffs_Clash.f kj14 a0_0 l0_1).bind fun bt832 => ((snowlineref04_Check.f kj14 a0_0 l0_1).bind fun t837 => (if t837 = 0 then ((snowlineref04_Solvable.f kj14 a0_0 l0_1).bind fun t838 => (if t838 = true then (if bt828.2 = 0 then ((snowlineref04_Fulfils.f kj14 a0_0 l0_1 bt828.1).bind fun t839 => (if t839 = true then (if (bt832.1.length : Int) = 0 then (if bt832.2.1 = true then (some false) else (some (bt832.2.2 == 0))) else (some false)) else (some false))) else (some false)) else (if bt828.2 = 41 then (if (bt828.1.length : Int) = 0 then (if bt832.2.1 = true then (if bt832.2.2 = 0 then ((snowlineref04_CheckClash.f kj14 a0_0 l0_1 bt832.1).bind fun t840 => (some (t840 == 0))) else (some false)) else (some false)) else (some false)) else (some false)))) else (if (bt828.1.length : Int) = 0 then (if bt828.2 = 40 then (if (bt832.1.length : Int) = 0 then (if bt832.2.1 = true then (some false) else (some (bt832.2.2 == 40))) else (some false)) else (some false)) else (some false)))))) = some r := by rw [if_neg (show ¬ (false = true) by decide)] at H; exact H
     clear H; have H := H1; clear H1; replace H := oS_.mp H; obtain ⟨⟨t828, t831⟩, A260, H⟩ := H; have A26 := Z_ A260; clear A260; replace H := oS_.mp H; obtain ⟨⟨t832, t835, t836⟩, A270, H⟩ := H; have A27 := Z_ A270; clear A270; replace H := oS_.mp H; obtain ⟨t837, A280, H⟩ := H; have A28 := Z_ A280; clear A280; have HF29 := Z_ H; clear H; obtain ⟨⟨hcz30_0, hcz30_1⟩, hfz30_0, hfz30_1⟩ := f2_ BK822.out; go_upto_if 40 with (first | ((with_reducible refine gate_callee (f := 39) rfl ?_); refine gL_ (some 29) Try.func39 #[.agg #[.int .i64 a0_0, .slice A0_1 l0_1.length c0_1]] ?_; (with_reducible refine (diffs_Solve.calls kj14 a0_0 _ _ l0_1 t828 t831 _ ?side1 ?side2 A26.out).mono ?_); (case side1 => exact cS_ (cB_ HR0_1.out HB.out)); (case side2 => exact HC0_1.out); rintro e w31 ⟨v829, rfl, ho0, hb⟩; refine ⟨_, rfl, ?_⟩; have HO830 := Z_ (rL_ ho0 (fZ_ hB_)); replace BK822 := Z_ (bB_ (g := gb822) (o := .cells #[.int .i64 a0_0, .slice A0_1 l0_1.length c0_1] 24 (0, 0)) (bR_ BK822.out) hb); replace HB := Z_ (fS_ hB_ hb); (try clear hb); (try clear hb2); (try clear hk); (try clear hi); (try clear ho0); obtain ⟨⟨hcz32_0, hcz32_1⟩, hfz32_0, hfz32_1⟩ := f2_ BK822.out) | ((with_reducible refine gate_callee (f := 40) rfl ?_); refine gL_ (some 34) Try.func40 #[.agg #[.int .i64 a0_0, .slice A0_1 l0_1.length c0_1]] ?_; (with_reducible refine (diffs_Clash.calls kj14 a0_0 _ _ l0_1 t832 t835 t836 _ ?side1 ?side2 A27.out).mono ?_); (case side1 => exact cS_ (cB_ HR0_1.out HB.out)); (case side2 => exact HC0_1.out); rintro e w33 ⟨v833, rfl, ho0, hb⟩; refine ⟨_, rfl, ?_⟩; have HO834 := Z_ (rL_ (Kd.R_new' ho0 (Kd.R_lt (rK_ HO830.out))) (fZ_ hB_)); replace HO830 := Z_ (Kd.R_elder' (rK_ HO830.out) (Kd.R_base ho0) hb); replace BK822 := Z_ (bB_ (g := gb822) (o := .cells #[.int .i64 a0_0, .slice A0_1 l0_1.length c0_1] 24 (0, 0)) (bR_ BK822.out) hb); replace HB := Z_ (fS_ hB_ hb); (try clear hb); (try clear hb2); (try clear hk); (try clear hi); (try clear ho0); obtain ⟨⟨hcz34_0, hcz34_1⟩, hfz34_0, hfz34_1⟩ := f2_ BK822.out) | ((with_reducible refine gate_callee (f := 22) rfl ?_); refine gL_ (some 39) Try.func22 #[.agg #[.int .i64 a0_0, .slice A0_1 l0_1.length c0_1]] ?_; (with_reducible refine (snowlineref04_Check.calls kj14 a0_0 _ _ l0_1 t837 _ ?side1 ?side2 A28.out).mono ?_); (case side1 => exact cS_ (cB_ HR0_1.out HB.out)); (case side2 => exact HC0_1.out); rintro e w35 ⟨rfl, hb⟩; refine ⟨_, rfl, ?_⟩; replace HO830 := Z_ (rB_ (rK_ HO830.out) hb); replace HO834 := Z_ (rB_ (rK_ HO834.out) hb); replace BK822 := Z_ (bB_ (g := gb822) (o := .cells #[.int .i64 a0_0, .slice A0_1 l0_1.length c0_1] 24 (0, 0)) (bR_ BK822.out) hb); replace HB := Z_ (fS_ hB_ hb); (try clear hb); (try clear hb2); (try clear hk); (try clear hi))); (try simp only [Act.put, sT_, sZ_, sS_])
     have H := HF29.out; clear HF29; by_cases c36 : t837 = 0
     ·rw [if_pos c36] at H
      obtain ⟨c36b0, c36b1⟩ := be_ c36; clear c36; (first | rw [c36b0] | (simp only [i64_w, i32_w]; rw [c36b0]) | skip)
      replace H := oS_.mp H; obtain ⟨t838, A370, H⟩ := H; have A37 := Z_ A370; clear A370; have HF38 := Z_ H; clear H; obtain ⟨⟨hcz39_0, hcz39_1⟩, hfz39_0, hfz39_1⟩ := f2_ BK822.out; go_upto_if 62 with (first | ((with_reducible refine gate_callee (f := 41) rfl ?_); refine gL_ (some 62) Try.func41 #[.agg #[.int .i64 a0_0, .slice A0_1 l0_1.length c0_1]] ?_; (with_reducible refine (snowlineref04_Solvable.calls kj14 a0_0 _ _ l0_1 t838 _ ?side1 ?side2 A37.out).mono ?_); (case side1 => exact cS_ (cB_ HR0_1.out HB.out)); (case side2 => exact HC0_1.out); rintro e w40 ⟨rfl, hb⟩; refine ⟨_, rfl, ?_⟩; replace HO830 := Z_ (rB_ (rK_ HO830.out) hb); replace HO834 := Z_ (rB_ (rK_ HO834.out) hb); replace BK822 := Z_ (bB_ (g := gb822) (o := .cells #[.int .i64 a0_0, .slice A0_1 l0_1.length c0_1] 24 (0, 0)) (bR_ BK822.out) hb); replace HB := Z_ (fS_ hB_ hb); (try clear hb); (try clear hb2); (try clear hk); (try clear hi))); (try simp only [Act.put, sT_, sZ_, sS_])
      have H := HF38.out; clear HF38; by_cases c41 : t838 = true
      ·subst c41
       rw [if_pos rfl] at H; by_cases c42 : t831 = 0
       ·rw [if_pos c42] at H
        obtain ⟨c42b0, c42b1⟩ := be_ c42; clear c42; (first | rw [c42b0] | (simp only [i64_w, i32_w]; rw [c42b0]) | skip)
        replace H := oS_.mp H; obtain ⟨t839, A430, H⟩ := H; have A43 := Z_ A430; clear A430; by_cases c44 : t839 = true
        ·subst c44
         rw [if_pos rfl] at H; by_cases c45 : (t832.length : Int) = 0
         ·rw [if_pos c45] at H
          have c45b0 : ((t832.length : Int) == 0) = true := beq_iff_eq.mpr c45; have c45b1 : ((t832.length : Int) != 0) = false := bne_eq_false_iff_eq.mpr c45; clear c45; by_cases c46 : t835 = true
          ·subst c46
           rw [if_pos rfl] at H; obtain rfl := oI_ H; obtain ⟨⟨hcz47_0, hcz47_1⟩, hfz47_0, hfz47_1⟩ := f2_ BK822.out; obtain ⟨Ao48, co48, eo48⟩ := rS_ HO830.out; subst eo48; go_wp2_with (first | (go_at_call 42; (with_reducible refine (snowlineref04_Fulfils.calls kj14 a0_0 _ _ l0_1 _ _ t828 true _ ?side1 ?side2 ?side3 ?side4 A43.out).mono ?_); (case side1 => exact cS_ (cB_ HR0_1.out HB.out)); (case side2 => exact HC0_1.out); (case side3 => repeat (first | exact (rR_ HO830.out).2.2 | (with_reducible refine Kd.C_alloc ?_ _) | (with_reducible refine Kd.C_drewN ?_ _) | (with_reducible refine Kd.C_drew ?_))); (case side4 => exact (rR_ HO830.out).2.1); rintro e w49 ⟨rfl, hb⟩; replace HO830 := Z_ (rB_ (rK_ HO830.out) hb); replace HO834 := Z_ (rB_ (rK_ HO834.out) hb); replace BK822 := Z_ (bB_ (g := gb822) (o := .cells #[.int .i64 a0_0, .slice A0_1 l0_1.length c0_1] 24 (0, 0)) (bR_ BK822.out) hb); replace HB := Z_ (fS_ hB_ hb); (try clear hb); (try clear hb2); (try clear hk); (try clear hi); obtain ⟨Ao50, co50, eo50⟩ := rS_ HO834.out; subst eo50)); go_ret; exact ⟨eW_, hB_⟩
          replace c46 := bE_.mpr c46; subst c46; have H1 : (some (t836 == 0)) = some r := by rw [if_neg (show ¬ (false = true) by decide)] at H; exact H
          clear H; have H := H1; clear H1; obtain rfl := oI_ H; obtain ⟨⟨hcz51_0, hcz51_1⟩, hfz51_0, hfz51_1⟩ := f2_ BK822.out; obtain ⟨Ao52, co52, eo52⟩ := rS_ HO830.out; subst eo52; go_wp2_with (first | (go_at_call 42; (with_reducible refine (snowlineref04_Fulfils.calls kj14 a0_0 _ _ l0_1 _ _ t828 true _ ?side1 ?side2 ?side3 ?side4 A43.out).mono ?_); (case side1 => exact cS_ (cB_ HR0_1.out HB.out)); (case side2 => exact HC0_1.out); (case side3 => repeat (first | exact (rR_ HO830.out).2.2 | (with_reducible refine Kd.C_alloc ?_ _) | (with_reducible refine Kd.C_drewN ?_ _) | (with_reducible refine Kd.C_drew ?_))); (case side4 => exact (rR_ HO830.out).2.1); rintro e w53 ⟨rfl, hb⟩; replace HO830 := Z_ (rB_ (rK_ HO830.out) hb); replace HO834 := Z_ (rB_ (rK_ HO834.out) hb); replace BK822 := Z_ (bB_ (g := gb822) (o := .cells #[.int .i64 a0_0, .slice A0_1 l0_1.length c0_1] 24 (0, 0)) (bR_ BK822.out) hb); replace HB := Z_ (fS_ hB_ hb); (try clear hb); (try clear hb2); (try clear hk); (try clear hi); obtain ⟨Ao54, co54, eo54⟩ := rS_ HO834.out; subst eo54)); go_ret; exact ⟨eW_, hB_⟩
         rw [if_neg c45] at H; have c45b0 : ((t832.length : Int) == 0) = false := beq_eq_false_iff_ne.mpr c45; have c45b1 : ((t832.length : Int) != 0) = true := bne_iff_ne.mpr c45; have c45b2 : ¬ (t832 = []) := fun h_ => c45 (by rw [h_]; rfl)
         obtain rfl := oI_ H; obtain ⟨⟨hcz55_0, hcz55_1⟩, hfz55_0, hfz55_1⟩ := f2_ BK822.out; obtain ⟨Ao56, co56, eo56⟩ := rS_ HO830.out; subst eo56; go_wp2_with (first | (go_at_call 42; (with_reducible refine (snowlineref04_Fulfils.calls kj14 a0_0 _ _ l0_1 _ _ t828 true _ ?side1 ?side2 ?side3 ?side4 A43.out).mono ?_); (case side1 => exact cS_ (cB_ HR0_1.out HB.out)); (case side2 => exact HC0_1.out); (case side3 => repeat (first | exact (rR_ HO830.out).2.2 | (with_reducible refine Kd.C_alloc ?_ _) | (with_reducible refine Kd.C_drewN ?_ _) | (with_reducible refine Kd.C_drew ?_))); (case side4 => exact (rR_ HO830.out).2.1); rintro e w57 ⟨rfl, hb⟩; replace HO830 := Z_ (rB_ (rK_ HO830.out) hb); replace HO834 := Z_ (rB_ (rK_ HO834.out) hb); replace BK822 := Z_ (bB_ (g := gb822) (o := .cells #[.int .i64 a0_0, .slice A0_1 l0_1.length c0_1] 24 (0, 0)) (bR_ BK822.out) hb); replace HB := Z_ (fS_ hB_ hb); (try clear hb); (try clear hb2); (try clear hk); (try clear hi); obtain ⟨Ao58, co58, eo58⟩ := rS_ HO834.out; subst eo58)); go_ret; exact ⟨eW_, hB_⟩
        replace c44 := bE_.mpr c44; subst c44; have H1 : (some false) = some r := by rw [if_neg (show ¬ (false = true) by decide)] at H; exact H
        clear H; have H := H1; clear H1; obtain rfl := oI_ H; obtain ⟨⟨hcz59_0, hcz59_1⟩, hfz59_0, hfz59_1⟩ := f2_ BK822.out; obtain ⟨Ao60, co60, eo60⟩ := rS_ HO830.out; subst eo60; go_wp2_with (first | (go_at_call 42; (with_reducible refine (snowlineref04_Fulfils.calls kj14 a0_0 _ _ l0_1 _ _ t828 false _ ?side1 ?side2 ?side3 ?side4 A43.out).mono ?_); (case side1 => exact cS_ (cB_ HR0_1.out HB.out)); (case side2 => exact HC0_1.out); (case side3 => repeat (first | exact (rR_ HO830.out).2.2 | (with_reducible refine Kd.C_alloc ?_ _) | (with_reducible refine Kd.C_drewN ?_ _) | (with_reducible refine Kd.C_drew ?_))); (case side4 => exact (rR_ HO830.out).2.1); rintro e w61 ⟨rfl, hb⟩; replace HO830 := Z_ (rB_ (rK_ HO830.out) hb); replace HO834 := Z_ (rB_ (rK_ HO834.out) hb); replace BK822 := Z_ (bB_ (g := gb822) (o := .cells #[.int .i64 a0_0, .slice A0_1 l0_1.length c0_1] 24 (0, 0)) (bR_ BK822.out) hb); replace HB := Z_ (fS_ hB_ hb); (try clear hb); (try clear hb2); (try clear hk); (try clear hi))); go_ret; exact ⟨eW_, hB_⟩
       rw [if_neg c42] at H; obtain ⟨c42b0, c42b1⟩ := bn_ c42; (first | rw [c42b0] | (simp only [i64_w, i32_w]; rw [c42b0]) | skip)
       obtain rfl := oI_ H; go_wp2; go_ret; exact ⟨eW_, hB_⟩
      replace c41 := bE_.mpr c41; subst c41; have H1 : (if t831 = 41 then (if (t828.length : Int) = 0 then (if t835 = true then (if t836 = 0 then ((snowlineref04_CheckClash.f kj14 a0_0 l0_1 t832).bind fun t840 => (some (t840 == 0))) else (some false)) else (some false)) else (some false)) else (some false)) = some r := by rw [if_neg (show ¬ (false = true) by decide)] at H; exact H
      clear H; have H := H1; clear H1; by_cases c62 : t831 = 41
      ·rw [if_pos c62] at H
       obtain ⟨c62b0, c62b1⟩ := be_ c62; clear c62; by_cases c63 : (t828.length : Int) = 0
       ·rw [if_pos c63] at H
        have c63b0 : ((t828.length : Int) == 0) = true := beq_iff_eq.mpr c63; have c63b1 : ((t828.length : Int) != 0) = false := bne_eq_false_iff_eq.mpr c63; clear c63; by_cases c64 : t835 = true
        ·subst c64
         rw [if_pos rfl] at H; by_cases c65 : t836 = 0
         ·rw [if_pos c65] at H
          obtain ⟨c65b0, c65b1⟩ := be_ c65; clear c65; replace H := oS_.mp H; obtain ⟨t840, A660, H⟩ := H; have A66 := Z_ A660; clear A660; obtain rfl := oI_ H; obtain ⟨Ao67, co67, eo67⟩ := rS_ HO830.out; subst eo67; obtain ⟨⟨hcz68_0, hcz68_1⟩, hfz68_0, hfz68_1⟩ := f2_ BK822.out; obtain ⟨Ao69, co69, eo69⟩ := rS_ HO834.out; subst eo69; go_wp2_with (first | (go_at_call 38; (with_reducible refine (snowlineref04_CheckClash.calls kj14 a0_0 _ _ l0_1 _ _ t832 t840 _ ?side1 ?side2 ?side3 ?side4 A66.out).mono ?_); (case side1 => exact cS_ (cB_ HR0_1.out HB.out)); (case side2 => exact HC0_1.out); (case side3 => repeat (first | exact (rR_ HO834.out).2.2 | (with_reducible refine Kd.C_alloc ?_ _) | (with_reducible refine Kd.C_drewN ?_ _) | (with_reducible refine Kd.C_drew ?_))); (case side4 => exact (rR_ HO834.out).2.1); rintro e w70 ⟨rfl, hb⟩; replace HO830 := Z_ (rB_ (rK_ HO830.out) hb); replace HO834 := Z_ (rB_ (rK_ HO834.out) hb); replace BK822 := Z_ (bB_ (g := gb822) (o := .cells #[.int .i64 a0_0, .slice A0_1 l0_1.length c0_1] 24 (0, 0)) (bR_ BK822.out) hb); replace HB := Z_ (fS_ hB_ hb); (try clear hb); (try clear hb2); (try clear hk); (try clear hi))); go_ret; exact ⟨eW_, hB_⟩
         rw [if_neg c65] at H; obtain ⟨c65b0, c65b1⟩ := bn_ c65; obtain rfl := oI_ H; obtain ⟨Ao71, co71, eo71⟩ := rS_ HO830.out; subst eo71; go_wp2; go_ret; exact ⟨eW_, hB_⟩
        replace c64 := bE_.mpr c64; subst c64; have H1 : (some false) = some r := by rw [if_neg (show ¬ (false = true) by decide)] at H; exact H
        clear H; have H := H1; clear H1; obtain rfl := oI_ H; obtain ⟨Ao72, co72, eo72⟩ := rS_ HO830.out; subst eo72; go_wp2; go_ret; exact ⟨eW_, hB_⟩
       rw [if_neg c63] at H; have c63b0 : ((t828.length : Int) == 0) = false := beq_eq_false_iff_ne.mpr c63; have c63b1 : ((t828.length : Int) != 0) = true := bne_iff_ne.mpr c63; have c63b2 : ¬ (t828 = []) := fun h_ => c63 (by rw [h_]; rfl)
       obtain rfl := oI_ H; obtain ⟨Ao73, co73, eo73⟩ := rS_ HO830.out; subst eo73; go_wp2; go_ret; exact ⟨eW_, hB_⟩
      rw [if_neg c62] at H; obtain ⟨c62b0, c62b1⟩ := bn_ c62; obtain rfl := oI_ H; go_wp2; go_ret; exact ⟨eW_, hB_⟩
     rw [if_neg c36] at H; obtain ⟨c36b0, c36b1⟩ := bn_ c36; (first | rw [c36b0] | (simp only [i64_w, i32_w]; rw [c36b0]) | skip)
     by_cases c74 : (t828.length : Int) = 0
     ·rw [if_pos c74] at H
      have c74b0 : ((t828.length : Int) == 0) = true := beq_iff_eq.mpr c74; have c74b1 : ((t828.length : Int) != 0) = false := bne_eq_false_iff_eq.mpr c74; clear c74; by_cases c75 : t831 = 40
      ·rw [if_pos c75] at H
       obtain ⟨c75b0, c75b1⟩ := be_ c75; clear c75; by_cases c76 : (t832.length : Int) = 0
       ·rw [if_pos c76] at H
        have c76b0 : ((t832.length : Int) == 0) = true := beq_iff_eq.mpr c76; have c76b1 : ((t832.length : Int) != 0) = false := bne_eq_false_iff_eq.mpr c76; clear c76; by_cases c77 : t835 = true
        ·subst c77
         rw [if_pos rfl] at H; obtain rfl := oI_ H; obtain ⟨Ao78, co78, eo78⟩ := rS_ HO830.out; subst eo78; obtain ⟨Ao79, co79, eo79⟩ := rS_ HO834.out; subst eo79; go_wp2; go_ret; exact ⟨eW_, hB_⟩
        replace c77 := bE_.mpr c77; subst c77; have H1 : (some (t836 == 40)) = some r := by rw [if_neg (show ¬ (false = true) by decide)] at H; exact H
        clear H; have H := H1; clear H1; obtain rfl := oI_ H; obtain ⟨Ao80, co80, eo80⟩ := rS_ HO830.out; subst eo80; obtain ⟨Ao81, co81, eo81⟩ := rS_ HO834.out; subst eo81; go_wp2; go_ret; exact ⟨eW_, hB_⟩
       rw [if_neg c76] at H; have c76b0 : ((t832.length : Int) == 0) = false := beq_eq_false_iff_ne.mpr c76; have c76b1 : ((t832.length : Int) != 0) = true := bne_iff_ne.mpr c76; have c76b2 : ¬ (t832 = []) := fun h_ => c76 (by rw [h_]; rfl)
       obtain rfl := oI_ H; obtain ⟨Ao82, co82, eo82⟩ := rS_ HO830.out; subst eo82; obtain ⟨Ao83, co83, eo83⟩ := rS_ HO834.out; subst eo83; go_wp2; go_ret; exact ⟨eW_, hB_⟩
      rw [if_neg c75] at H; obtain ⟨c75b0, c75b1⟩ := bn_ c75; obtain rfl := oI_ H; obtain ⟨Ao84, co84, eo84⟩ := rS_ HO830.out; subst eo84; go_wp2; go_ret; exact ⟨eW_, hB_⟩
     rw [if_neg c74] at H; have c74b0 : ((t828.length : Int) == 0) = false := beq_eq_false_iff_ne.mpr c74; have c74b1 : ((t828.length : Int) != 0) = true := bne_iff_ne.mpr c74; have c74b2 : ¬ (t828 = []) := fun h_ => c74 (by rw [h_]; rfl)
     obtain rfl := oI_ H; obtain ⟨Ao85, co85, eo85⟩ := rS_ HO830.out; subst eo85; go_wp2; go_ret; exact ⟨eW_, hB_⟩
  rw [if_neg c14] at H; obtain ⟨c14b0, c14b1⟩ := bn_ c14; (first | rw [c14b0] | (simp only [i64_w, i32_w]; rw [c14b0]) | skip)
  obtain rfl := oI_ H; go_wp2; go_ret; exact ⟨eW_, hB_⟩
 replace c7 := bE_.mpr c7; subst c7; have H1 : (some false) = some r := by rw [if_neg (show ¬ (false = true) by decide)] at H; exact H
 clear H; have H := H1; clear H1; obtain rfl := oI_ H; go_wp2; go_ret; exact ⟨eW_, hB_⟩
end Go.Proofs.Ytpolojoeabmhdaa.A
/- DiffsSolveSpec, over numbers and lists alone. -/
namespace Go.Proofs.Ytpolojoeabmhdaa.A
open Go.RowKit Go.Proofs.YtpolojoeabmhdaaW.PrintWords Go.Proofs.YtpolojoeabmhdaaW.PrintLast Go.Proofs.YtpolojoeabmhdaaW.PrintMore
theorem small_some (n : Int) (L : List S39) : snowlinelaw04_small.f n L = some (decide (n ≤ 16 ∧ L.length ≤ 60)) := by
  unfold snowlinelaw04_small.f
  by_cases h : n ≤ 16
  · rw [if_pos h]
    congr 1
    exact decide_eq_decide.2 (by omega)
  · rw [if_neg h]
    congr 1
    rw [decide_eq_false]
    omega
theorem solvespec_ev (n : Int) (L : List S39) (l : List Int) (hl : l.length ≤ 17592186044416) : Ev (fun k => snowlinelaw04_DiffsSolveSpec.f k n L l) true := by
  unfold snowlinelaw04_DiffsSolveSpec.f snowlinelaw04_sane.f
  simp only [Option.bind_some, if_true]
  by_cases hv : validB n L = true
  case neg =>
    have hr := rcheck_ev n L
    rw [if_neg hv] at hr
    refine (cclash_bad hv l).bind ((rcclash_bad hv l).bind (Ev.pos rfl (hr.bind (Ev.neg (by decide) ?_))))
    refine Ev.step (f := fun q => _) (fun q => by rw [snowlinelaw04_DiffsSolveSpec.j0, if_neg (by decide)]) ?_
    refine (dsolve_bad hv).bind ((clash_bad hv).bind (hr.bind (Ev.neg (by decide) (Ev.pos rfl (Ev.pos rfl (Ev.pos rfl (Ev.neg (by decide) (Ev.now _))))))))
  have hV := validB_iff.1 hv
  obtain ⟨N, rfl⟩ : ∃ N : Nat, n = N := ⟨n.toNat, by have := hV.n1; omega⟩
  have hr := rcheck_ev N L
  rw [if_pos hv] at hr
  obtain ⟨e, e1, e2⟩ := cclash_ev hV l
  obtain ⟨e', e3, e4⟩ := rcclash_ev hV l hl
  obtain rfl := e2.unique e4
  refine e1.bind (e3.bind (Ev.pos rfl (hr.bind (Ev.pos rfl ?_))))
  rw [small_some]
  simp only [Option.bind_some]
  by_cases hsm : (N : Int) ≤ 16 ∧ L.length ≤ 60
  case neg =>
    rw [decide_eq_false hsm]
    exact Ev.step (f := fun _ => some true) (fun q => by rw [snowlinelaw04_DiffsSolveSpec.j0]; rfl) (Ev.now _)
  rw [decide_eq_true hsm]
  have hn0 : 0 < N := by have := hV.n1; omega
  have hm : (N : Int) * L.length ≤ 1048576 := hmul hV
  obtain ⟨b, hb, hse⟩ := solvable_ev hn0 (by omega) hV.e hm (by omega)
  obtain ⟨x, f, s1, s2, s3⟩ := dsolve_ev hV
  refine Ev.step (f := fun q => _) (fun q => by rw [snowlinelaw04_DiffsSolveSpec.j0, if_neg (by decide)]) ?_
  refine s1.bind ?_
  by_cases hs : Solv L
  · obtain ⟨rfl, hx⟩ := s2 hs
    obtain rfl := hb.2 hs
    obtain ⟨p, p1, p2⟩ := rful_ev hV x
    obtain rfl := p2.2 hx
    exact (clash_no hV hs).bind (hr.bind (Ev.pos rfl (hse.bind (Ev.pos rfl (Ev.pos rfl (p1.bind (Ev.pos rfl (Ev.pos rfl (Ev.neg (by decide) (Ev.now _))))))))))
  · obtain ⟨rfl, rfl⟩ := s3 hs
    have hbf : ¬ b = true := fun h => hs (hb.1 h)
    obtain ⟨r, r1, r2⟩ := clash_ev hV hs
    obtain ⟨g, g1, g2⟩ := rcclash_ev hV r (by have := r2.n1; omega)
    obtain rfl := g2.yes r2.i r2
    exact r1.bind (hr.bind (Ev.pos rfl (hse.bind (Ev.neg hbf (Ev.pos rfl (Ev.pos rfl (Ev.pos rfl (Ev.pos rfl (g1.bind (Ev.now _))))))))))
end Go.Proofs.Ytpolojoeabmhdaa.A
/- DiffsSolveSpec: for every input the law answers true, and what came in reads as it did. No conditions. -/
namespace Go.Proofs.Ytpolojoeabmhdaa.diffsSolveSpec
open Go.ChangeShapes Go.WideShapes Go.ChangeAt Go.RowKit
open Go.Proofs.Ytpolojoeabmhdaa.A
open Go.Proofs.YtpolojoeabmhdaaW.PrintWords
set_option maxRecDepth 100000 in
theorem lifted (os : Os) (started : os.Started) (H : Type) (enc : TypeId × Value → H) :
    ReturnsInHanded {} Try.checked os 10 .any (Rows.diffsSolveSpecSpec.pre6 enc Try.prog Try.f10 Rows.diffsSolveSpecRow.domain false) (Rows.diffsSolveSpecSpec.post enc Try.prog Try.f10 false true false false) := by
  refine returnsInHanded_of_change_sized (C := Try.checked) own started (by kernel_rfl) Try.func10
    (ChangeSpec.witness6 (enc := enc) (C := Try.checked) false ⟨#[], #[.agg #[.int .i64 0, .slice none 0 0], .slice none 0 0], []⟩ 8 (by kernel_rfl) (by kernel_rfl) (by kernel_rfl) (by kernel_rfl)) ?_
  intro W base args ds gs before hval0 hW hcnd hsz0 _
  have hsz : (DataW.weightsEach Try.prog (Try.f10.params.toList ++ Rows.diffsSolveSpecSpec.plain.varTypes Try.prog) (ds ++ gs)).all (· ≤ reachBytes) = true := hsz0
  have hval : ∀ (j : Nat) t v, Try.f10.params[j]? = some t → args[j]? = some v → Value.okWide Try.prog W .any base t v := hval0
  have hW' := hW
  obtain ⟨p, q, hA0, hV, rfl, hfz, hnd⟩ := hW
  have hA : DataW.TrodAll enc Try.prog W 0 (fun _ => true) true Try.f10.params.toList args.toList ds p := hA0
  rw [Try.params10] at hA hval hsz
  obtain ⟨v0, vs0, d0, ds0, p0, q0, hargs, rfl, rfl, h0, r0⟩ := trodAll_cons hA
  obtain ⟨v1, vs1, d1, ds1, p1, q1, rfl, rfl, rfl, h1, r1⟩ := trodAll_cons r0
  obtain ⟨rfl, rfl, rfl⟩ := trodAll_nil r1
  obtain rfl : args = #[v0, v1] := by cases args; simp_all
  obtain ⟨rfl, rfl⟩ := trodVars_none hV
  have k0 := h0
  have lt0 : ∀ x ∈ p0, x.block < W.heap.size := by obtain ⟨m, hm⟩ := k0; exact DataW.trod_lt m _ _ _ hm
  obtain ⟨n0, A0, l0, c0, rfl, hC0, hc0, wz0, sz0⟩ := open_net (hval 0 24 v0 rfl rfl) h0
  have k1 := h1
  have lt1 : ∀ x ∈ p1, x.block < W.heap.size := by obtain ⟨m, hm⟩ := k1; exact DataW.trod_lt m _ _ _ hm
  obtain ⟨A1, l1, c1, rfl, hC1, hc1, wz1⟩ := open_list (hval 1 29 v1 rfl rfl) h1
  obtain ⟨rk, hk⟩ := Ev.rounds (solvespec_ev n0 l0 l1 (by have z := wz1.2 _ _ 1 hsz rfl rfl; omega))
  clear hA0 hval0 hsz0 hsz
  refine (snowlinelaw04_DiffsSolveSpec.calls rk n0 A0 c0 l0 A1 c1 l1 true W hC0 hc0 hC1 hc1 hk).mono fun e W' ⟨he, bel⟩ => ?_
  subst he
  exact ⟨_, rfl, _, _, _, [], _, [], hW', trodAll_mk1 (shut_bool Try.underlying4 _), (trodAll_cons_mk (Below.trod laidOut (by kernel_rfl) (of_decide_eq_true (by kernel_rfl)) k0 bel lt0) (trodAll_cons_mk (Below.trod laidOut (by kernel_rfl) (of_decide_eq_true (by kernel_rfl)) k1 bel lt1) trodAll_mk0)), rfl, bel.frame _, fun h => by cases h⟩
theorem joined : joinedFacts Try.prog 10 Try.f10 Rows.diffsSolveSpecSpec Rows.diffsSolveSpecRow = true := (andB (andB (andB (andB (andB (andB (andB (andB (andB (andB (andB (andB (andB (andB (andB (andB (andB (andB (andB (andB (andB (andB (andB (andB (andB (andB (andB (andB (andB (andB (andB (by kernel_rfl) laidOut) pMapsRowed) (by kernel_rfl)) (by kernel_rfl)) (by kernel_rfl)) pStops) (by kernel_rfl)) pKnobs) (by kernel_rfl)) (by kernel_rfl)) (by kernel_rfl)) (by kernel_rfl)) (by kernel_rfl)) (by kernel_rfl)) (by kernel_rfl)) (by kernel_rfl)) (by kernel_rfl)) (by kernel_rfl)) (by kernel_rfl)) (by kernel_rfl)) (by kernel_rfl)) pPlain) (by kernel_rfl)) pHeard) pEnter) pLifted) pMake) (by kernel_rfl)) (by kernel_rfl)) (by kernel_rfl)) (by kernel_rfl))
theorem over : Rows.diffsSolveSpecRow.holds Try.pinned (OpenSpec.ofChange Rows.diffsSolveSpecSpec) :=
  OpenClaim.holds_of_wide 10 Try.f10 rfl rfl rfl rfl rfl rfl rfl ⟨rfl, rfl, rfl, rfl, rfl⟩ rfl rfl rfl rfl rfl (by kernel_rfl) Try.func10 joined
    (of_decide_eq_true (by kernel_rfl)) (by unfold Func.isWrapper; first | (rw [if_pos (by decide +kernel)]; kernel_rfl) | (rw [if_neg (by decide +kernel)]; exact ⟨rfl, rfl⟩))
    (fun os started H enc _ => lifted os started H enc)
theorem proved : Rows.DiffsSolveSpecSaid := over
#print axioms proved
end Go.Proofs.Ytpolojoeabmhdaa.diffsSolveSpec
namespace Go.Proofs.Ytpolojoeabmhdaa
/-- The row, under a short name, for the claim. -/
theorem diffsSolveSpec_holds : Rows.DiffsSolveSpecSaid := diffsSolveSpec.proved
end Go.Proofs.Ytpolojoeabmhdaa
