import Derived.Test.YtpolojoeabmhdaaMZcoreHFacts
import Derived.Test.YtpolojoeabmhdaaMPathsa
import Derived.Test.YtpolojoeabmhdaaMZcoreb
import Derived.Test.YtpolojoeabmhdaaMZcoree
import Derived.Test.YtpolojoeabmhdaaMZcoref
import Derived.Test.YtpolojoeabmhdaaMZcoreg
import Derived.Test.YtpolojoeabmhdaaMZcoreh
import Derived.Test.YtpolojoeabmhdaaRows
set_option linter.unusedVariables false
set_option linter.unusedSimpArgs false
/- fulfils: what it answers. -/
namespace Go.Proofs.Ytpolojoeabmhdaa.A
open Go.RowKit Go.Proofs.YtpolojoeabmhdaaW.PrintWords Go.Proofs.YtpolojoeabmhdaaW.PrintLast Go.Proofs.YtpolojoeabmhdaaW.PrintMore
theorem ful_l1 {n : Int} {L : List S39} {x : List Int} (hx : (x.length : Int) = n) (hL : L.length ≤ 65536) (hb : ∀ v, 0 ≤ v → v < n → -1099511627776 ≤ rd x v ∧ rd x v ≤ 1099511627776) : ∀ (q : Nat) (i : Int), (q : Int) + i = L.length → 0 ≤ i →
    ∃ b, Ev (fun k => snowlinelaw04_fulfils.l1 k x L L.length i) b ∧ (b = true ↔ ∀ k, i ≤ k → k < (L.length : Int) → EC n x (rd_T39 L k))
  | 0, i, hq, hi => ⟨true, Ev.step (f := fun _ => some true) (fun k => by rw [snowlinelaw04_fulfils.l1, if_neg (by omega)]) (Ev.now _), by simp; intro k h1 h2; omega⟩
  | q + 1, i, hq, hi => by
    have hlt : i < (L.length : Int) := by omega
    have hT : Ev (fun k => snowlinelaw04_fulfils.j4 k x L L.length i true) false := Ev.step (f := fun _ => some false) (fun k => by rw [snowlinelaw04_fulfils.j4]; rfl) (Ev.now _)
    have no : ¬ EC n x (rd_T39 L i) → (false = true ↔ ∀ k, i ≤ k → k < (L.length : Int) → EC n x (rd_T39 L k)) := fun h => ⟨fun h => (by cases h), fun h2 => absurd (h2 i (Int.le_refl _) hlt) h⟩
    have hst : ∀ {b}, Ev (fun k => if (rd_T39 L i).f0 < 0 then snowlinelaw04_fulfils.j4 k x L L.length i true else if (rd_T39 L i).f0 ≥ (x.length : Int) then snowlinelaw04_fulfils.j4 k x L L.length i true else if (rd_T39 L i).f1 < 0 then snowlinelaw04_fulfils.j4 k x L L.length i true else if (rd_T39 L i).f1 ≥ (x.length : Int) then snowlinelaw04_fulfils.j4 k x L L.length i true else if 0 ≤ (rd_T39 L i).f1 then (if (rd_T39 L i).f1 < (x.length : Int) then (if 0 ≤ (rd_T39 L i).f0 then (if (rd_T39 L i).f0 < (x.length : Int) then snowlinelaw04_fulfils.j4 k x L L.length i (decide (wrap64 (rd x (rd_T39 L i).f1 - rd x (rd_T39 L i).f0) > (rd_T39 L i).f2)) else none) else none) else none) else none) b → Ev (fun k => snowlinelaw04_fulfils.l1 k x L L.length i) b := fun h =>
      Ev.step (fun k => by rw [snowlinelaw04_fulfils.l1, if_pos hlt, if_pos hi, if_pos hlt]) h
    by_cases c1 : (rd_T39 L i).f0 < 0
    · exact ⟨false, hst (Ev.pos c1 hT), no fun h => by have := h.1; omega⟩
    by_cases c2 : (rd_T39 L i).f0 ≥ (x.length : Int)
    · exact ⟨false, hst (Ev.neg c1 (Ev.pos c2 hT)), no fun h => by have := h.2.1; omega⟩
    by_cases c3 : (rd_T39 L i).f1 < 0
    · exact ⟨false, hst (Ev.neg c1 (Ev.neg c2 (Ev.pos c3 hT))), no fun h => by have := h.2.2.1; omega⟩
    by_cases c4 : (rd_T39 L i).f1 ≥ (x.length : Int)
    · exact ⟨false, hst (Ev.neg c1 (Ev.neg c2 (Ev.neg c3 (Ev.pos c4 hT)))), no fun h => by have := h.2.2.2.1; omega⟩
    have b0 := hb (rd_T39 L i).f0 (by omega) (by omega)
    have b1 := hb (rd_T39 L i).f1 (by omega) (by omega)
    have hin : ∀ {b}, Ev (fun k => snowlinelaw04_fulfils.j4 k x L L.length i (decide (wrap64 (rd x (rd_T39 L i).f1 - rd x (rd_T39 L i).f0) > (rd_T39 L i).f2))) b → Ev (fun k => snowlinelaw04_fulfils.l1 k x L L.length i) b := fun h =>
      hst (Ev.neg c1 (Ev.neg c2 (Ev.neg c3 (Ev.neg c4 (Ev.pos (by omega) (Ev.pos (by omega) (Ev.pos (by omega) (Ev.pos (by omega) h))))))))
    rw [wrap_id (by omega) (by omega)] at hin
    by_cases c5 : rd x (rd_T39 L i).f1 - rd x (rd_T39 L i).f0 > (rd_T39 L i).f2
    · rw [decide_eq_true c5] at hin
      exact ⟨false, hin hT, no fun h => by have := h.2.2.2.2; omega⟩
    rw [decide_eq_false c5] at hin
    obtain ⟨b, h1, h2⟩ := ful_l1 hx hL hb q (i + 1) (by omega) (by omega)
    refine ⟨b, hin (Ev.step (f := fun k => snowlinelaw04_fulfils.l1 k x L L.length (i + 1)) (fun k => by rw [snowlinelaw04_fulfils.j4, if_neg (by decide), wrap_id (x := i + 1) (by omega) (by omega)]) h1), h2.trans ⟨fun h k k0 k1 => ?_, fun h k k0 k1 => h k (by omega) k1⟩⟩
    by_cases e : k = i
    · rw [e]; exact ⟨by omega, by omega, by omega, by omega, by omega⟩
    · exact h k (by omega) k1
theorem ful_l0 {n : Int} {L : List S39} {x : List Int} (N : Int) (hx : (x.length : Int) = n) (hn : n ≤ 65536) (hL : L.length ≤ 65536) : ∀ (q : Nat) (i : Int), (q : Int) + i = n → 0 ≤ i → (∀ v, 0 ≤ v → v < i → -1099511627776 ≤ rd x v ∧ rd x v ≤ 1099511627776) →
    ∃ b, Ev (fun k => snowlinelaw04_fulfils.l0 k x x x.length i N L) b ∧ (b = true ↔ (∀ v, 0 ≤ v → v < n → -1099511627776 ≤ rd x v ∧ rd x v ≤ 1099511627776) ∧ ∀ k, 0 ≤ k → k < (L.length : Int) → EC n x (rd_T39 L k))
  | 0, i, hq, hi, hb => by
    have hb' : ∀ v, 0 ≤ v → v < n → -1099511627776 ≤ rd x v ∧ rd x v ≤ 1099511627776 := fun v v0 v1 => hb v v0 (by omega)
    obtain ⟨b, h1, h2⟩ := ful_l1 hx hL hb' L.length 0 (by omega) (by omega)
    exact ⟨b, Ev.step (fun k => by rw [snowlinelaw04_fulfils.l0, if_neg (by omega)]) h1, h2.trans ⟨fun h => ⟨hb', h⟩, fun h => h.2⟩⟩
  | q + 1, i, hq, hi, hb => by
    have hlt : i < (x.length : Int) := by omega
    have hT : Ev (fun k => snowlinelaw04_fulfils.j2 k x x x.length i true N L) false := Ev.step (f := fun _ => some false) (fun k => by rw [snowlinelaw04_fulfils.j2]; rfl) (Ev.now _)
    by_cases c1 : rd x i < -1099511627776
    · exact ⟨false, Ev.step (f := fun k => snowlinelaw04_fulfils.j2 k x x x.length i true N L) (fun k => by rw [snowlinelaw04_fulfils.l0, if_pos hlt, if_pos hi, if_pos hlt, if_pos c1]) hT, fun h => (by cases h), fun h => by have := h.1 i hi (by omega); omega⟩
    have hin : ∀ {b}, Ev (fun k => snowlinelaw04_fulfils.j2 k x x x.length i (decide (rd x i > 1099511627776)) N L) b → Ev (fun k => snowlinelaw04_fulfils.l0 k x x x.length i N L) b := fun h =>
      Ev.step (fun k => by rw [snowlinelaw04_fulfils.l0, if_pos hlt, if_pos hi, if_pos hlt, if_neg c1]) h
    by_cases c2 : rd x i > 1099511627776
    · rw [decide_eq_true c2] at hin
      exact ⟨false, hin hT, fun h => (by cases h), fun h => by have := h.1 i hi (by omega); omega⟩
    rw [decide_eq_false c2] at hin
    obtain ⟨b, h1, h2⟩ := ful_l0 N hx hn hL q (i + 1) (by omega) (by omega) (fun v v0 v1 => by
      by_cases e : v = i
      · rw [e]; omega
      · exact hb v v0 (by omega))
    exact ⟨b, hin (Ev.step (fun k => by rw [snowlinelaw04_fulfils.j2, if_neg (by decide), wrap_id (x := i + 1) (by omega) (by omega)]) h1), h2⟩
theorem fulfils_ev (n : Int) (L : List S39) (x : List Int) (hn : n ≤ 65536) (hL : L.length ≤ 65536) : ∃ b, Ev (fun k => snowlinelaw04_fulfils.f k n L x) b ∧ (b = true ↔ Ful n L x) := by
  unfold snowlinelaw04_fulfils.f
  have hT : Ev (fun k => snowlinelaw04_fulfils.j0 k x true n L) false := Ev.step (f := fun _ => some false) (fun k => by rw [snowlinelaw04_fulfils.j0]; rfl) (Ev.now _)
  by_cases c1 : (x.length : Int) = n
  case neg => exact ⟨false, Ev.neg c1 hT, fun h => (by cases h), fun h => absurd h.l c1⟩
  by_cases c2 : (x.length : Int) = 0
  · exact ⟨false, Ev.pos c1 (Ev.pos c2 hT), fun h => (by cases h), fun h => by have := h.n0; omega⟩
  by_cases c3 : rd x 0 = 0
  case neg =>
    refine ⟨false, Ev.pos c1 (Ev.neg c2 (Ev.pos (by omega) ?_)), fun h => (by cases h), fun h => absurd h.z c3⟩
    rw [show (rd x 0 != 0) = true from bne_iff_ne.mpr c3]
    exact hT
  obtain ⟨b, h1, h2⟩ := ful_l0 n c1 hn hL x.length 0 (by omega) (by omega) (fun v v0 v1 => by omega)
  refine ⟨b, Ev.pos c1 (Ev.neg c2 (Ev.pos (by omega) ?_)), h2.trans ⟨fun h => ⟨c1, by omega, c3, h.1, h.2⟩, fun h => ⟨h.b, h.e⟩⟩⟩
  rw [show (rd x 0 != 0) = false from bne_eq_false_iff_eq.mpr c3]
  exact Ev.step (fun k => by rw [snowlinelaw04_fulfils.j0, if_neg (by decide)]) h1
end Go.Proofs.Ytpolojoeabmhdaa.A
namespace Go.Proofs.Ytpolojoeabmhdaa.A
open Go.RowKit Go.Proofs.YtpolojoeabmhdaaW.PrintWords Go.Proofs.YtpolojoeabmhdaaW.PrintLast Go.Proofs.YtpolojoeabmhdaaW.PrintMore
attribute [local go_sem] max2_int min2_int max_two min_two max_three min_three max_four min_four
def snowlinelaw04_small.f (a0_0 : Int) (l0_1 : List (S39)) : Option (Bool) := if a0_0 ≤ 16 then (some (decide ((l0_1.length : Int) ≤ 60))) else (some false)
set_option maxHeartbeats 8000000 in
set_option maxRecDepth 100000 in
theorem snowlinelaw04_small.calls (a0_0 : Int) (A0_1 : Option Addr) (c0_1 : Nat) (l0_1 : List (S39)) (r : Bool) (w : World) (hr0_1 : Kd.C k39 w A0_1 l0_1.length l0_1) (hc0_1 : l0_1.length ≤ c0_1) (h : snowlinelaw04_small.f a0_0 l0_1 = some r) :
  Calls Try.prog 23 #[.agg #[.int .i64 a0_0, .slice A0_1 l0_1.length c0_1]] w fun e w' => e = .returned (.bool r) ∧ Below w.heap.size w w' := by
 have hu24 := Try.underlying24; have HR0_1 := Z_ hr0_1; have HC0_1 := Z_ hc0_1; clear hr0_1 hc0_1; have HB := Z_ (Below.refl w.heap.size w); have H : (if a0_0 ≤ 16 then (some (decide ((l0_1.length : Int) ≤ 60))) else (some false)) = some r := h; clear h; by_cases c2 : a0_0 ≤ 16
 ·rw [if_pos c2] at H
  have c2b0 : decide (a0_0 ≤ 16) = true := eT_ c2; clear c2; obtain rfl := oI_ H; go_enter Try.func23, Try.ntmps23; go_wp2_with (first | ((with_reducible refine gate_dst (N := 1) rfl ?_); (try (refine gate_guard (by rfl) ?_; dsimp only)); refine bX_ 1 #[.int .i64 a0_0, .slice A0_1 l0_1.length c0_1] 24 ?_; intro gb338 hg w3 hbox hb; have BK338 := Z_ (hbox); have GW338 := Z_ ((by rw [hg]; exact (fZ_ hB_) : w.heap.size ≤ gb338)); have GE338 := Z_ ((by rw [hg]; exact (fZ_ hB_) : w.heap.size ≤ gb338)); replace HB := Z_ (fS_ hB_ hb); clear hb hbox hg; obtain ⟨⟨hcz4_0, hcz4_1⟩, hfz4_0, hfz4_1⟩ := f2_ BK338.out)); go_ret; exact ⟨eW_, hB_⟩
 rw [if_neg c2] at H; have c2b0 : decide (a0_0 ≤ 16) = false := eF_ c2; clear c2; obtain rfl := oI_ H; go_enter Try.func23, Try.ntmps23; go_wp2_with (first | ((with_reducible refine gate_dst (N := 1) rfl ?_); (try (refine gate_guard (by rfl) ?_; dsimp only)); refine bX_ 1 #[.int .i64 a0_0, .slice A0_1 l0_1.length c0_1] 24 ?_; intro gb338 hg w5 hbox hb; have BK338 := Z_ (hbox); have GW338 := Z_ ((by rw [hg]; exact (fZ_ hB_) : w.heap.size ≤ gb338)); have GE338 := Z_ ((by rw [hg]; exact (fZ_ hB_) : w.heap.size ≤ gb338)); replace HB := Z_ (fS_ hB_ hb); clear hb hbox hg; obtain ⟨⟨hcz6_0, hcz6_1⟩, hfz6_0, hfz6_1⟩ := f2_ BK338.out)); go_ret; exact ⟨eW_, hB_⟩
mutual
def snowlinelaw04_DiffsPaths.j0 : Nat → List Int → Int → Int → Int → List Int → Bool → Int → List (S39) → Option (Bool)
 | 0, _, _, _, _, _, _, _, _ => none
 | k + 1, x1, x2, x3, x4, x5, x54, x929000, x929001 => if x54 = true then (some true) else ((diffs_CheckPath.f k x929000 x929001 x2 x3 x4 x5).bind fun t933 => (if t933 = 0 then (if 0 ≤ x3 then (if x3 < (x1.length : Int) then (if 0 ≤ x2 then (if x2 < (x1.length : Int) then (snowlinelaw04_DiffsPaths.j1 k x1 x2 x3 (decide ((wrap64 ((rd x1 x3) - (rd x1 x2))) > x4)) x929000 x929001) else (none)) else (none)) else (none)) else (none)) else (snowlinelaw04_DiffsPaths.j1 k x1 x2 x3 false x929000 x929001)))
def snowlinelaw04_DiffsPaths.j1 : Nat → List Int → Int → Int → Bool → Int → List (S39) → Option (Bool)
 | 0, _, _, _, _, _, _ => none
 | k + 1, x1, x2, x3, x74, x929000, x929001 => if x74 = true then (some false) else ((diffs_Apart.f k x929000 x929001 x2 x3).bind fun bt936 => ((diffs_Path.f k x929000 x929001 x2 x3).bind fun bt939 => (if bt936.2.2 = 0 then (if bt939.2.2 = 0 then (snowlinelaw04_DiffsPaths.j2 k x1 x2 x3 bt936.1 bt936.2.1 bt939.1 (bt936.2.1 != bt939.2.1) x929000 x929001) else (snowlinelaw04_DiffsPaths.j2 k x1 x2 x3 bt936.1 bt936.2.1 bt939.1 true x929000 x929001)) else (snowlinelaw04_DiffsPaths.j2 k x1 x2 x3 bt936.1 bt936.2.1 bt939.1 true x929000 x929001))))
def snowlinelaw04_DiffsPaths.j2 : Nat → List Int → Int → Int → Int → Bool → List Int → Bool → Int → List (S39) → Option (Bool)
 | 0, _, _, _, _, _, _, _, _, _ => none
 | k + 1, x1, x2, x3, x13, x14, x16, x101, x929000, x929001 => if x101 = true then (some false) else (if x14 = true then (if 0 ≤ x3 then (if x3 < (x1.length : Int) then (if 0 ≤ x2 then (if x2 < (x1.length : Int) then (if (wrap64 ((rd x1 x3) - (rd x1 x2))) ≤ x13 then ((diffs_CheckPath.f k x929000 x929001 x2 x3 x13 x16).bind fun t946 => (if t946 = 0 then ((diffs_CheckPath.f k x929000 x929001 x2 x3 (wrap64 (x13 - 1)) x16).bind fun t947 => (some (t947 == 43))) else (some false))) else (some false)) else (none)) else (none)) else (none)) else (none)) else (some true))
end
def snowlinelaw04_DiffsPaths.f (k : Nat) (a0_0 : Int) (l0_1 : List (S39)) (l1 : List Int) (a2 : Int) (a3 : Int) (a4 : Int) (l5 : List Int) : Option (Bool) := (snowlinelaw04_sane.f).bind fun t929 => (if t929 = true then ((snowlinelaw04_small.f a0_0 l0_1).bind fun t930 => (if t930 = true then ((snowlinelaw04_fulfils.f k a0_0 l0_1 l1).bind fun t931 => (if t931 = true then ((diffs_Check.f k a0_0 l0_1).bind fun t932 => (if t932 = 0 then (if a2 < 0 then (snowlinelaw04_DiffsPaths.j0 k l1 a2 a3 a4 l5 true a0_0 l0_1) else (if a2 ≥ a0_0 then (snowlinelaw04_DiffsPaths.j0 k l1 a2 a3 a4 l5 true a0_0 l0_1) else (if a3 < 0 then (snowlinelaw04_DiffsPaths.j0 k l1 a2 a3 a4 l5 true a0_0 l0_1) else (snowlinelaw04_DiffsPaths.j0 k l1 a2 a3 a4 l5 (decide (a3 ≥ a0_0)) a0_0 l0_1)))) else (snowlinelaw04_DiffsPaths.j0 k l1 a2 a3 a4 l5 true a0_0 l0_1))) else (snowlinelaw04_DiffsPaths.j0 k l1 a2 a3 a4 l5 true a0_0 l0_1))) else (snowlinelaw04_DiffsPaths.j0 k l1 a2 a3 a4 l5 true a0_0 l0_1))) else (some false))
theorem snowlinelaw04_DiffsPaths.mono_l : ∀ k, (∀ y0 y1 y2 y3 y4 y5 y6 y7, LeO (snowlinelaw04_DiffsPaths.j0 k y0 y1 y2 y3 y4 y5 y6 y7) (snowlinelaw04_DiffsPaths.j0 (k + 1) y0 y1 y2 y3 y4 y5 y6 y7)) ∧ (∀ y0 y1 y2 y3 y4 y5, LeO (snowlinelaw04_DiffsPaths.j1 k y0 y1 y2 y3 y4 y5) (snowlinelaw04_DiffsPaths.j1 (k + 1) y0 y1 y2 y3 y4 y5)) ∧ (∀ y0 y1 y2 y3 y4 y5 y6 y7 y8, LeO (snowlinelaw04_DiffsPaths.j2 k y0 y1 y2 y3 y4 y5 y6 y7 y8) (snowlinelaw04_DiffsPaths.j2 (k + 1) y0 y1 y2 y3 y4 y5 y6 y7 y8))
 | 0 => ⟨fun _ _ _ _ _ _ _ _ r h => by simp [snowlinelaw04_DiffsPaths.j0] at h, fun _ _ _ _ _ _ r h => by simp [snowlinelaw04_DiffsPaths.j1] at h, fun _ _ _ _ _ _ _ _ _ r h => by simp [snowlinelaw04_DiffsPaths.j2] at h⟩
 | k + 1 => by
  obtain ⟨ih0, ih1, ih2⟩ := snowlinelaw04_DiffsPaths.mono_l k; refine ⟨?_, ?_, ?_⟩ <;> intros <;> (first | unfold snowlinelaw04_DiffsPaths.j0 | unfold snowlinelaw04_DiffsPaths.j1 | unfold snowlinelaw04_DiffsPaths.j2) <;> repeat' first | (with_reducible first | exact ih0 _ _ _ _ _ _ _ _ | exact ih1 _ _ _ _ _ _ | exact ih2 _ _ _ _ _ _ _ _ _ | exact diffs_Apart.mono _ _ _ _ _ | exact diffs_Check.mono _ _ _ | exact diffs_CheckPath.mono _ _ _ _ _ _ _ | exact diffs_Path.mono _ _ _ _ _ | exact snowlinelaw04_fulfils.mono _ _ _ _ | exact LeO.refl _ | exact LeO.none _ | refine LeO.ite ?_ ?_ | refine LeO.bind ?_ (fun _ => ?_)) | exact ih0 _ _ _ _ _ _ _ _ | exact ih1 _ _ _ _ _ _ | exact ih2 _ _ _ _ _ _ _ _ _ | exact diffs_Apart.mono _ _ _ _ _ | exact diffs_Check.mono _ _ _ | exact diffs_CheckPath.mono _ _ _ _ _ _ _ | exact diffs_Path.mono _ _ _ _ _ | exact snowlinelaw04_fulfils.mono _ _ _ _ | exact LeO.none _ | refine LeO.ite ?_ ?_ | refine LeO.bind ?_ (fun _ => ?_)
theorem snowlinelaw04_DiffsPaths.mono : ∀ a0 a1 a2 a3 a4 a5 a6 k, LeO (snowlinelaw04_DiffsPaths.f k a0 a1 a2 a3 a4 a5 a6) (snowlinelaw04_DiffsPaths.f (k + 1) a0 a1 a2 a3 a4 a5 a6) := by
 intro a0 a1 a2 a3 a4 a5 a6 k; obtain ⟨ih0, ih1, ih2⟩ := snowlinelaw04_DiffsPaths.mono_l k; unfold snowlinelaw04_DiffsPaths.f; repeat' first | (with_reducible first | exact ih0 _ _ _ _ _ _ _ _ | exact ih1 _ _ _ _ _ _ | exact ih2 _ _ _ _ _ _ _ _ _ | exact diffs_Apart.mono _ _ _ _ _ | exact diffs_Check.mono _ _ _ | exact diffs_CheckPath.mono _ _ _ _ _ _ _ | exact diffs_Path.mono _ _ _ _ _ | exact snowlinelaw04_fulfils.mono _ _ _ _ | exact LeO.refl _ | exact LeO.none _ | refine LeO.ite ?_ ?_ | refine LeO.bind ?_ (fun _ => ?_)) | exact ih0 _ _ _ _ _ _ _ _ | exact ih1 _ _ _ _ _ _ | exact ih2 _ _ _ _ _ _ _ _ _ | exact diffs_Apart.mono _ _ _ _ _ | exact diffs_Check.mono _ _ _ | exact diffs_CheckPath.mono _ _ _ _ _ _ _ | exact diffs_Path.mono _ _ _ _ _ | exact snowlinelaw04_fulfils.mono _ _ _ _ | exact LeO.none _ | refine LeO.ite ?_ ?_ | refine LeO.bind ?_ (fun _ => ?_)
def snowlinelaw04_DiffsPaths.T5 : Bool × List (List Nat × List Nat) := (true, [([], []), ([], []), ([], []), ([], []), ([], []), ([0, 1, 2, 3, 4], [0, 1, 2, 3, 4]), ([5], [5]), ([6, 5], [6]), ([7], [7]), ([7], [7]), ([8, 9, 7], [7, 8, 9]), ([10, 7], [7, 10]), ([7], [7]), ([7], [7]), ([12, 13, 7], [7, 12, 13]), ([14, 7], [7, 14]), ([11, 15, 7], [7, 11, 15]), ([7], [7]), ([16, 17, 7], [7, 16, 17]), ([7, 18], [7, 18])])
def snowlinelaw04_DiffsPaths.B5 : List Nat := [0, 0, 0, 0, 0, 31, 63, 127, 255, 255, 1023, 2047, 255, 255, 12543, 28927, 65535, 255, 262143, 524287]
theorem snowlinelaw04_DiffsPaths.tab5 : rtab .any (opsOf Try.f12 5) = snowlinelaw04_DiffsPaths.T5 := by kernel_rfl
theorem snowlinelaw04_DiffsPaths.bits5 : waitsOk snowlinelaw04_DiffsPaths.T5.2 snowlinelaw04_DiffsPaths.B5 = true := by kernel_rfl
def snowlinelaw04_DiffsPaths.T11 : Bool × List (List Nat × List Nat) := (true, [([], []), ([0], [0]), ([1], [1]), ([2], [2]), ([2], [2]), ([3, 4, 2], [2, 3, 4]), ([5, 2], [2, 5]), ([2], [2]), ([2], [2]), ([7, 8, 2], [2, 7, 8]), ([9, 2], [2, 9]), ([6, 10, 2], [2, 6, 10]), ([2], [2]), ([11, 12, 2], [2, 11, 12]), ([13, 2, 2], [2, 13]), ([14], [14]), ([14], [14]), ([14], [14]), ([14], [14]), ([14], [14]), ([15, 16, 17, 18, 19, 14, 14], [14, 15, 16, 17, 18, 19]), ([20, 14], [14, 20]), ([14, 21, 2], [2, 14, 21]), ([22, 20, 2], [2, 22]), ([23], [23]), ([23], [23]), ([23], [23]), ([23], [23]), ([27, 23], [23, 27]), ([23], [23]), ([24, 25, 26, 28, 29, 23, 23], [23, 24, 25, 26, 28, 29]), ([30, 23], [23, 30]), ([23, 31, 2], [2, 23, 31]), ([2, 32], [2, 32]), ([33, 30, 0, 1, 2, 3, 4, 5, 6, 7, 8, 9, 10, 11, 12, 13, 14, 15, 16, 17, 18, 19, 20, 21, 22, 23, 24, 25, 26, 27, 28, 29, 30, 31, 32, 33], [33])])
def snowlinelaw04_DiffsPaths.B11 : List Nat := [0, 1, 3, 7, 7, 31, 63, 7, 7, 391, 903, 2047, 7, 8191, 16383, 32767, 32767, 32767, 32767, 32767, 1048575, 2097151, 4194303, 8388607, 16777215, 16777215, 16777215, 16777215, 150994943, 16777215, 1073741823, 2147483647, 4294967295, 8589934591, 17179869183]
theorem snowlinelaw04_DiffsPaths.tab11 : rtab .any (opsOf Try.f12 11) = snowlinelaw04_DiffsPaths.T11 := by kernel_rfl
theorem snowlinelaw04_DiffsPaths.bits11 : waitsOk snowlinelaw04_DiffsPaths.T11.2 snowlinelaw04_DiffsPaths.B11 = true := by kernel_rfl
set_option maxHeartbeats 8000000 in
set_option maxRecDepth 100000 in
theorem snowlinelaw04_DiffsPaths.calls (k : Nat) (a0_0 : Int) (A0_1 : Option Addr) (c0_1 : Nat) (l0_1 : List (S39)) (A1 : Option Addr) (c1 : Nat) (l1 : List Int) (a2 : Int) (a3 : Int) (a4 : Int) (A5 : Option Addr) (c5 : Nat) (l5 : List Int) (r : Bool) (w : World) (hr0_1 : Kd.C k39 w A0_1 l0_1.length l0_1) (hc0_1 : l0_1.length ≤ c0_1) (hr1 : Kd.C (Kd.int .i64) w A1 l1.length l1) (hc1 : l1.length ≤ c1) (hr5 : Kd.C (Kd.int .i64) w A5 l5.length l5) (hc5 : l5.length ≤ c5) (h : snowlinelaw04_DiffsPaths.f k a0_0 l0_1 l1 a2 a3 a4 l5 = some r) :
  Calls Try.prog 12 #[.agg #[.int .i64 a0_0, .slice A0_1 l0_1.length c0_1], .slice A1 l1.length c1, .int .i64 a2, .int .i64 a3, .int .i64 a4, .slice A5 l5.length c5] w fun e w' => e = .returned (.bool r) ∧ Below w.heap.size w w' := by
 have hu24 := Try.underlying24; have HR0_1 := Z_ hr0_1; have HC0_1 := Z_ hc0_1; clear hr0_1 hc0_1; have HR1 := Z_ hr1; have HC1 := Z_ hc1; clear hr1 hc1; have HR5 := Z_ hr5; have HC5 := Z_ hc5; clear hr5 hc5; have HB := Z_ (Below.refl w.heap.size w); have H : ((snowlinelaw04_sane.f).bind fun t929 => (if t929 = true then ((snowlinelaw04_small.f a0_0 l0_1).bind fun t930 => (if t930 = true then ((snowlinelaw04_fulfils.f k a0_0 l0_1 l1).bind fun t931 => (if t931 = true then ((diffs_Check.f k a0_0 l0_1).bind fun t932 => (if t932 = 0 then (if a2 < 0 then (snowlinelaw04_DiffsPaths.j0 k l1 a2 a3 a4 l5 true a0_0 l0_1) else (if a2 ≥ a0_0 then (snowlinelaw04_DiffsPaths.j0 k l1 a2 a3 a4 l5 true a0_0 l0_1) else (if a3 < 0 then (snowlinelaw04_DiffsPaths.j0 k l1 a2 a3 a4 l5 true a0_0 l0_1) else (snowlinelaw04_DiffsPaths.j0 k l1 a2 a3 a4 l5 (decide (a3 ≥ a0_0)) a0_0 l0_1)))) else (snowlinelaw04_DiffsPaths.j0 k l1 a2 a3 a4 l5 true a0_0 l0_1))) else (snowlinelaw04_DiffsPaths.j0 k l1 a2 a3 a4 l5 true a0_0 l0_1))) else (snowlinelaw04_DiffsPaths.j0 k l1 a2 a3 a4 l5 true a0_0 l0_1))) else (some false))) = some r := h; clear h; replace H := oS_.mp H; obtain ⟨t929, A70, H⟩ := H; have A7 := Z_ A70; clear A70; have HF8 := Z_ H; clear H; go_enter Try.func12, Try.ntmps12; go_upto_if 20 with (first | ((with_reducible refine gate_dst (N := 6) rfl ?_); refine bX_ 6 #[.int .i64 a0_0, .slice A0_1 l0_1.length c0_1] 24 ?_; intro gb928 hg w9 hbox hb; have BK928 := Z_ (hbox); have GW928 := Z_ ((by rw [hg]; exact (fZ_ hB_) : w.heap.size ≤ gb928)); have GE928 := Z_ ((by rw [hg]; exact (fZ_ hB_) : w.heap.size ≤ gb928)); replace HB := Z_ (fS_ hB_ hb); clear hb hbox hg) | ((with_reducible refine gate_callee (f := 21) rfl ?_); refine gL_ (some 19) Try.func21 #[] ?_; (with_reducible refine (snowlinelaw04_sane.calls  t929 _ A7.out).mono ?_); rintro e w10 ⟨rfl, hb⟩; refine ⟨_, rfl, ?_⟩; replace BK928 := Z_ (bB_ (g := gb928) (o := .cells #[.int .i64 a0_0, .slice A0_1 l0_1.length c0_1] 24 (0, 0)) (bR_ BK928.out) hb); replace HB := Z_ (fS_ hB_ hb); (try clear hb); (try clear hb2); (try clear hk); (try clear hi))); (try simp only [Act.put, sT_, sZ_, sS_])
 have H := HF8.out; clear HF8; by_cases c11 : t929 = true
 ·subst c11
  rw [if_pos rfl] at H; have HC12 := Z_ H; clear H; go_upto_region 3 with (fail); go_cut [54] (fun v54 wc => ∃ (kq : Nat) (x54_11 : Bool), v54 = .bool x54_11 ∧ Aside0 (snowlinelaw04_DiffsPaths.j0 kq l1 a2 a3 a4 l5 x54_11 a0_0 l0_1 = some r) ∧ Aside0 (kq ≤ k) ∧ Aside0 (wc.heap[gb928]? = some (.cells #[.int .i64 a0_0, (.slice A0_1 l0_1.length c0_1)] 24 (0, 0))) ∧ Aside0 (Below w.heap.size w wc))
  case first =>
   have H := HC12.out; clear HC12; replace H := oS_.mp H; obtain ⟨t930, A130, H⟩ := H; have A13 := Z_ A130; clear A130; by_cases c14 : t930 = true
   ·subst c14
    rw [if_pos rfl] at H; replace H := oS_.mp H; obtain ⟨t931, A150, H⟩ := H; have A15 := Z_ A150; clear A150; by_cases c16 : t931 = true
    ·subst c16
     rw [if_pos rfl] at H; replace H := oS_.mp H; obtain ⟨t932, A170, H⟩ := H; have A17 := Z_ A170; clear A170; by_cases c18 : t932 = 0
     ·rw [if_pos c18] at H
      obtain ⟨c18b0, c18b1⟩ := be_ c18; clear c18; (first | rw [c18b0] | (simp only [i64_w, i32_w]; rw [c18b0]) | skip)
      by_cases c19 : a2 < 0
      ·rw [if_pos c19] at H
       have c19b0 : decide (a2 < 0) = true := eT_ c19; clear c19; have H' := Z_ H; clear H; obtain ⟨⟨hcz20_0, hcz20_1⟩, hfz20_0, hfz20_1⟩ := f2_ BK928.out; go_wp2_with (first | ((with_reducible refine gate_callee (f := 23) rfl ?_); refine gL_ (some 22) Try.func23 #[.agg #[.int .i64 a0_0, .slice A0_1 l0_1.length c0_1]] ?_; (with_reducible refine (snowlinelaw04_small.calls a0_0 _ _ l0_1 true _ ?side1 ?side2 A13.out).mono ?_); (case side1 => exact cS_ (cB_ HR0_1.out HB.out)); (case side2 => exact HC0_1.out); rintro e w21 ⟨rfl, hb⟩; refine ⟨_, rfl, ?_⟩; replace BK928 := Z_ (bB_ (g := gb928) (o := .cells #[.int .i64 a0_0, .slice A0_1 l0_1.length c0_1] 24 (0, 0)) (bR_ BK928.out) hb); replace HB := Z_ (fS_ hB_ hb); (try clear hb); (try clear hb2); (try clear hk); (try clear hi); obtain ⟨⟨hcz22_0, hcz22_1⟩, hfz22_0, hfz22_1⟩ := f2_ BK928.out) | (go_at_call 48; (with_reducible refine (snowlinelaw04_fulfils.calls k a0_0 _ _ l0_1 _ _ l1 true _ ?side1 ?side2 ?side3 ?side4 A15.out).mono ?_); (case side1 => exact cS_ (cB_ HR0_1.out HB.out)); (case side2 => exact HC0_1.out); (case side3 => exact cS_ (cB_ HR1.out HB.out)); (case side4 => exact HC1.out); rintro e w23 ⟨rfl, hb⟩; replace BK928 := Z_ (bB_ (g := gb928) (o := .cells #[.int .i64 a0_0, .slice A0_1 l0_1.length c0_1] 24 (0, 0)) (bR_ BK928.out) hb); replace HB := Z_ (fS_ hB_ hb); (try clear hb); (try clear hb2); (try clear hk); (try clear hi); obtain ⟨⟨hcz24_0, hcz24_1⟩, hfz24_0, hfz24_1⟩ := f2_ BK928.out) | (go_at_call 29; (with_reducible refine (diffs_Check.calls k a0_0 _ _ l0_1 t932 _ ?side1 ?side2 A17.out).mono ?_); (case side1 => exact cS_ (cB_ HR0_1.out HB.out)); (case side2 => exact HC0_1.out); rintro e w25 ⟨rfl, hb⟩; replace BK928 := Z_ (bB_ (g := gb928) (o := .cells #[.int .i64 a0_0, .slice A0_1 l0_1.length c0_1] 24 (0, 0)) (bR_ BK928.out) hb); replace HB := Z_ (fS_ hB_ hb); (try clear hb); (try clear hb2); (try clear hk); (try clear hi))); go_meet
       case rel => exact ⟨_, (true), rf_, H', ⟨oL_⟩, ⟨bR_ BK928.out⟩, ⟨hB_⟩⟩
      rw [if_neg c19] at H; have c19b0 : decide (a2 < 0) = false := eF_ c19; clear c19; by_cases c26 : a2 ≥ a0_0
      ·rw [if_pos c26] at H
       have c26b0 : decide (a0_0 ≤ a2) = true := eT_ c26; clear c26; have H' := Z_ H; clear H; obtain ⟨⟨hcz27_0, hcz27_1⟩, hfz27_0, hfz27_1⟩ := f2_ BK928.out; go_wp2_with (first | ((with_reducible refine gate_callee (f := 23) rfl ?_); refine gL_ (some 22) Try.func23 #[.agg #[.int .i64 a0_0, .slice A0_1 l0_1.length c0_1]] ?_; (with_reducible refine (snowlinelaw04_small.calls a0_0 _ _ l0_1 true _ ?side1 ?side2 A13.out).mono ?_); (case side1 => exact cS_ (cB_ HR0_1.out HB.out)); (case side2 => exact HC0_1.out); rintro e w28 ⟨rfl, hb⟩; refine ⟨_, rfl, ?_⟩; replace BK928 := Z_ (bB_ (g := gb928) (o := .cells #[.int .i64 a0_0, .slice A0_1 l0_1.length c0_1] 24 (0, 0)) (bR_ BK928.out) hb); replace HB := Z_ (fS_ hB_ hb); (try clear hb); (try clear hb2); (try clear hk); (try clear hi); obtain ⟨⟨hcz29_0, hcz29_1⟩, hfz29_0, hfz29_1⟩ := f2_ BK928.out) | (go_at_call 48; (with_reducible refine (snowlinelaw04_fulfils.calls k a0_0 _ _ l0_1 _ _ l1 true _ ?side1 ?side2 ?side3 ?side4 A15.out).mono ?_); (case side1 => exact cS_ (cB_ HR0_1.out HB.out)); (case side2 => exact HC0_1.out); (case side3 => exact cS_ (cB_ HR1.out HB.out)); (case side4 => exact HC1.out); rintro e w30 ⟨rfl, hb⟩; replace BK928 := Z_ (bB_ (g := gb928) (o := .cells #[.int .i64 a0_0, .slice A0_1 l0_1.length c0_1] 24 (0, 0)) (bR_ BK928.out) hb); replace HB := Z_ (fS_ hB_ hb); (try clear hb); (try clear hb2); (try clear hk); (try clear hi); obtain ⟨⟨hcz31_0, hcz31_1⟩, hfz31_0, hfz31_1⟩ := f2_ BK928.out) | (go_at_call 29; (with_reducible refine (diffs_Check.calls k a0_0 _ _ l0_1 t932 _ ?side1 ?side2 A17.out).mono ?_); (case side1 => exact cS_ (cB_ HR0_1.out HB.out)); (case side2 => exact HC0_1.out); rintro e w32 ⟨rfl, hb⟩; replace BK928 := Z_ (bB_ (g := gb928) (o := .cells #[.int .i64 a0_0, .slice A0_1 l0_1.length c0_1] 24 (0, 0)) (bR_ BK928.out) hb); replace HB := Z_ (fS_ hB_ hb); (try clear hb); (try clear hb2); (try clear hk); (try clear hi); obtain ⟨⟨hcz33_0, hcz33_1⟩, hfz33_0, hfz33_1⟩ := f2_ BK928.out)); go_meet
       case rel => exact ⟨_, (true), rf_, H', ⟨oL_⟩, ⟨bR_ BK928.out⟩, ⟨hB_⟩⟩
      rw [if_neg c26] at H; have c26b0 : decide (a0_0 ≤ a2) = false := eF_ c26; clear c26; by_cases c34 : a3 < 0
      ·rw [if_pos c34] at H
       have c34b0 : decide (a3 < 0) = true := eT_ c34; clear c34; have H' := Z_ H; clear H; obtain ⟨⟨hcz35_0, hcz35_1⟩, hfz35_0, hfz35_1⟩ := f2_ BK928.out; go_wp2_with (first | ((with_reducible refine gate_callee (f := 23) rfl ?_); refine gL_ (some 22) Try.func23 #[.agg #[.int .i64 a0_0, .slice A0_1 l0_1.length c0_1]] ?_; (with_reducible refine (snowlinelaw04_small.calls a0_0 _ _ l0_1 true _ ?side1 ?side2 A13.out).mono ?_); (case side1 => exact cS_ (cB_ HR0_1.out HB.out)); (case side2 => exact HC0_1.out); rintro e w36 ⟨rfl, hb⟩; refine ⟨_, rfl, ?_⟩; replace BK928 := Z_ (bB_ (g := gb928) (o := .cells #[.int .i64 a0_0, .slice A0_1 l0_1.length c0_1] 24 (0, 0)) (bR_ BK928.out) hb); replace HB := Z_ (fS_ hB_ hb); (try clear hb); (try clear hb2); (try clear hk); (try clear hi); obtain ⟨⟨hcz37_0, hcz37_1⟩, hfz37_0, hfz37_1⟩ := f2_ BK928.out) | (go_at_call 48; (with_reducible refine (snowlinelaw04_fulfils.calls k a0_0 _ _ l0_1 _ _ l1 true _ ?side1 ?side2 ?side3 ?side4 A15.out).mono ?_); (case side1 => exact cS_ (cB_ HR0_1.out HB.out)); (case side2 => exact HC0_1.out); (case side3 => exact cS_ (cB_ HR1.out HB.out)); (case side4 => exact HC1.out); rintro e w38 ⟨rfl, hb⟩; replace BK928 := Z_ (bB_ (g := gb928) (o := .cells #[.int .i64 a0_0, .slice A0_1 l0_1.length c0_1] 24 (0, 0)) (bR_ BK928.out) hb); replace HB := Z_ (fS_ hB_ hb); (try clear hb); (try clear hb2); (try clear hk); (try clear hi); obtain ⟨⟨hcz39_0, hcz39_1⟩, hfz39_0, hfz39_1⟩ := f2_ BK928.out) | (go_at_call 29; (with_reducible refine (diffs_Check.calls k a0_0 _ _ l0_1 t932 _ ?side1 ?side2 A17.out).mono ?_); (case side1 => exact cS_ (cB_ HR0_1.out HB.out)); (case side2 => exact HC0_1.out); rintro e w40 ⟨rfl, hb⟩; replace BK928 := Z_ (bB_ (g := gb928) (o := .cells #[.int .i64 a0_0, .slice A0_1 l0_1.length c0_1] 24 (0, 0)) (bR_ BK928.out) hb); replace HB := Z_ (fS_ hB_ hb); (try clear hb); (try clear hb2); (try clear hk); (try clear hi); obtain ⟨⟨hcz41_0, hcz41_1⟩, hfz41_0, hfz41_1⟩ := f2_ BK928.out)); go_meet
       case rel => exact ⟨_, (true), rf_, H', ⟨oL_⟩, ⟨bR_ BK928.out⟩, ⟨hB_⟩⟩
      rw [if_neg c34] at H; have c34b0 : decide (a3 < 0) = false := eF_ c34; clear c34; have H' := Z_ H; clear H; obtain ⟨⟨hcz42_0, hcz42_1⟩, hfz42_0, hfz42_1⟩ := f2_ BK928.out; go_wp2_with (first | ((with_reducible refine gate_callee (f := 23) rfl ?_); refine gL_ (some 22) Try.func23 #[.agg #[.int .i64 a0_0, .slice A0_1 l0_1.length c0_1]] ?_; (with_reducible refine (snowlinelaw04_small.calls a0_0 _ _ l0_1 true _ ?side1 ?side2 A13.out).mono ?_); (case side1 => exact cS_ (cB_ HR0_1.out HB.out)); (case side2 => exact HC0_1.out); rintro e w43 ⟨rfl, hb⟩; refine ⟨_, rfl, ?_⟩; replace BK928 := Z_ (bB_ (g := gb928) (o := .cells #[.int .i64 a0_0, .slice A0_1 l0_1.length c0_1] 24 (0, 0)) (bR_ BK928.out) hb); replace HB := Z_ (fS_ hB_ hb); (try clear hb); (try clear hb2); (try clear hk); (try clear hi); obtain ⟨⟨hcz44_0, hcz44_1⟩, hfz44_0, hfz44_1⟩ := f2_ BK928.out) | (go_at_call 48; (with_reducible refine (snowlinelaw04_fulfils.calls k a0_0 _ _ l0_1 _ _ l1 true _ ?side1 ?side2 ?side3 ?side4 A15.out).mono ?_); (case side1 => exact cS_ (cB_ HR0_1.out HB.out)); (case side2 => exact HC0_1.out); (case side3 => exact cS_ (cB_ HR1.out HB.out)); (case side4 => exact HC1.out); rintro e w45 ⟨rfl, hb⟩; replace BK928 := Z_ (bB_ (g := gb928) (o := .cells #[.int .i64 a0_0, .slice A0_1 l0_1.length c0_1] 24 (0, 0)) (bR_ BK928.out) hb); replace HB := Z_ (fS_ hB_ hb); (try clear hb); (try clear hb2); (try clear hk); (try clear hi); obtain ⟨⟨hcz46_0, hcz46_1⟩, hfz46_0, hfz46_1⟩ := f2_ BK928.out) | (go_at_call 29; (with_reducible refine (diffs_Check.calls k a0_0 _ _ l0_1 t932 _ ?side1 ?side2 A17.out).mono ?_); (case side1 => exact cS_ (cB_ HR0_1.out HB.out)); (case side2 => exact HC0_1.out); rintro e w47 ⟨rfl, hb⟩; replace BK928 := Z_ (bB_ (g := gb928) (o := .cells #[.int .i64 a0_0, .slice A0_1 l0_1.length c0_1] 24 (0, 0)) (bR_ BK928.out) hb); replace HB := Z_ (fS_ hB_ hb); (try clear hb); (try clear hb2); (try clear hk); (try clear hi); obtain ⟨⟨hcz48_0, hcz48_1⟩, hfz48_0, hfz48_1⟩ := f2_ BK928.out)); go_meet
      case rel => exact ⟨_, (decide (a3 ≥ a0_0)), rf_, H', ⟨oL_⟩, ⟨bR_ BK928.out⟩, ⟨hB_⟩⟩
     rw [if_neg c18] at H; obtain ⟨c18b0, c18b1⟩ := bn_ c18; (first | rw [c18b0] | (simp only [i64_w, i32_w]; rw [c18b0]) | skip)
     have H' := Z_ H; clear H; obtain ⟨⟨hcz49_0, hcz49_1⟩, hfz49_0, hfz49_1⟩ := f2_ BK928.out; go_wp2_with (first | ((with_reducible refine gate_callee (f := 23) rfl ?_); refine gL_ (some 22) Try.func23 #[.agg #[.int .i64 a0_0, .slice A0_1 l0_1.length c0_1]] ?_; (with_reducible refine (snowlinelaw04_small.calls a0_0 _ _ l0_1 true _ ?side1 ?side2 A13.out).mono ?_); (case side1 => exact cS_ (cB_ HR0_1.out HB.out)); (case side2 => exact HC0_1.out); rintro e w50 ⟨rfl, hb⟩; refine ⟨_, rfl, ?_⟩; replace BK928 := Z_ (bB_ (g := gb928) (o := .cells #[.int .i64 a0_0, .slice A0_1 l0_1.length c0_1] 24 (0, 0)) (bR_ BK928.out) hb); replace HB := Z_ (fS_ hB_ hb); (try clear hb); (try clear hb2); (try clear hk); (try clear hi); obtain ⟨⟨hcz51_0, hcz51_1⟩, hfz51_0, hfz51_1⟩ := f2_ BK928.out) | (go_at_call 48; (with_reducible refine (snowlinelaw04_fulfils.calls k a0_0 _ _ l0_1 _ _ l1 true _ ?side1 ?side2 ?side3 ?side4 A15.out).mono ?_); (case side1 => exact cS_ (cB_ HR0_1.out HB.out)); (case side2 => exact HC0_1.out); (case side3 => exact cS_ (cB_ HR1.out HB.out)); (case side4 => exact HC1.out); rintro e w52 ⟨rfl, hb⟩; replace BK928 := Z_ (bB_ (g := gb928) (o := .cells #[.int .i64 a0_0, .slice A0_1 l0_1.length c0_1] 24 (0, 0)) (bR_ BK928.out) hb); replace HB := Z_ (fS_ hB_ hb); (try clear hb); (try clear hb2); (try clear hk); (try clear hi); obtain ⟨⟨hcz53_0, hcz53_1⟩, hfz53_0, hfz53_1⟩ := f2_ BK928.out) | (go_at_call 29; (with_reducible refine (diffs_Check.calls k a0_0 _ _ l0_1 t932 _ ?side1 ?side2 A17.out).mono ?_); (case side1 => exact cS_ (cB_ HR0_1.out HB.out)); (case side2 => exact HC0_1.out); rintro e w54 ⟨rfl, hb⟩; replace BK928 := Z_ (bB_ (g := gb928) (o := .cells #[.int .i64 a0_0, .slice A0_1 l0_1.length c0_1] 24 (0, 0)) (bR_ BK928.out) hb); replace HB := Z_ (fS_ hB_ hb); (try clear hb); (try clear hb2); (try clear hk); (try clear hi))); go_meet
     case rel => exact ⟨_, (true), rf_, H', ⟨oL_⟩, ⟨bR_ BK928.out⟩, ⟨hB_⟩⟩
    replace c16 := bE_.mpr c16; subst c16; have H1 : (snowlinelaw04_DiffsPaths.j0 k l1 a2 a3 a4 l5 true a0_0 l0_1) = some r := by rw [if_neg (show ¬ (false = true) by decide)] at H; exact H
    clear H; have H := H1; clear H1; have H' := Z_ H; clear H; obtain ⟨⟨hcz55_0, hcz55_1⟩, hfz55_0, hfz55_1⟩ := f2_ BK928.out; go_wp2_with (first | ((with_reducible refine gate_callee (f := 23) rfl ?_); refine gL_ (some 22) Try.func23 #[.agg #[.int .i64 a0_0, .slice A0_1 l0_1.length c0_1]] ?_; (with_reducible refine (snowlinelaw04_small.calls a0_0 _ _ l0_1 true _ ?side1 ?side2 A13.out).mono ?_); (case side1 => exact cS_ (cB_ HR0_1.out HB.out)); (case side2 => exact HC0_1.out); rintro e w56 ⟨rfl, hb⟩; refine ⟨_, rfl, ?_⟩; replace BK928 := Z_ (bB_ (g := gb928) (o := .cells #[.int .i64 a0_0, .slice A0_1 l0_1.length c0_1] 24 (0, 0)) (bR_ BK928.out) hb); replace HB := Z_ (fS_ hB_ hb); (try clear hb); (try clear hb2); (try clear hk); (try clear hi); obtain ⟨⟨hcz57_0, hcz57_1⟩, hfz57_0, hfz57_1⟩ := f2_ BK928.out) | (go_at_call 48; (with_reducible refine (snowlinelaw04_fulfils.calls k a0_0 _ _ l0_1 _ _ l1 false _ ?side1 ?side2 ?side3 ?side4 A15.out).mono ?_); (case side1 => exact cS_ (cB_ HR0_1.out HB.out)); (case side2 => exact HC0_1.out); (case side3 => exact cS_ (cB_ HR1.out HB.out)); (case side4 => exact HC1.out); rintro e w58 ⟨rfl, hb⟩; replace BK928 := Z_ (bB_ (g := gb928) (o := .cells #[.int .i64 a0_0, .slice A0_1 l0_1.length c0_1] 24 (0, 0)) (bR_ BK928.out) hb); replace HB := Z_ (fS_ hB_ hb); (try clear hb); (try clear hb2); (try clear hk); (try clear hi))); go_meet
    case rel => exact ⟨_, (true), rf_, H', ⟨oL_⟩, ⟨bR_ BK928.out⟩, ⟨hB_⟩⟩
   replace c14 := bE_.mpr c14; subst c14; have H1 : (snowlinelaw04_DiffsPaths.j0 k l1 a2 a3 a4 l5 true a0_0 l0_1) = some r := by rw [if_neg (show ¬ (false = true) by decide)] at H; exact H
   clear H; have H := H1; clear H1; have H' := Z_ H; clear H; obtain ⟨⟨hcz59_0, hcz59_1⟩, hfz59_0, hfz59_1⟩ := f2_ BK928.out; go_wp2_with (first | ((with_reducible refine gate_callee (f := 23) rfl ?_); refine gL_ (some 22) Try.func23 #[.agg #[.int .i64 a0_0, .slice A0_1 l0_1.length c0_1]] ?_; (with_reducible refine (snowlinelaw04_small.calls a0_0 _ _ l0_1 false _ ?side1 ?side2 A13.out).mono ?_); (case side1 => exact cS_ (cB_ HR0_1.out HB.out)); (case side2 => exact HC0_1.out); rintro e w60 ⟨rfl, hb⟩; refine ⟨_, rfl, ?_⟩; replace BK928 := Z_ (bB_ (g := gb928) (o := .cells #[.int .i64 a0_0, .slice A0_1 l0_1.length c0_1] 24 (0, 0)) (bR_ BK928.out) hb); replace HB := Z_ (fS_ hB_ hb); (try clear hb); (try clear hb2); (try clear hk); (try clear hi))); go_meet
   case rel => exact ⟨_, (true), rf_, H', ⟨oL_⟩, ⟨bR_ BK928.out⟩, ⟨hB_⟩⟩
  case rest =>
   clear HC12; (try clear c1); (try clear c2); (try clear p2); (try clear c3); (try clear c5); (try clear c11); (try clear c12); (try clear c14); (try clear c16); (try clear c18); (try clear c18b0); (try clear c18b1); (try clear c19); (try clear c19b0); (try clear c21); (try clear c23); (try clear c26); (try clear c26b0); (try clear c34); (try clear c34b0); (try clear hcz20_0); (try clear hcz20_1); (try clear hcz22_0); (try clear hcz22_1); (try clear hcz24_0); (try clear hcz24_1); (try clear hcz27_0); (try clear hcz27_1); (try clear hcz29_0); (try clear hcz29_1); (try clear hcz31_0); (try clear hcz31_1); (try clear hcz33_0); (try clear hcz33_1); (try clear hcz35_0); (try clear hcz35_1); (try clear hcz37_0); (try clear hcz37_1); (try clear hcz39_0); (try clear hcz39_1); (try clear hcz41_0); (try clear hcz41_1); (try clear hcz42_0); (try clear hcz42_1); (try clear hcz44_0); (try clear hcz44_1); (try clear hcz46_0); (try clear hcz46_1); (try clear hcz48_0); (try clear hcz48_1); (try clear hcz49_0); (try clear hcz49_1); (try clear hcz51_0); (try clear hcz51_1); (try clear hcz53_0); (try clear hcz53_1); (try clear hcz55_0); (try clear hcz55_1); (try clear hcz57_0); (try clear hcz57_1); (try clear hcz59_0); (try clear hcz59_1); (try clear hfz20_0); (try clear hfz20_1); (try clear hfz22_0); (try clear hfz22_1); (try clear hfz24_0); (try clear hfz24_1); (try clear hfz27_0); (try clear hfz27_1); (try clear hfz29_0); (try clear hfz29_1); (try clear hfz31_0); (try clear hfz31_1); (try clear hfz33_0); (try clear hfz33_1); (try clear hfz35_0); (try clear hfz35_1); (try clear hfz37_0); (try clear hfz37_1); (try clear hfz39_0); (try clear hfz39_1); (try clear hfz41_0); (try clear hfz41_1); (try clear hfz42_0); (try clear hfz42_1); (try clear hfz44_0); (try clear hfz44_1); (try clear hfz46_0); (try clear hfz46_1); (try clear hfz48_0); (try clear hfz48_1); (try clear hfz49_0); (try clear hfz49_1); (try clear hfz51_0); (try clear hfz51_1); (try clear hfz53_0); (try clear hfz53_1); (try clear hfz55_0); (try clear hfz55_1); (try clear hfz57_0); (try clear hfz57_1); (try clear hfz59_0); (try clear hfz59_1)
   obtain ⟨kq, x54_11, rfl, HA, HJ11, BK928, HB⟩ := hcut
   cases kq with
   | zero => exact absurd HA.out (by simp [snowlinelaw04_DiffsPaths.j0])
   | succ kj11 =>
    have H := HA.out; clear HA; simp only [snowlinelaw04_DiffsPaths.j0] at H; by_cases c61 : x54_11 = true
    ·subst c61
     rw [if_pos rfl] at H; obtain rfl := oI_ H; go_wp2; go_ret; exact ⟨eW_, hB_⟩
    replace c61 := bE_.mpr c61; subst c61; have H1 : ((diffs_CheckPath.f kj11 a0_0 l0_1 a2 a3 a4 l5).bind fun t933 => (if t933 = 0 then (if 0 ≤ a3 then (if a3 < (l1.length : Int) then (if 0 ≤ a2 then (if a2 < (l1.length : Int) then (snowlinelaw04_DiffsPaths.j1 kj11 l1 a2 a3 (decide ((wrap64 ((rd l1 a3) - (rd l1 a2))) > a4)) a0_0 l0_1) else (none)) else (none)) else (none)) else (none)) else (snowlinelaw04_DiffsPaths.j1 kj11 l1 a2 a3 false a0_0 l0_1))) = some r := by rw [if_neg (show ¬ (false = true) by decide)] at H; exact H
    clear H; have H := H1; clear H1; have HC62 := Z_ H; clear H; go_upto_region 5 with (fail); go_cut [74] (fun v74 wc => ∃ (kq : Nat) (x74_61 : Bool), v74 = .bool x74_61 ∧ Aside0 (snowlinelaw04_DiffsPaths.j1 kq l1 a2 a3 x74_61 a0_0 l0_1 = some r) ∧ Aside0 (kq ≤ kj11) ∧ Aside0 (wc.heap[gb928]? = some (.cells #[.int .i64 a0_0, (.slice A0_1 l0_1.length c0_1)] 24 (0, 0))) ∧ Aside0 (Below w.heap.size w wc))
    case first =>
     have H := HC62.out; clear HC62; replace H := oS_.mp H; obtain ⟨t933, A630, H⟩ := H; have A63 := Z_ A630; clear A630; by_cases c64 : t933 = 0
     ·rw [if_pos c64] at H
      obtain ⟨c64b0, c64b1⟩ := be_ c64; clear c64; (first | rw [c64b0] | (simp only [i64_w, i32_w]; rw [c64b0]) | skip)
      by_cases c65 : 0 ≤ a3
      ·rw [if_pos c65] at H
       have c65b0 : decide (0 ≤ a3) = true := eT_ c65; clear c65; by_cases c66 : a3 < (l1.length : Int)
       ·rw [if_pos c66] at H
        have c66b0 : decide (a3 < (l1.length : Int)) = true := eT_ c66; clear c66; by_cases c67 : 0 ≤ a2
        ·rw [if_pos c67] at H
         have c67b0 : decide (0 ≤ a2) = true := eT_ c67; clear c67; by_cases c68 : a2 < (l1.length : Int)
         ·rw [if_pos c68] at H
          have c68b0 : decide (a2 < (l1.length : Int)) = true := eT_ c68; clear c68; have H' := Z_ H; clear H; try go_wp2
          replace BK928 := Z_ (bD_ BK928.out); replace HB := Z_ (fD_ HB.out); have p934 : 0 ≤ (a3 : Int) := dT_ as_; have q934 : a3 < (l1.length : Int) := dT_ as_; obtain ⟨ad934, e934, hx934_0⟩ := Kd.at_int HR1.out a3 p934 q934; have hw934_0 := hx934_0; cases e934
          replace hx934_0 := (HB.out.cell (World.block_lt_of_cell? w _ hx934_0)).trans hx934_0; replace p934 := eq_true p934; replace q934 := eq_true q934; have p935 : 0 ≤ (a2 : Int) := dT_ as_; have q935 : a2 < (l1.length : Int) := dT_ as_; obtain ⟨ad935, e935, hx935_0⟩ := Kd.at_int HR1.out a2 p935 q935; have hw935_0 := hx935_0; obtain rfl : ad934 = ad935 := (by injection e935); replace hx935_0 := (HB.out.cell (World.block_lt_of_cell? w _ hx935_0)).trans hx935_0; replace p935 := eq_true p935; replace q935 := eq_true q935; refine start_ (n := 20) (S := fun w' => w'.cell? ⟨gb928, 0, none⟩ = some (.int .i64 a0_0) ∧ w'.cell? ⟨gb928, 1, none⟩ = some (.slice A0_1 l0_1.length c0_1) ∧ w'.cell? (ad934.add (a3).toNat) = some (.int .i64 (rd l1 a3)) ∧ w'.cell? (ad934.add (a2).toNat) = some (.int .i64 (rd l1 a2))) (ds := []) #[false, false, false, false, false, false, false, false, false, false, false, false, false, false, false, false, false, false, false, false] (by kernel_rfl) rfl rfl ⟨(bC_ BK928.out 0).trans rfl, (bC_ BK928.out 1).trans rfl, ((HB.out.cell (World.block_lt_of_cell? w _ hw934_0)).trans hw934_0), ((HB.out.cell (World.block_lt_of_cell? w _ hw935_0)).trans hw935_0)⟩ (fun hHeld => ?_); refine with_tabW snowlinelaw04_DiffsPaths.tab5 snowlinelaw04_DiffsPaths.bits5 (fun HT_ HW_ => ?_); generalize wc.drew = w69 at BK928 HB hx934_0 hx935_0 hHeld ⊢; refine pP_ 1 56 ?_; refine pP_ 2 57 ?_; refine pP_ 3 58 ?_; refine pP_ 4 59 ?_; refine pT_ 0 55 ?_; refine oN_ 5 (some 60) (fun K hK => ?_); refine gO_ Try.func43 #[.agg #[.int .i64 a0_0, .slice A0_1 l0_1.length c0_1], .int .i64 a2, .int .i64 a3, .int .i64 a4, .slice A5 l5.length c5] ?_; with_reducible refine (diffs_CheckPath.calls kj11 a0_0 _ _ l0_1 a2 a3 a4 _ _ l5 t933 _ ?side1 ?side2 ?side3 ?side4 A63.out).mono ?_
          (case side1 => exact cS_ (cB_ HR0_1.out HB.out))
          (case side2 => exact HC0_1.out)
          (case side3 => exact cS_ (cB_ HR5.out HB.out))
          (case side4 => exact HC5.out)
          rintro e w70 ⟨rfl, hb⟩; refine ⟨_, rfl, ?_⟩; replace BK928 := Z_ (bB_ (g := gb928) (o := .cells #[.int .i64 a0_0, .slice A0_1 l0_1.length c0_1] 24 (0, 0)) (bR_ BK928.out) hb); replace HB := Z_ (fS_ hB_ hb); (try clear hb)
          (try clear hb2)
          (try clear hk)
          (try clear hi)
          refine hK.out _ _ ⟨(bC_ BK928.out 0).trans rfl, (bC_ BK928.out 1).trans rfl, ((HB.out.cell (World.block_lt_of_cell? w _ hw934_0)).trans hw934_0), ((HB.out.cell (World.block_lt_of_cell? w _ hw935_0)).trans hw935_0)⟩ (fun hHeld => ?_); clear hK K; refine nP_ 60 ?_; refine pP_ 6 61 ?_; refine pP_ 7 62 ?_; refine pP_ 8 63 ?_; refine pP_ 9 64 ?_; refine pP_ 10 65 ?_; refine pP_ 12 67 ?_; refine pP_ 13 68 ?_; refine pP_ 14 69 ?_; refine pP_ 17 72 ?_; refine pT_ 11 66 ?_; refine pT_ 15 70 ?_; refine pP_ 16 71 ?_; refine pP_ 18 73 ?_; refine pP_ 19 74 ?_; refine dN_ ?_; try go_wp2
          go_meet
          case rel => exact ⟨_, (decide ((wrap64 ((rd l1 a3) - (rd l1 a2))) > a4)), rf_, H', ⟨by have := HJ11.out; first | omega | exact nR_ _⟩, ⟨bR_ BK928.out⟩, ⟨hB_⟩⟩
         rw [if_neg c68] at H; exact absurd H (by simp)
        rw [if_neg c67] at H; exact absurd H (by simp)
       rw [if_neg c66] at H; exact absurd H (by simp)
      rw [if_neg c65] at H; exact absurd H (by simp)
     rw [if_neg c64] at H; obtain ⟨c64b0, c64b1⟩ := bn_ c64; (first | rw [c64b0] | (simp only [i64_w, i32_w]; rw [c64b0]) | skip)
     have H' := Z_ H; clear H; try go_wp2
     replace BK928 := Z_ (bD_ BK928.out); replace HB := Z_ (fD_ HB.out); refine start_ (n := 20) (S := fun w' => w'.cell? ⟨gb928, 0, none⟩ = some (.int .i64 a0_0) ∧ w'.cell? ⟨gb928, 1, none⟩ = some (.slice A0_1 l0_1.length c0_1)) (ds := []) #[false, false, false, false, false, false, false, false, false, false, false, false, false, false, false, false, false, false, false, false] (by kernel_rfl) rfl rfl ⟨(bC_ BK928.out 0).trans rfl, (bC_ BK928.out 1).trans rfl⟩ (fun hHeld => ?_); refine with_tabW snowlinelaw04_DiffsPaths.tab5 snowlinelaw04_DiffsPaths.bits5 (fun HT_ HW_ => ?_); generalize wc.drew = w71 at BK928 HB hHeld ⊢; refine pP_ 1 56 ?_; refine pP_ 2 57 ?_; refine pP_ 3 58 ?_; refine pP_ 4 59 ?_; refine pT_ 0 55 ?_; refine oN_ 5 (some 60) (fun K hK => ?_); refine gO_ Try.func43 #[.agg #[.int .i64 a0_0, .slice A0_1 l0_1.length c0_1], .int .i64 a2, .int .i64 a3, .int .i64 a4, .slice A5 l5.length c5] ?_; with_reducible refine (diffs_CheckPath.calls kj11 a0_0 _ _ l0_1 a2 a3 a4 _ _ l5 t933 _ ?side1 ?side2 ?side3 ?side4 A63.out).mono ?_
     (case side1 => exact cS_ (cB_ HR0_1.out HB.out))
     (case side2 => exact HC0_1.out)
     (case side3 => exact cS_ (cB_ HR5.out HB.out))
     (case side4 => exact HC5.out)
     rintro e w72 ⟨rfl, hb⟩; refine ⟨_, rfl, ?_⟩; replace BK928 := Z_ (bB_ (g := gb928) (o := .cells #[.int .i64 a0_0, .slice A0_1 l0_1.length c0_1] 24 (0, 0)) (bR_ BK928.out) hb); replace HB := Z_ (fS_ hB_ hb); (try clear hb)
     (try clear hb2)
     (try clear hk)
     (try clear hi)
     refine hK.out _ _ ⟨(bC_ BK928.out 0).trans rfl, (bC_ BK928.out 1).trans rfl⟩ (fun hHeld => ?_); clear hK K; refine nP_ 60 ?_; refine pP_ 6 61 ?_; refine pP_ 7 62 ?_; refine pU_ 8 63 ?_; refine pU_ 9 64 ?_; refine pU_ 10 65 ?_; refine pU_ 11 66 ?_; refine pU_ 12 67 ?_; refine pU_ 13 68 ?_; refine pU_ 14 69 ?_; refine pU_ 15 70 ?_; refine pU_ 16 71 ?_; refine pU_ 17 72 ?_; refine pU_ 18 73 ?_; refine pP_ 19 74 ?_; refine dN_ ?_; try go_wp2
     go_meet
     case rel => exact ⟨_, (false), rf_, H', ⟨by have := HJ11.out; first | omega | exact nR_ _⟩, ⟨bR_ BK928.out⟩, ⟨hB_⟩⟩
    case rest =>
     clear HC62; (try clear c1); (try clear c2); (try clear p2); (try clear c3); (try clear c4); (try clear c5); (try clear c6); (try clear p6); (try clear p9); (try clear q9); (try clear hx9); (try clear c11); (try clear c12); (try clear c14); (try clear c16); (try clear c18); (try clear c18b0); (try clear c18b1); (try clear c19); (try clear c19b0); (try clear c21); (try clear c23); (try clear c26); (try clear c26b0); (try clear c34); (try clear c34b0); (try clear c43); (try clear c61); (try clear c64); (try clear c64b0); (try clear c64b1); (try clear p64); (try clear c65); (try clear c65b0); (try clear c66); (try clear c66b0); (try clear c67); (try clear c67b0); (try clear c68); (try clear c68b0); (try clear hcz20_0); (try clear hcz20_1); (try clear hcz22_0); (try clear hcz22_1); (try clear hcz24_0); (try clear hcz24_1); (try clear hcz27_0); (try clear hcz27_1); (try clear hcz29_0); (try clear hcz29_1); (try clear hcz31_0); (try clear hcz31_1); (try clear hcz33_0); (try clear hcz33_1); (try clear hcz35_0); (try clear hcz35_1); (try clear hcz37_0); (try clear hcz37_1); (try clear hcz39_0); (try clear hcz39_1); (try clear hcz41_0); (try clear hcz41_1); (try clear hcz42_0); (try clear hcz42_1); (try clear hcz44_0); (try clear hcz44_1); (try clear hcz46_0); (try clear hcz46_1); (try clear hcz48_0); (try clear hcz48_1); (try clear hcz49_0); (try clear hcz49_1); (try clear hcz51_0); (try clear hcz51_1); (try clear hcz53_0); (try clear hcz53_1); (try clear hcz55_0); (try clear hcz55_1); (try clear hcz57_0); (try clear hcz57_1); (try clear hcz59_0); (try clear hcz59_1); (try clear hfz20_0); (try clear hfz20_1); (try clear hfz22_0); (try clear hfz22_1); (try clear hfz24_0); (try clear hfz24_1); (try clear hfz27_0); (try clear hfz27_1); (try clear hfz29_0); (try clear hfz29_1); (try clear hfz31_0); (try clear hfz31_1); (try clear hfz33_0); (try clear hfz33_1); (try clear hfz35_0); (try clear hfz35_1); (try clear hfz37_0); (try clear hfz37_1); (try clear hfz39_0); (try clear hfz39_1); (try clear hfz41_0); (try clear hfz41_1); (try clear hfz42_0); (try clear hfz42_1); (try clear hfz44_0); (try clear hfz44_1); (try clear hfz46_0); (try clear hfz46_1); (try clear hfz48_0); (try clear hfz48_1); (try clear hfz49_0); (try clear hfz49_1); (try clear hfz51_0); (try clear hfz51_1); (try clear hfz53_0); (try clear hfz53_1); (try clear hfz55_0); (try clear hfz55_1); (try clear hfz57_0); (try clear hfz57_1); (try clear hfz59_0); (try clear hfz59_1); (try clear hx934_0); (try clear hx935_0); (try clear p2); (try clear p934); (try clear p935); (try clear q934); (try clear q935)
     obtain ⟨kq, x74_61, rfl, HA, HJ61, BK928, HB⟩ := hcut
     cases kq with
     | zero => exact absurd HA.out (by simp [snowlinelaw04_DiffsPaths.j1])
     | succ kj61 =>
      have H := HA.out; clear HA; simp only [snowlinelaw04_DiffsPaths.j1] at H; by_cases c73 : x74_61 = true
      ·subst c73
       rw [if_pos rfl] at H; obtain rfl := oI_ H; go_wp2; go_ret; exact ⟨eW_, hB_⟩
      replace c73 := bE_.mpr c73; subst c73; have H1 : ((diffs_Apart.f kj61 a0_0 l0_1 a2 a3).bind fun bt936 => ((diffs_Path.f kj61 a0_0 l0_1 a2 a3).bind fun bt939 => (if bt936.2.2 = 0 then (if bt939.2.2 = 0 then (snowlinelaw04_DiffsPaths.j2 kj61 l1 a2 a3 bt936.1 bt936.2.1 bt939.1 (bt936.2.1 != bt939.2.1) a0_0 l0_1) else (snowlinelaw04_DiffsPaths.j2 kj61 l1 a2 a3 bt936.1 bt936.2.1 bt939.1 true a0_0 l0_1)) else (snowlinelaw04_DiffsPaths.j2 kj61 l1 a2 a3 bt936.1 bt936.2.1 bt939.1 true a0_0 l0_1)))) = some r := by rw [if_neg (show ¬ (false = true) by decide)] at H; exact H
      clear H; have H := H1; clear H1; replace H := oS_.mp H; obtain ⟨⟨t936, t937, t938⟩, A740, H⟩ := H; have A74 := Z_ A740; clear A740; replace H := oS_.mp H; obtain ⟨⟨t939, t942, t943⟩, A750, H⟩ := H; have A75 := Z_ A750; clear A750; have HC76 := Z_ H; clear H; obtain ⟨⟨hcz77_0, hcz77_1⟩, hfz77_0, hfz77_1⟩ := f2_ BK928.out; go_upto_region 9 with (first | ((with_reducible refine gate_callee (f := 30) rfl ?_); refine gL_ (some 79) Try.func30 #[.agg #[.int .i64 a0_0, .slice A0_1 l0_1.length c0_1], .int .i64 a2, .int .i64 a3] ?_; (with_reducible refine (diffs_Apart.calls kj61 a0_0 _ _ l0_1 a2 a3 t936 t937 t938 _ ?side1 ?side2 A74.out).mono ?_); (case side1 => exact cS_ (cB_ HR0_1.out HB.out)); (case side2 => exact HC0_1.out); rintro e w78 ⟨rfl, hb⟩; refine ⟨_, rfl, ?_⟩; replace BK928 := Z_ (bB_ (g := gb928) (o := .cells #[.int .i64 a0_0, .slice A0_1 l0_1.length c0_1] 24 (0, 0)) (bR_ BK928.out) hb); replace HB := Z_ (fS_ hB_ hb); (try clear hb); (try clear hb2); (try clear hk); (try clear hi); obtain ⟨⟨hcz79_0, hcz79_1⟩, hfz79_0, hfz79_1⟩ := f2_ BK928.out) | ((with_reducible refine gate_callee (f := 46) rfl ?_); refine gL_ (some 87) Try.func46 #[.agg #[.int .i64 a0_0, .slice A0_1 l0_1.length c0_1], .int .i64 a2, .int .i64 a3] ?_; (with_reducible refine (diffs_Path.calls kj61 a0_0 _ _ l0_1 a2 a3 t939 t942 t943 _ ?side1 ?side2 A75.out).mono ?_); (case side1 => exact cS_ (cB_ HR0_1.out HB.out)); (case side2 => exact HC0_1.out); rintro e w80 ⟨v940, rfl, ho0, hb⟩; refine ⟨_, rfl, ?_⟩; have HO941 := Z_ (rL_ ho0 (fZ_ hB_)); replace BK928 := Z_ (bB_ (g := gb928) (o := .cells #[.int .i64 a0_0, .slice A0_1 l0_1.length c0_1] 24 (0, 0)) (bR_ BK928.out) hb); replace HB := Z_ (fS_ hB_ hb); (try clear hb); (try clear hb2); (try clear hk); (try clear hi); (try clear ho0))); (try simp only [Act.put, sT_, sZ_, sS_])
      go_cut [101] (fun v101 wc => ∃ (kq : Nat) (x101_75 : Bool), v101 = .bool x101_75 ∧ Aside0 (snowlinelaw04_DiffsPaths.j2 kq l1 a2 a3 t936 t937 t939 x101_75 a0_0 l0_1 = some r) ∧ Aside0 (kq ≤ kj61) ∧ Aside0 (Kd.R (Kd.int .i64) 3 wc w.heap.size (fun _ => True) v940 t939) ∧ Aside0 (wc.heap[gb928]? = some (.cells #[.int .i64 a0_0, (.slice A0_1 l0_1.length c0_1)] 24 (0, 0))) ∧ Aside0 (Below w.heap.size w wc))
      case first =>
       have H := HC76.out; clear HC76; by_cases c81 : t938 = 0
       ·rw [if_pos c81] at H
        obtain ⟨c81b0, c81b1⟩ := be_ c81; clear c81; (first | rw [c81b0] | (simp only [i64_w, i32_w]; rw [c81b0]) | skip)
        by_cases c82 : t943 = 0
        ·rw [if_pos c82] at H
         obtain ⟨c82b0, c82b1⟩ := be_ c82; clear c82; have H' := Z_ H; clear H; go_wp2; go_meet
         case rel => exact ⟨_, ((t937 != t942)), rf_, H', ⟨by have := HJ11.out; have := HJ61.out; first | omega | exact nR_ _⟩, ⟨rK_ HO941.out⟩, ⟨bR_ BK928.out⟩, ⟨hB_⟩⟩
        rw [if_neg c82] at H; obtain ⟨c82b0, c82b1⟩ := bn_ c82; have H' := Z_ H; clear H; go_wp2; go_meet
        case rel => exact ⟨_, (true), rf_, H', ⟨by have := HJ11.out; have := HJ61.out; first | omega | exact nR_ _⟩, ⟨rK_ HO941.out⟩, ⟨bR_ BK928.out⟩, ⟨hB_⟩⟩
       rw [if_neg c81] at H; obtain ⟨c81b0, c81b1⟩ := bn_ c81; (first | rw [c81b0] | (simp only [i64_w, i32_w]; rw [c81b0]) | skip)
       have H' := Z_ H; clear H; go_wp2; go_meet
       case rel => exact ⟨_, (true), rf_, H', ⟨by have := HJ11.out; have := HJ61.out; first | omega | exact nR_ _⟩, ⟨rK_ HO941.out⟩, ⟨bR_ BK928.out⟩, ⟨hB_⟩⟩
      case rest =>
       clear HC76; (try clear c1); (try clear c2); (try clear p2); (try clear c3); (try clear c4); (try clear c5); (try clear c6); (try clear p6); (try clear c7); (try clear c8); (try clear p9); (try clear q9); (try clear hx9); (try clear c11); (try clear c12); (try clear c14); (try clear c16); (try clear c18); (try clear c18b0); (try clear c18b1); (try clear c19); (try clear c19b0); (try clear c21); (try clear c23); (try clear c26); (try clear c26b0); (try clear c30); (try clear c34); (try clear c34b0); (try clear c43); (try clear c46); (try clear c61); (try clear c64); (try clear c64b0); (try clear c64b1); (try clear p64); (try clear c65); (try clear c65b0); (try clear c66); (try clear c66b0); (try clear c67); (try clear c67b0); (try clear c68); (try clear c68b0); (try clear c73); (try clear c81); (try clear c81b0); (try clear c81b1); (try clear c82); (try clear c82b0); (try clear c82b1); (try clear hcz20_0); (try clear hcz20_1); (try clear hcz22_0); (try clear hcz22_1); (try clear hcz24_0); (try clear hcz24_1); (try clear hcz27_0); (try clear hcz27_1); (try clear hcz29_0); (try clear hcz29_1); (try clear hcz31_0); (try clear hcz31_1); (try clear hcz33_0); (try clear hcz33_1); (try clear hcz35_0); (try clear hcz35_1); (try clear hcz37_0); (try clear hcz37_1); (try clear hcz39_0); (try clear hcz39_1); (try clear hcz41_0); (try clear hcz41_1); (try clear hcz42_0); (try clear hcz42_1); (try clear hcz44_0); (try clear hcz44_1); (try clear hcz46_0); (try clear hcz46_1); (try clear hcz48_0); (try clear hcz48_1); (try clear hcz49_0); (try clear hcz49_1); (try clear hcz51_0); (try clear hcz51_1); (try clear hcz53_0); (try clear hcz53_1); (try clear hcz55_0); (try clear hcz55_1); (try clear hcz57_0); (try clear hcz57_1); (try clear hcz59_0); (try clear hcz59_1); (try clear hcz77_0); (try clear hcz77_1); (try clear hcz79_0); (try clear hcz79_1); (try clear hfz20_0); (try clear hfz20_1); (try clear hfz22_0); (try clear hfz22_1); (try clear hfz24_0); (try clear hfz24_1); (try clear hfz27_0); (try clear hfz27_1); (try clear hfz29_0); (try clear hfz29_1); (try clear hfz31_0); (try clear hfz31_1); (try clear hfz33_0); (try clear hfz33_1); (try clear hfz35_0); (try clear hfz35_1); (try clear hfz37_0); (try clear hfz37_1); (try clear hfz39_0); (try clear hfz39_1); (try clear hfz41_0); (try clear hfz41_1); (try clear hfz42_0); (try clear hfz42_1); (try clear hfz44_0); (try clear hfz44_1); (try clear hfz46_0); (try clear hfz46_1); (try clear hfz48_0); (try clear hfz48_1); (try clear hfz49_0); (try clear hfz49_1); (try clear hfz51_0); (try clear hfz51_1); (try clear hfz53_0); (try clear hfz53_1); (try clear hfz55_0); (try clear hfz55_1); (try clear hfz57_0); (try clear hfz57_1); (try clear hfz59_0); (try clear hfz59_1); (try clear hfz77_0); (try clear hfz77_1); (try clear hfz79_0); (try clear hfz79_1); (try clear hx934_0); (try clear hx935_0); (try clear p2); (try clear p6); (try clear p64); (try clear p9); (try clear p934); (try clear p935); (try clear q9); (try clear q934); (try clear q935)
       obtain ⟨kq, x101_75, rfl, HA, HJ75, HO_16, BK928, HB⟩ := hcut
       cases kq with
       | zero => exact absurd HA.out (by simp [snowlinelaw04_DiffsPaths.j2])
       | succ kj75 =>
        have H := HA.out; clear HA; simp only [snowlinelaw04_DiffsPaths.j2] at H; by_cases c83 : x101_75 = true
        ·subst c83
         rw [if_pos rfl] at H; obtain rfl := oI_ H; go_wp2; go_ret; exact ⟨eW_, hB_⟩
        replace c83 := bE_.mpr c83; subst c83; have H1 : (if t937 = true then (if 0 ≤ a3 then (if a3 < (l1.length : Int) then (if 0 ≤ a2 then (if a2 < (l1.length : Int) then (if (wrap64 ((rd l1 a3) - (rd l1 a2))) ≤ t936 then ((diffs_CheckPath.f kj75 a0_0 l0_1 a2 a3 t936 t939).bind fun t946 => (if t946 = 0 then ((diffs_CheckPath.f kj75 a0_0 l0_1 a2 a3 (wrap64 (t936 - 1)) t939).bind fun t947 => (some (t947 == 43))) else (some false))) else (some false)) else (none)) else (none)) else (none)) else (none)) else (some true)) = some r := by rw [if_neg (show ¬ (false = true) by decide)] at H; exact H
        clear H; have H := H1; clear H1; by_cases c84 : t937 = true
        ·subst c84
         rw [if_pos rfl] at H; by_cases c85 : 0 ≤ a3
         ·rw [if_pos c85] at H
          have c85b0 : decide (0 ≤ a3) = true := eT_ c85; clear c85; by_cases c86 : a3 < (l1.length : Int)
          ·rw [if_pos c86] at H
           have c86b0 : decide (a3 < (l1.length : Int)) = true := eT_ c86; clear c86; by_cases c87 : 0 ≤ a2
           ·rw [if_pos c87] at H
            have c87b0 : decide (0 ≤ a2) = true := eT_ c87; clear c87; by_cases c88 : a2 < (l1.length : Int)
            ·rw [if_pos c88] at H
             have c88b0 : decide (a2 < (l1.length : Int)) = true := eT_ c88; clear c88; by_cases c89 : (wrap64 ((rd l1 a3) - (rd l1 a2))) ≤ t936
             ·rw [if_pos c89] at H
              have c89b0 : decide ((wrap64 ((rd l1 a3) - (rd l1 a2))) ≤ t936) = true := eT_ c89; clear c89; replace H := oS_.mp H; obtain ⟨t946, A900, H⟩ := H; have A90 := Z_ A900; clear A900; by_cases c91 : t946 = 0
              ·rw [if_pos c91] at H
               obtain ⟨c91b0, c91b1⟩ := be_ c91; clear c91; replace H := oS_.mp H; obtain ⟨t947, A920, H⟩ := H; have A92 := Z_ A920; clear A920; obtain rfl := oI_ H; try go_wp2
               replace HO_16 := Z_ (rD_ HO_16.out); replace BK928 := Z_ (bD_ BK928.out); replace HB := Z_ (fD_ HB.out); have p944 : 0 ≤ (a3 : Int) := dT_ as_; have q944 : a3 < (l1.length : Int) := dT_ as_; obtain ⟨ad944, e944, hx944_0⟩ := Kd.at_int HR1.out a3 p944 q944; have hw944_0 := hx944_0; cases e944
               replace hx944_0 := (HB.out.cell (World.block_lt_of_cell? w _ hx944_0)).trans hx944_0; replace p944 := eq_true p944; replace q944 := eq_true q944; have p945 : 0 ≤ (a2 : Int) := dT_ as_; have q945 : a2 < (l1.length : Int) := dT_ as_; obtain ⟨ad945, e945, hx945_0⟩ := Kd.at_int HR1.out a2 p945 q945; have hw945_0 := hx945_0; obtain rfl : ad944 = ad945 := (by injection e945); replace hx945_0 := (HB.out.cell (World.block_lt_of_cell? w _ hx945_0)).trans hx945_0; replace p945 := eq_true p945; replace q945 := eq_true q945; obtain ⟨Ao94, co94, eo94⟩ := rS_ HO_16.out; (first | subst eo94 | (injection eo94 with f1_ f2_ f3_; have f4_ := f1_.symm; have f5_ := f3_.symm; clear f1_ f2_ f3_; subst f4_; subst f5_))
               refine start_ (n := 35) (S := fun w' => w'.cell? ⟨gb928, 0, none⟩ = some (.int .i64 a0_0) ∧ w'.cell? ⟨gb928, 1, none⟩ = some (.slice A0_1 l0_1.length c0_1) ∧ w'.cell? (ad944.add (a3).toNat) = some (.int .i64 (rd l1 a3)) ∧ w'.cell? (ad944.add (a2).toNat) = some (.int .i64 (rd l1 a2))) (ds := []) #[false, false, false, false, false, false, false, false, false, false, false, false, false, false, false, false, false, false, false, false, false, false, false, false, false, false, false, false, false, false, false, false, false, false, false] (by kernel_rfl) rfl rfl ⟨(bC_ BK928.out 0).trans rfl, (bC_ BK928.out 1).trans rfl, ((HB.out.cell (World.block_lt_of_cell? w _ hw944_0)).trans hw944_0), ((HB.out.cell (World.block_lt_of_cell? w _ hw945_0)).trans hw945_0)⟩ (fun hHeld => ?_); refine with_tabW snowlinelaw04_DiffsPaths.tab11 snowlinelaw04_DiffsPaths.bits11 (fun HT_ HW_ => ?_); generalize wc.drew = w93 at HO_16 BK928 HB hx944_0 hx945_0 hHeld ⊢; refine pP_ 0 102 ?_; refine pP_ 1 103 ?_; refine pP_ 2 104 ?_; refine pP_ 3 105 ?_; refine pP_ 4 106 ?_; refine pP_ 5 107 ?_; refine pP_ 7 109 ?_; refine pP_ 8 110 ?_; refine pP_ 9 111 ?_; refine pP_ 12 114 ?_; refine pT_ 6 108 ?_; refine pT_ 10 112 ?_; refine pP_ 11 113 ?_; refine pP_ 13 115 ?_; refine pP_ 14 116 ?_; refine pP_ 16 118 ?_; refine pP_ 17 119 ?_; refine pP_ 18 120 ?_; refine pP_ 19 121 ?_; refine pT_ 15 117 ?_; refine oN_ 20 (some 122) (fun K hK => ?_); refine gO_ Try.func43 #[.agg #[.int .i64 a0_0, .slice A0_1 l0_1.length c0_1], .int .i64 a2, .int .i64 a3, .int .i64 t936, .slice Ao94 t939.length co94] ?_; with_reducible refine (diffs_CheckPath.calls kj75 a0_0 _ _ l0_1 a2 a3 t936 _ _ t939 t946 _ ?side1 ?side2 ?side3 ?side4 A90.out).mono ?_
               (case side1 => exact cS_ (cB_ HR0_1.out HB.out))
               (case side2 => exact HC0_1.out)
               (case side3 => repeat (first | exact (rR_ HO_16.out).2.2 | (with_reducible refine Kd.C_alloc ?_ _) | (with_reducible refine Kd.C_drewN ?_ _) | (with_reducible refine Kd.C_drew ?_)))
               (case side4 => exact (rR_ HO_16.out).2.1)
               rintro e w95 ⟨rfl, hb⟩; refine ⟨_, rfl, ?_⟩; replace HO_16 := Z_ (rB_ (rK_ HO_16.out) hb); replace BK928 := Z_ (bB_ (g := gb928) (o := .cells #[.int .i64 a0_0, .slice A0_1 l0_1.length c0_1] 24 (0, 0)) (bR_ BK928.out) hb); replace HB := Z_ (fS_ hB_ hb); (try clear hb)
               (try clear hb2)
               (try clear hk)
               (try clear hi)
               refine hK.out _ _ ⟨(bC_ BK928.out 0).trans rfl, (bC_ BK928.out 1).trans rfl, ((HB.out.cell (World.block_lt_of_cell? w _ hw944_0)).trans hw944_0), ((HB.out.cell (World.block_lt_of_cell? w _ hw945_0)).trans hw945_0)⟩ (fun hHeld => ?_); clear hK K; refine nP_ 122 ?_; refine pP_ 21 123 ?_; refine pP_ 22 124 ?_; refine pP_ 23 125 ?_; refine pP_ 25 127 ?_; refine pP_ 26 128 ?_; refine pP_ 27 129 ?_; refine pP_ 28 130 ?_; refine pP_ 29 131 ?_; refine pT_ 24 126 ?_; refine oN_ 30 (some 132) (fun K hK => ?_); refine gO_ Try.func43 #[.agg #[.int .i64 a0_0, .slice A0_1 l0_1.length c0_1], .int .i64 a2, .int .i64 a3, .int .i64 (wrap64 (t936 - 1)), .slice Ao94 t939.length co94] ?_; with_reducible refine (diffs_CheckPath.calls kj75 a0_0 _ _ l0_1 a2 a3 (wrap64 (t936 - 1)) _ _ t939 t947 _ ?side1 ?side2 ?side3 ?side4 A92.out).mono ?_
               (case side1 => exact cS_ (cB_ HR0_1.out HB.out))
               (case side2 => exact HC0_1.out)
               (case side3 => repeat (first | exact (rR_ HO_16.out).2.2 | (with_reducible refine Kd.C_alloc ?_ _) | (with_reducible refine Kd.C_drewN ?_ _) | (with_reducible refine Kd.C_drew ?_)))
               (case side4 => exact (rR_ HO_16.out).2.1)
               rintro e w96 ⟨rfl, hb⟩; refine ⟨_, rfl, ?_⟩; replace HO_16 := Z_ (rB_ (rK_ HO_16.out) hb); replace BK928 := Z_ (bB_ (g := gb928) (o := .cells #[.int .i64 a0_0, .slice A0_1 l0_1.length c0_1] 24 (0, 0)) (bR_ BK928.out) hb); replace HB := Z_ (fS_ hB_ hb); (try clear hb)
               (try clear hb2)
               (try clear hk)
               (try clear hi)
               refine hK.out _ _ ⟨(bC_ BK928.out 0).trans rfl, (bC_ BK928.out 1).trans rfl, ((HB.out.cell (World.block_lt_of_cell? w _ hw944_0)).trans hw944_0), ((HB.out.cell (World.block_lt_of_cell? w _ hw945_0)).trans hw945_0)⟩ (fun hHeld => ?_); clear hK K; refine nP_ 132 ?_; refine pP_ 31 133 ?_; refine pP_ 32 134 ?_; refine pP_ 33 135 ?_; refine pP_ 34 12 ?_; refine dN_ ?_; try go_wp2
               go_ret; exact ⟨eW_, hB_⟩
              rw [if_neg c91] at H; obtain ⟨c91b0, c91b1⟩ := bn_ c91; obtain rfl := oI_ H; try go_wp2
              replace HO_16 := Z_ (rD_ HO_16.out); replace BK928 := Z_ (bD_ BK928.out); replace HB := Z_ (fD_ HB.out); have p944 : 0 ≤ (a3 : Int) := dT_ as_; have q944 : a3 < (l1.length : Int) := dT_ as_; obtain ⟨ad944, e944, hx944_0⟩ := Kd.at_int HR1.out a3 p944 q944; have hw944_0 := hx944_0; cases e944
              replace hx944_0 := (HB.out.cell (World.block_lt_of_cell? w _ hx944_0)).trans hx944_0; replace p944 := eq_true p944; replace q944 := eq_true q944; have p945 : 0 ≤ (a2 : Int) := dT_ as_; have q945 : a2 < (l1.length : Int) := dT_ as_; obtain ⟨ad945, e945, hx945_0⟩ := Kd.at_int HR1.out a2 p945 q945; have hw945_0 := hx945_0; obtain rfl : ad944 = ad945 := (by injection e945); replace hx945_0 := (HB.out.cell (World.block_lt_of_cell? w _ hx945_0)).trans hx945_0; replace p945 := eq_true p945; replace q945 := eq_true q945; obtain ⟨Ao98, co98, eo98⟩ := rS_ HO_16.out; (first | subst eo98 | (injection eo98 with f1_ f2_ f3_; have f4_ := f1_.symm; have f5_ := f3_.symm; clear f1_ f2_ f3_; subst f4_; subst f5_))
              refine start_ (n := 35) (S := fun w' => w'.cell? ⟨gb928, 0, none⟩ = some (.int .i64 a0_0) ∧ w'.cell? ⟨gb928, 1, none⟩ = some (.slice A0_1 l0_1.length c0_1) ∧ w'.cell? (ad944.add (a3).toNat) = some (.int .i64 (rd l1 a3)) ∧ w'.cell? (ad944.add (a2).toNat) = some (.int .i64 (rd l1 a2))) (ds := []) #[false, false, false, false, false, false, false, false, false, false, false, false, false, false, false, false, false, false, false, false, false, false, false, false, false, false, false, false, false, false, false, false, false, false, false] (by kernel_rfl) rfl rfl ⟨(bC_ BK928.out 0).trans rfl, (bC_ BK928.out 1).trans rfl, ((HB.out.cell (World.block_lt_of_cell? w _ hw944_0)).trans hw944_0), ((HB.out.cell (World.block_lt_of_cell? w _ hw945_0)).trans hw945_0)⟩ (fun hHeld => ?_); refine with_tabW snowlinelaw04_DiffsPaths.tab11 snowlinelaw04_DiffsPaths.bits11 (fun HT_ HW_ => ?_); generalize wc.drew = w97 at HO_16 BK928 HB hx944_0 hx945_0 hHeld ⊢; refine pP_ 0 102 ?_; refine pP_ 1 103 ?_; refine pP_ 2 104 ?_; refine pP_ 3 105 ?_; refine pP_ 4 106 ?_; refine pP_ 5 107 ?_; refine pP_ 7 109 ?_; refine pP_ 8 110 ?_; refine pP_ 9 111 ?_; refine pP_ 12 114 ?_; refine pT_ 6 108 ?_; refine pT_ 10 112 ?_; refine pP_ 11 113 ?_; refine pP_ 13 115 ?_; refine pP_ 14 116 ?_; refine pP_ 16 118 ?_; refine pP_ 17 119 ?_; refine pP_ 18 120 ?_; refine pP_ 19 121 ?_; refine pT_ 15 117 ?_; refine oN_ 20 (some 122) (fun K hK => ?_); refine gO_ Try.func43 #[.agg #[.int .i64 a0_0, .slice A0_1 l0_1.length c0_1], .int .i64 a2, .int .i64 a3, .int .i64 t936, .slice Ao98 t939.length co98] ?_; with_reducible refine (diffs_CheckPath.calls kj75 a0_0 _ _ l0_1 a2 a3 t936 _ _ t939 t946 _ ?side1 ?side2 ?side3 ?side4 A90.out).mono ?_
              (case side1 => exact cS_ (cB_ HR0_1.out HB.out))
              (case side2 => exact HC0_1.out)
              (case side3 => repeat (first | exact (rR_ HO_16.out).2.2 | (with_reducible refine Kd.C_alloc ?_ _) | (with_reducible refine Kd.C_drewN ?_ _) | (with_reducible refine Kd.C_drew ?_)))
              (case side4 => exact (rR_ HO_16.out).2.1)
              rintro e w99 ⟨rfl, hb⟩; refine ⟨_, rfl, ?_⟩; replace HO_16 := Z_ (rB_ (rK_ HO_16.out) hb); replace BK928 := Z_ (bB_ (g := gb928) (o := .cells #[.int .i64 a0_0, .slice A0_1 l0_1.length c0_1] 24 (0, 0)) (bR_ BK928.out) hb); replace HB := Z_ (fS_ hB_ hb); (try clear hb)
              (try clear hb2)
              (try clear hk)
              (try clear hi)
              refine hK.out _ _ ⟨(bC_ BK928.out 0).trans rfl, (bC_ BK928.out 1).trans rfl, ((HB.out.cell (World.block_lt_of_cell? w _ hw944_0)).trans hw944_0), ((HB.out.cell (World.block_lt_of_cell? w _ hw945_0)).trans hw945_0)⟩ (fun hHeld => ?_); clear hK K; refine nP_ 122 ?_; refine pP_ 21 123 ?_; refine pP_ 22 124 ?_; refine pP_ 23 125 ?_; refine pU_ 24 126 ?_; refine pU_ 25 127 ?_; refine pU_ 26 128 ?_; refine pU_ 27 129 ?_; refine pU_ 28 130 ?_; refine pU_ 29 131 ?_; refine pU_ 30 132 ?_; refine pU_ 31 133 ?_; refine pP_ 32 134 ?_; refine pP_ 33 135 ?_; refine pP_ 34 12 ?_; refine dN_ ?_; try go_wp2
              go_ret; exact ⟨eW_, hB_⟩
             rw [if_neg c89] at H; have c89b0 : decide ((wrap64 ((rd l1 a3) - (rd l1 a2))) ≤ t936) = false := eF_ c89; clear c89; obtain rfl := oI_ H; try go_wp2
             replace HO_16 := Z_ (rD_ HO_16.out); replace BK928 := Z_ (bD_ BK928.out); replace HB := Z_ (fD_ HB.out); have p944 : 0 ≤ (a3 : Int) := dT_ as_; have q944 : a3 < (l1.length : Int) := dT_ as_; obtain ⟨ad944, e944, hx944_0⟩ := Kd.at_int HR1.out a3 p944 q944; have hw944_0 := hx944_0; cases e944
             replace hx944_0 := (HB.out.cell (World.block_lt_of_cell? w _ hx944_0)).trans hx944_0; replace p944 := eq_true p944; replace q944 := eq_true q944; have p945 : 0 ≤ (a2 : Int) := dT_ as_; have q945 : a2 < (l1.length : Int) := dT_ as_; obtain ⟨ad945, e945, hx945_0⟩ := Kd.at_int HR1.out a2 p945 q945; have hw945_0 := hx945_0; obtain rfl : ad944 = ad945 := (by injection e945); replace hx945_0 := (HB.out.cell (World.block_lt_of_cell? w _ hx945_0)).trans hx945_0; replace p945 := eq_true p945; replace q945 := eq_true q945; refine start_ (n := 35) (S := fun w' => w'.cell? (ad944.add (a3).toNat) = some (.int .i64 (rd l1 a3)) ∧ w'.cell? (ad944.add (a2).toNat) = some (.int .i64 (rd l1 a2))) (ds := []) #[false, false, false, false, false, false, false, false, false, false, false, false, false, false, false, false, false, false, false, false, false, false, false, false, false, false, false, false, false, false, false, false, false, false, false] (by kernel_rfl) rfl rfl ⟨((HB.out.cell (World.block_lt_of_cell? w _ hw944_0)).trans hw944_0), ((HB.out.cell (World.block_lt_of_cell? w _ hw945_0)).trans hw945_0)⟩ (fun hHeld => ?_); refine with_tabW snowlinelaw04_DiffsPaths.tab11 snowlinelaw04_DiffsPaths.bits11 (fun HT_ HW_ => ?_); generalize wc.drew = w100 at HO_16 BK928 HB hx944_0 hx945_0 hHeld ⊢; refine pP_ 0 102 ?_; refine pP_ 1 103 ?_; refine pP_ 2 104 ?_; refine pP_ 3 105 ?_; refine pP_ 4 106 ?_; refine pP_ 5 107 ?_; refine pP_ 7 109 ?_; refine pP_ 8 110 ?_; refine pP_ 9 111 ?_; refine pP_ 12 114 ?_; refine pT_ 6 108 ?_; refine pT_ 10 112 ?_; refine pP_ 11 113 ?_; refine pP_ 13 115 ?_; refine pP_ 14 116 ?_; refine pU_ 15 117 ?_; refine pU_ 16 118 ?_; refine pU_ 17 119 ?_; refine pU_ 18 120 ?_; refine pU_ 19 121 ?_; refine pU_ 20 122 ?_; refine pU_ 21 123 ?_; refine pP_ 22 124 ?_; refine pP_ 23 125 ?_; refine pU_ 24 126 ?_; refine pU_ 25 127 ?_; refine pU_ 26 128 ?_; refine pU_ 27 129 ?_; refine pU_ 28 130 ?_; refine pU_ 29 131 ?_; refine pU_ 30 132 ?_; refine pU_ 31 133 ?_; refine pP_ 32 134 ?_; refine pP_ 33 135 ?_; refine pP_ 34 12 ?_; refine dN_ ?_; try go_wp2
             go_ret; exact ⟨eW_, hB_⟩
            rw [if_neg c88] at H; exact absurd H (by simp)
           rw [if_neg c87] at H; exact absurd H (by simp)
          rw [if_neg c86] at H; exact absurd H (by simp)
         rw [if_neg c85] at H; exact absurd H (by simp)
        replace c84 := bE_.mpr c84; subst c84; have H1 : (some true) = some r := by rw [if_neg (show ¬ (false = true) by decide)] at H; exact H
        clear H; have H := H1; clear H1; obtain rfl := oI_ H; try go_wp2
        replace HO_16 := Z_ (rD_ HO_16.out); replace BK928 := Z_ (bD_ BK928.out); replace HB := Z_ (fD_ HB.out); refine start_ (n := 35) (S := fun w' => True) (ds := []) #[false, false, false, false, false, false, false, false, false, false, false, false, false, false, false, false, false, false, false, false, false, false, false, false, false, false, false, false, false, false, false, false, false, false, false] (by kernel_rfl) rfl rfl trivial (fun hHeld => ?_); refine with_tabW snowlinelaw04_DiffsPaths.tab11 snowlinelaw04_DiffsPaths.bits11 (fun HT_ HW_ => ?_); generalize wc.drew = w101 at HO_16 BK928 HB hHeld ⊢; refine pP_ 0 102 ?_; refine pP_ 1 103 ?_; refine pP_ 2 104 ?_; refine pU_ 3 105 ?_; refine pU_ 4 106 ?_; refine pU_ 5 107 ?_; refine pU_ 6 108 ?_; refine pU_ 7 109 ?_; refine pU_ 8 110 ?_; refine pU_ 9 111 ?_; refine pU_ 10 112 ?_; refine pU_ 11 113 ?_; refine pU_ 12 114 ?_; refine pU_ 13 115 ?_; refine pU_ 14 116 ?_; refine pU_ 15 117 ?_; refine pU_ 16 118 ?_; refine pU_ 17 119 ?_; refine pU_ 18 120 ?_; refine pU_ 19 121 ?_; refine pU_ 20 122 ?_; refine pU_ 21 123 ?_; refine pU_ 22 124 ?_; refine pU_ 23 125 ?_; refine pU_ 24 126 ?_; refine pU_ 25 127 ?_; refine pU_ 26 128 ?_; refine pU_ 27 129 ?_; refine pU_ 28 130 ?_; refine pU_ 29 131 ?_; refine pU_ 30 132 ?_; refine pU_ 31 133 ?_; refine pU_ 32 134 ?_; refine pP_ 33 135 ?_; refine pP_ 34 12 ?_; refine dN_ ?_; try go_wp2
        go_ret; exact ⟨eW_, hB_⟩
 replace c11 := bE_.mpr c11; subst c11; have H1 : (some false) = some r := by rw [if_neg (show ¬ (false = true) by decide)] at H; exact H
 clear H; have H := H1; clear H1; obtain rfl := oI_ H; go_wp2; go_ret; exact ⟨eW_, hB_⟩
end Go.Proofs.Ytpolojoeabmhdaa.A
/- DiffsPaths, over numbers and lists alone. -/
namespace Go.Proofs.Ytpolojoeabmhdaa.A
open Go.RowKit Go.Proofs.YtpolojoeabmhdaaW.PrintWords Go.Proofs.YtpolojoeabmhdaaW.PrintLast Go.Proofs.YtpolojoeabmhdaaW.PrintMore
theorem small_some (n : Int) (L : List S39) : snowlinelaw04_small.f n L = some (decide (n ≤ 16 ∧ L.length ≤ 60)) := by
  unfold snowlinelaw04_small.f
  by_cases h : n ≤ 16
  · rw [if_pos h]
    congr 1
    exact decide_eq_decide.2 (by omega)
  · rw [if_neg h]
    congr 1
    rw [decide_eq_false]
    omega
theorem paths_ev (n : Int) (L : List S39) (x : List Int) (u v m : Int) (l : List Int) (hl : l.length ≤ 17592186044416) : Ev (fun k => snowlinelaw04_DiffsPaths.f k n L x u v m l) true := by
  unfold snowlinelaw04_DiffsPaths.f snowlinelaw04_sane.f
  simp only [Option.bind_some, if_true]
  have hquit : Ev (fun k => snowlinelaw04_DiffsPaths.j0 k x u v m l true n L) true :=
    Ev.step (f := fun _ => some true) (fun q => by rw [snowlinelaw04_DiffsPaths.j0]; rfl) (Ev.now _)
  rw [small_some]
  simp only [Option.bind_some]
  by_cases hsm : n ≤ 16 ∧ L.length ≤ 60
  case neg =>
    rw [decide_eq_false hsm]
    exact Ev.neg (by decide) hquit
  rw [decide_eq_true hsm]
  refine Ev.pos rfl ?_
  obtain ⟨p, p1, p2⟩ := fulfils_ev n L x (by omega) (by omega)
  refine p1.bind ?_
  cases p with
  | false => exact Ev.neg (by decide) hquit
  | true =>
  have hx := p2.1 rfl
  refine Ev.pos rfl ((check_ev n L).bind ?_)
  by_cases hv : validB n L = true
  case neg =>
    rw [if_neg hv]
    exact Ev.neg (by decide) hquit
  rw [if_pos hv]
  refine Ev.pos rfl ?_
  have hV := validB_iff.1 hv
  obtain ⟨N, rfl⟩ : ∃ N : Nat, n = N := ⟨n.toNat, by have := hV.n1; omega⟩
  by_cases c1 : u < 0
  · exact Ev.pos c1 hquit
  by_cases c2 : u ≥ (N : Int)
  · exact Ev.neg c1 (Ev.pos c2 hquit)
  by_cases c3 : v < 0
  · exact Ev.neg c1 (Ev.neg c2 (Ev.pos c3 hquit))
  refine Ev.neg c1 (Ev.neg c2 (Ev.neg c3 ?_))
  by_cases c4 : v ≥ (N : Int)
  · simp only [decide_eq_true c4]; exact hquit
  simp only [decide_eq_false c4]
  have hlx := hx.l
  have bu := hx.b u (by omega) (by omega)
  have bv := hx.b v (by omega) (by omega)
  have hpot : Pot L (rd x) := hx.asg.p
  have hs : Solv L := hx.solv
  have hwr : wrap64 (rd x v - rd x u) = rd x v - rd x u := wrap_id (by omega) (by omega)
  obtain ⟨e, e1, e2⟩ := cpath_ev hV u v m l hl
  obtain ⟨a, b, f, p, a1, a2, q1, q2, q3⟩ := apath_ev hV u v
  obtain ⟨rfl, hsh⟩ := a2.ok ⟨by omega, by omega, by omega, by omega⟩ hs
  have hj1 : Ev (fun k => snowlinelaw04_DiffsPaths.j1 k x u v false N L) true := by
    refine Ev.step (f := fun q => _) (fun q => by rw [snowlinelaw04_DiffsPaths.j1, if_neg (by decide)]) ?_
    refine a1.bind (q1.bind (Ev.pos rfl (Ev.pos rfl ?_)))
    simp only [bne_self_eq_false]
    refine Ev.step (f := fun q => _) (fun q => by rw [snowlinelaw04_DiffsPaths.j2, if_neg (by decide)]) ?_
    cases b with
    | false => exact Ev.neg (by decide) (Ev.now _)
    | true =>
      obtain ⟨hN, hi, hc, hw, _, _⟩ := q3 rfl
      have hle := hpot.walk hw
      have hb := wk_bound hV.e hw
      obtain ⟨g, g1, g2⟩ := cpath_ev hV u v a p (by omega)
      obtain ⟨g', g3, g4⟩ := cpath_ev hV u v (a - 1) p (by omega)
      obtain rfl := g2.yes ⟨hN, hi⟩ ⟨hi, hc, a, Int.le_refl _, hw⟩
      obtain rfl := g4.no ⟨hN, hi⟩ (fun h => by
        obtain ⟨W, w1, w2⟩ := h.w
        have := w2.unique hw
        omega)
      refine Ev.pos rfl (Ev.pos (by omega) (Ev.pos (by omega) (Ev.pos (by omega) (Ev.pos (by omega) ?_))))
      rw [hwr, wrap_id (x := a - 1) (by omega) (by omega)]
      exact Ev.pos (by omega) (g1.bind (Ev.pos rfl (g3.bind (Ev.now _))))
  refine Ev.step (f := fun q => _) (fun q => by rw [snowlinelaw04_DiffsPaths.j0, if_neg (by decide)]) ?_
  refine e1.bind ?_
  by_cases he : e = 0
  case neg => exact Ev.neg he hj1
  have hP := (e2.zero (fun h => ⟨⟨⟨by omega, by omega⟩, by omega, by omega⟩, h.i⟩)).1 he
  obtain ⟨W, w1, w2⟩ := hP.w
  have hle := hpot.walk w2
  refine Ev.pos he (Ev.pos (by omega) (Ev.pos (by omega) (Ev.pos (by omega) (Ev.pos (by omega) ?_))))
  rw [hwr, decide_eq_false (by omega)]
  exact hj1
end Go.Proofs.Ytpolojoeabmhdaa.A
/- DiffsPaths: for every input the law answers true, and what came in reads as it did. No conditions. -/
namespace Go.Proofs.Ytpolojoeabmhdaa.diffsPaths
open Go.ChangeShapes Go.WideShapes Go.ChangeAt Go.RowKit
open Go.Proofs.Ytpolojoeabmhdaa.A
open Go.Proofs.YtpolojoeabmhdaaW.PrintWords
set_option maxRecDepth 100000 in
theorem lifted (os : Os) (started : os.Started) (H : Type) (enc : TypeId × Value → H) :
    ReturnsInHanded {} Try.checked os 12 .any (Rows.diffsPathsSpec.pre6 enc Try.prog Try.f12 Rows.diffsPathsRow.domain false) (Rows.diffsPathsSpec.post enc Try.prog Try.f12 false true false false) := by
  refine returnsInHanded_of_change_sized (C := Try.checked) own started (by kernel_rfl) Try.func12
    (ChangeSpec.witness6 (enc := enc) (C := Try.checked) false ⟨#[], #[.agg #[.int .i64 0, .slice none 0 0], .slice none 0 0, .int .i64 0, .int .i64 0, .int .i64 0, .slice none 0 0], []⟩ 8 (by kernel_rfl) (by kernel_rfl) (by kernel_rfl) (by kernel_rfl)) ?_
  intro W base args ds gs before hval0 hW hcnd hsz0 _
  have hsz : (DataW.weightsEach Try.prog (Try.f12.params.toList ++ Rows.diffsPathsSpec.plain.varTypes Try.prog) (ds ++ gs)).all (· ≤ reachBytes) = true := hsz0
  have hval : ∀ (j : Nat) t v, Try.f12.params[j]? = some t → args[j]? = some v → Value.okWide Try.prog W .any base t v := hval0
  have hW' := hW
  obtain ⟨p, q, hA0, hV, rfl, hfz, hnd⟩ := hW
  have hA : DataW.TrodAll enc Try.prog W 0 (fun _ => true) true Try.f12.params.toList args.toList ds p := hA0
  rw [Try.params12] at hA hval hsz
  obtain ⟨v0, vs0, d0, ds0, p0, q0, hargs, rfl, rfl, h0, r0⟩ := trodAll_cons hA
  obtain ⟨v1, vs1, d1, ds1, p1, q1, rfl, rfl, rfl, h1, r1⟩ := trodAll_cons r0
  obtain ⟨v2, vs2, d2, ds2, p2, q2, rfl, rfl, rfl, h2, r2⟩ := trodAll_cons r1
  obtain ⟨v3, vs3, d3, ds3, p3, q3, rfl, rfl, rfl, h3, r3⟩ := trodAll_cons r2
  obtain ⟨v4, vs4, d4, ds4, p4, q4, rfl, rfl, rfl, h4, r4⟩ := trodAll_cons r3
  obtain ⟨v5, vs5, d5, ds5, p5, q5, rfl, rfl, rfl, h5, r5⟩ := trodAll_cons r4
  obtain ⟨rfl, rfl, rfl⟩ := trodAll_nil r5
  obtain rfl : args = #[v0, v1, v2, v3, v4, v5] := by cases args; simp_all
  obtain ⟨rfl, rfl⟩ := trodVars_none hV
  have k0 := h0
  have lt0 : ∀ x ∈ p0, x.block < W.heap.size := by obtain ⟨m, hm⟩ := k0; exact DataW.trod_lt m _ _ _ hm
  obtain ⟨n0, A0, l0, c0, rfl, hC0, hc0, wz0, sz0⟩ := open_net (hval 0 24 v0 rfl rfl) h0
  have k1 := h1
  have lt1 : ∀ x ∈ p1, x.block < W.heap.size := by obtain ⟨m, hm⟩ := k1; exact DataW.trod_lt m _ _ _ hm
  obtain ⟨A1, l1, c1, rfl, hC1, hc1, wz1⟩ := open_list (hval 1 29 v1 rfl rfl) h1
  obtain ⟨a2, rfl, rfl, rfl, wz2⟩ := open_int Try.underlying3 (hval 2 3 v2 rfl rfl) h2
  obtain ⟨a3, rfl, rfl, rfl, wz3⟩ := open_int Try.underlying3 (hval 3 3 v3 rfl rfl) h3
  obtain ⟨a4, rfl, rfl, rfl, wz4⟩ := open_int Try.underlying3 (hval 4 3 v4 rfl rfl) h4
  have k5 := h5
  have lt5 : ∀ x ∈ p5, x.block < W.heap.size := by obtain ⟨m, hm⟩ := k5; exact DataW.trod_lt m _ _ _ hm
  obtain ⟨A5, l5, c5, rfl, hC5, hc5, wz5⟩ := open_list (hval 5 29 v5 rfl rfl) h5
  obtain ⟨rk, hk⟩ := Ev.rounds (paths_ev n0 l0 l1 a2 a3 a4 l5 (by have z := wz5.2 _ _ 5 hsz rfl rfl; omega))
  clear hA0 hval0 hsz0 hsz
  refine (snowlinelaw04_DiffsPaths.calls rk n0 A0 c0 l0 A1 c1 l1 a2 a3 a4 A5 c5 l5 true W hC0 hc0 hC1 hc1 hC5 hc5 hk).mono fun e W' ⟨he, bel⟩ => ?_
  subst he
  exact ⟨_, rfl, _, _, _, [], _, [], hW', trodAll_mk1 (shut_bool Try.underlying4 _), (trodAll_cons_mk (Below.trod laidOut (by kernel_rfl) (of_decide_eq_true (by kernel_rfl)) k0 bel lt0) (trodAll_cons_mk (Below.trod laidOut (by kernel_rfl) (of_decide_eq_true (by kernel_rfl)) k1 bel lt1) (trodAll_cons_mk (shut_int Try.underlying3 wz2) (trodAll_cons_mk (shut_int Try.underlying3 wz3) (trodAll_cons_mk (shut_int Try.underlying3 wz4) (trodAll_cons_mk (Below.trod laidOut (by kernel_rfl) (of_decide_eq_true (by kernel_rfl)) k5 bel lt5) trodAll_mk0)))))), rfl, bel.frame _, fun h => by cases h⟩
theorem joined : joinedFacts Try.prog 12 Try.f12 Rows.diffsPathsSpec Rows.diffsPathsRow = true := (andB (andB (andB (andB (andB (andB (andB (andB (andB (andB (andB (andB (andB (andB (andB (andB (andB (andB (andB (andB (andB (andB (andB (andB (andB (andB (andB (andB (andB (andB (andB (by kernel_rfl) laidOut) pMapsRowed) (by kernel_rfl)) (by kernel_rfl)) (by kernel_rfl)) pStops) (by kernel_rfl)) pKnobs) (by kernel_rfl)) (by kernel_rfl)) (by kernel_rfl)) (by kernel_rfl)) (by kernel_rfl)) (by kernel_rfl)) (by kernel_rfl)) (by kernel_rfl)) (by kernel_rfl)) (by kernel_rfl)) (by kernel_rfl)) (by kernel_rfl)) (by kernel_rfl)) pPlain) (by kernel_rfl)) pHeard) pEnter) pLifted) pMake) (by kernel_rfl)) (by kernel_rfl)) (by kernel_rfl)) (by kernel_rfl))
theorem over : Rows.diffsPathsRow.holds Try.pinned (OpenSpec.ofChange Rows.diffsPathsSpec) :=
  OpenClaim.holds_of_wide 12 Try.f12 rfl rfl rfl rfl rfl rfl rfl ⟨rfl, rfl, rfl, rfl, rfl⟩ rfl rfl rfl rfl rfl (by kernel_rfl) Try.func12 joined
    (of_decide_eq_true (by kernel_rfl)) (by unfold Func.isWrapper; first | (rw [if_pos (by decide +kernel)]; kernel_rfl) | (rw [if_neg (by decide +kernel)]; exact ⟨rfl, rfl⟩))
    (fun os started H enc _ => lifted os started H enc)
theorem proved : Rows.DiffsPathsSaid := over
#print axioms proved
end Go.Proofs.Ytpolojoeabmhdaa.diffsPaths
namespace Go.Proofs.Ytpolojoeabmhdaa
/-- The row, under a short name, for the claim. -/
theorem diffsPaths_holds : Rows.DiffsPathsSaid := diffsPaths.proved
end Go.Proofs.Ytpolojoeabmhdaa
