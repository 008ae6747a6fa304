/- fill: all nodes get what they want, step by step. -/
import Derived.Test.YtpolojoeabmhdaaHStep
namespace Go.Proofs.Ytpolojoeabmhdaa.A
open Go.RowKit Go.Proofs.YtpolojoeabmhdaaW.PrintWords Go.Proofs.YtpolojoeabmhdaaW.PrintLast Go.Proofs.YtpolojoeabmhdaaW.PrintMore
set_option linter.unusedVariables false
set_option linter.unusedSimpArgs false
def fillA (k : Nat) (n0 : Int) (diffs : List S39) : Nat → Int → List Int → List Int → Option (Bool × List Int × List Int)
 | 0, _, _, _ => none
 | q + 1, i, fl, wn => if i < n0 then (if 0 ≤ i ∧ i < wn.length then (if rd wn i > 0 then ((stepL k n0 diffs fl wn i (0 :: giversL wn 0)).bind fun r => if r.1 = false then some (false, r.2.1, r.2.2) else fillA k n0 diffs q i r.2.1 r.2.2) else fillA k n0 diffs q (i + 1) fl wn) else none) else some (true, fl, wn)
def fillB (k : Nat) (n0 : Int) (diffs : List S39) : Nat → Int → List Int → List Int → Option (Bool × List Int × List Int)
 | 0, _, _, _ => none
 | q + 1, i, fl, wn => if i < n0 then (if 0 ≤ i ∧ i < wn.length then (if rd wn i < 0 then ((stepL k n0 diffs fl wn 0 [i]).bind fun r => if r.1 = false then some (false, r.2.1, r.2.2) else fillB k n0 diffs q i r.2.1 r.2.2) else fillB k n0 diffs q (i + 1) fl wn) else none) else some (true, fl, wn)
def fillL (k : Nat) (n0 : Int) (diffs : List S39) (fl wn : List Int) : Option (Bool × List Int × List Int) :=
 (fillA k n0 diffs k 1 fl wn).bind fun r => if r.1 = false then some r else fillB k n0 diffs k 1 r.2.1 r.2.2
/-- What fill holds in the memory. -/
structure Us (g : Nat) (n0 : Int) (AD : Option Addr) (nD cD : Nat) (AF : Option Addr) (nF cF : Nat) (AW : Option Addr) (nW cW : Nat) (w0 : World) (fl wn : List Int) (W : World) : Prop where
 bu : W.heap[g]? = some (.cells #[.int .i64 n0, .slice AD nD cD, .slice AF nF cF, .slice AW nW cW] 96 (0, 0))
 rf : Kd.R (Kd.int .i64) 3 W w0.heap.size (fun _ => True) (.slice AF nF cF) fl
 rw : Kd.R (Kd.int .i64) 3 W w0.heap.size (fun _ => True) (.slice AW nW cW) wn
 hb : Below w0.heap.size w0 W
section
variable {g : Nat} {n0 : Int} {AD : Option Addr} {nD cD : Nat} {AF : Option Addr} {nF cF : Nat} {AW : Option Addr} {nW cW : Nat} {w0 : World} {fl wn : List Int} {W W1 : World}
theorem Us.below (h : Us g n0 AD nD cD AF nF cF AW nW cW w0 fl wn W) (hb : Below W.heap.size W W1) : Us g n0 AD nD cD AF nF cF AW nW cW w0 fl wn W1 :=
 ⟨blk_below h.bu hb, Kd.R_below h.rf hb, Kd.R_below h.rw hb, below_then h.hb h.hb.size hb⟩
theorem Us.grown (h : Us g n0 AD nD cD AF nF cF AW nW cW w0 fl wn W) (hg : W.grownBy W1 none) : Us g n0 AD nD cD AF nF cF AW nW cW w0 fl wn W1 :=
 ⟨blk_grown h.bu hg (by simp), Kd.R_grown h.rf hg (fun _ _ => by simp), Kd.R_grown h.rw hg (fun _ _ => by simp), h.hb.grown hg h.hb.size (fun k hk => by cases hk)⟩
theorem Us.givers (h : Us g n0 AD nD cD AF nF cF AW nW cW w0 fl wn W) (hn : nW ≤ 65536) : Calls Try.prog 127 #[.pointer (some ⟨g, 0, none⟩)] W fun e w' => ∃ v0_ : Value, e = .returned v0_ ∧ Kd.R (Kd.int .i64) 3 w' W.heap.size (fun _ => True) v0_ (0 :: giversL wn 0) ∧ Below W.heap.size W w' := by
 obtain ⟨rfl, h2, h3⟩ := Kd.R_reads' h.rw
 exact use_givers.calls g (.int .i64 n0) _ _ AW cW wn W h.bu h3 hn
end
theorem Us.step {g : Nat} {n0 : Int} {AD : Option Addr} {diffs : List S39} {cD : Nat} {AF : Option Addr} {nF cF : Nat} {AW : Option Addr} {nW cW : Nat} {w0 : World} {fl wn : List Int} {W : World} (h : Us g n0 AD diffs.length cD AF nF cF AW nW cW w0 fl wn W) {k : Nat} {tg : Int} {AG : Option Addr} {cG : Nat} {givers : List Int} {r1 : Bool} {r2 r3 : List Int}
  (hg : w0.heap.size ≤ g) (hD : Kd.C k39 w0 AD diffs.length diffs) (hcD : diffs.length ≤ cD) (hne : Dj (.slice AF nF cF) (.slice AW nW cW)) (hG : Kd.R (Kd.int .i64) 3 W w0.heap.size (fun _ => True) (.slice AG givers.length cG) givers) (hfd : nF = diffs.length) (hl : diffs.length ≤ 65536) (hm : ∀ d ∈ diffs, -4611686018427387904 ≤ d.f2 ∧ d.f2 ≤ 4611686018427387904)
  (hs : stepL k n0 diffs fl wn tg givers = some (r1, r2, r3)) : Calls Try.prog 126 #[.pointer (some ⟨g, 0, none⟩), .int .i64 tg, .slice AG givers.length cG] W fun e w' => e = .returned (.bool r1) ∧ Us g n0 AD diffs.length cD AF nF cF AW nW cW w0 r2 r3 w' := by
 have hr := Kd.R_reads' hG
 refine (use_step.calls k g n0 AD cD diffs _ _ fl wn tg AG cG givers r1 r2 r3 w0 W h.hb hg h.bu hD hcD h.rf h.rw hne hr.2.2 hr.2.1 ((Kd.R_reads' h.rf).1.symm.trans hfd) hl hm hs).mono ?_
 rintro e w' ⟨rfl, a, b, c, d⟩
 exact ⟨rfl, a, b, c, d⟩
set_option maxHeartbeats 4000000 in
set_option maxRecDepth 100000 in
theorem use_fill.calls (k : Nat) (g : Nat) (n0 : Int) (AD : Option Addr) (cD : Nat) (diffs : List S39) (AF : Option Addr) (nF cF : Nat) (AW : Option Addr) (nW cW : Nat) (flow want : List Int) (r1 : Bool) (r2 r3 : List Int) (w0 w : World)
  (hU : Us g n0 AD diffs.length cD AF nF cF AW nW cW w0 flow want w) (hg : w0.heap.size ≤ g)
  (hD : Kd.C k39 w0 AD diffs.length diffs) (hcD : diffs.length ≤ cD) (hne : Dj (.slice AF nF cF) (.slice AW nW cW))
  (hfd : nF = diffs.length) (hl : diffs.length ≤ 65536) (hwl : nW ≤ 65536) (hn0 : n0 ≤ 4611686018427387904) (hm : ∀ d ∈ diffs, -4611686018427387904 ≤ d.f2 ∧ d.f2 ≤ 4611686018427387904)
  (h : fillL k n0 diffs flow want = some (r1, r2, r3)) :
  Calls Try.prog 110 #[.pointer (some ⟨g, 0, none⟩)] w fun e w' => e = .returned (.bool r1) ∧ Us g n0 AD diffs.length cD AF nF cF AW nW cW w0 r2 r3 w' := by
 unfold fillL at h
 obtain ⟨⟨b, fm, wm⟩, hA, h⟩ := Option.bind_eq_some_iff.mp h
 have HA := Aside0.mk hA
 have HH := Aside0.mk h
 have HS := Aside0.mk hU
 have HGE := Aside0.mk hg
 have HD := Aside0.mk hD
 have HCD := Aside0.mk hcD
 have HNE := Aside0.mk hne
 have HFD := Aside0.mk hfd
 have HL := Aside0.mk hl
 have HM := Aside0.mk hm
 have HWL := Aside0.mk hwl
 clear hA h hU hg hD hcD hne hfd hl hm hwl
 go_enter Try.func110, Try.ntmps110
 go_wp2
 go_loopg [3] k (fun kq v3 w' => ∃ (i : Int) (fl wn : List Int), v3 = .int .i64 i ∧ Aside0 (1 ≤ i ∧ kq ≤ k ∧ fillA k n0 diffs kq i fl wn = some (b, fm, wm)) ∧ Aside0 (Us g n0 AD diffs.length cD AF nF cF AW nW cW w0 fl wn w'))
 case atStart => exact ⟨1, flow, want, rfl, ⟨by omega, by omega, HA.out⟩, HS⟩
 case round =>
  clear HS HA
  obtain ⟨i, fl, wn, rfl, HA, HS⟩ := hrel
  cases gk with
  | zero => exact absurd HA.out.2.2 (by simp [fillA])
  | succ q =>
   have hA := HA.out.2.2
   have hi1 := HA.out.1
   have hqk := HA.out.2.1
   have hz0 : wr.cell? ⟨g, 0, none⟩ = some (.int .i64 n0) := (blk_cell HS.out.bu 0).trans rfl
   unfold fillA at hA
   by_cases c1 : i < n0
   ·have hA0 := Aside0.mk HA.out.2.2
    clear hA HA
    have c1b : decide (i < n0) = true := decide_eq_true c1
    go_wp2
    go_loopg [] (q + 1) (fun kq w' => ∃ (fl wn : List Int), Aside0 (kq ≤ q + 1 ∧ fillA k n0 diffs kq i fl wn = some (b, fm, wm)) ∧ Aside0 (Us g n0 AD diffs.length cD AF nF cF AW nW cW w0 fl wn w'))
    case atStart => exact ⟨fl, wn, ⟨Nat.le_refl _, hA0.out⟩, HS⟩
    case round =>
     clear HS hA0 hz0
     obtain ⟨fl, wn, HA, HS⟩ := hrel
     cases gk with
     | zero => exact absurd HA.out.2 (by simp [fillA])
     | succ q2 =>
      have hA := HA.out.2
      have hq2 := HA.out.1
      clear HA
      unfold fillA at hA
      rw [if_pos c1] at hA
      by_cases c2 : 0 ≤ i ∧ i < (wn.length : Int)
      case neg => rw [if_neg c2] at hA; exact absurd hA (by simp)
      rw [if_pos c2] at hA
      have hnw := (Kd.R_reads' HS.out.rw).1
      obtain ⟨adw, ew, hxw⟩ := Kd.at_int (Kd.R_reads' HS.out.rw).2.2 i c2.1 c2.2
      cases ew
      have p0 := c2.1
      have p1 : i < (nW : Int) := by rw [hnw]; exact c2.2
      have hz3 : wr.cell? ⟨g, 3, none⟩ = some (.slice (some adw) nW cW) := (blk_cell HS.out.bu 3).trans rfl
      clear hnw c2
      by_cases c3 : rd wn i > 0
      ·rw [if_pos c3] at hA
       have c3b : decide (rd wn i > 0) = true := decide_eq_true c3
       obtain ⟨⟨b1, f1, n1⟩, hS, hA⟩ := Option.bind_eq_some_iff.mp hA
       have HST := Aside0.mk hS
       have HA := Aside0.mk hA
       clear hS hA
       cases b1 with
       | false =>
        have hA := HA.out
        clear HA
        simp only [if_pos, Option.some.injEq, Prod.mk.injEq] at hA
        obtain ⟨rfl, rfl, rfl⟩ := hA
        have hh := HH.out
        clear HH
        simp only [if_pos, Option.some.injEq, Prod.mk.injEq] at hh
        obtain ⟨rfl, rfl, rfl⟩ := hh
        go_wp2_with (first
         | ((with_reducible refine gate_callee (f := 127) rfl ?_); refine goesL_ (some 25) rfl rfl Try.func127 (by kernel_rfl) rfl #[.pointer (some ⟨g, 0, none⟩)] rfl (by (try simp only [List.map_toArray, List.map_cons, List.map_nil]); first | done | rfl) ?_; refine (HS.out.givers HWL.out).mono ?_; rintro e w1 ⟨vG, rfl, ho, hb⟩; refine ⟨_, rfl, ?_⟩; have n0_ := Aside0.mk (HS.out.below hb); have HG := Aside0.mk (Kd.R_lower ho HS.out.hb.size); clear HS ho hb; have HS := n0_; clear n0_; (obtain ⟨AG, cG, rfl⟩ := own_slice (Kd.own_of_R HG.out)))
         | ((with_reducible refine gate_callee (f := 126) rfl ?_); refine goesL_ (some 26) rfl rfl Try.func126 (by kernel_rfl) rfl #[.pointer (some ⟨g, 0, none⟩), .int .i64 i, .slice AG (0 :: giversL wn 0).length cG] rfl (by (try simp only [List.map_toArray, List.map_cons, List.map_nil]); first | done | rfl) ?_; refine (HS.out.step HGE.out HD.out HCD.out HNE.out HG.out HFD.out HL.out HM.out HST.out).mono ?_; rintro e w2 ⟨rfl, hu⟩; refine ⟨_, rfl, ?_⟩; have n0_ := Aside0.mk hu; clear HS HG hu; have HS := n0_; clear n0_))
        go_ret
        exact ⟨rfl, HS.out⟩
       | true =>
        go_wp2_with (first
         | ((with_reducible refine gate_callee (f := 127) rfl ?_); refine goesL_ (some 25) rfl rfl Try.func127 (by kernel_rfl) rfl #[.pointer (some ⟨g, 0, none⟩)] rfl (by (try simp only [List.map_toArray, List.map_cons, List.map_nil]); first | done | rfl) ?_; refine (HS.out.givers HWL.out).mono ?_; rintro e w1 ⟨vG, rfl, ho, hb⟩; refine ⟨_, rfl, ?_⟩; have n0_ := Aside0.mk (HS.out.below hb); have HG := Aside0.mk (Kd.R_lower ho HS.out.hb.size); clear HS ho hb; have HS := n0_; clear n0_; (obtain ⟨AG, cG, rfl⟩ := own_slice (Kd.own_of_R HG.out)))
         | ((with_reducible refine gate_callee (f := 126) rfl ?_); refine goesL_ (some 26) rfl rfl Try.func126 (by kernel_rfl) rfl #[.pointer (some ⟨g, 0, none⟩), .int .i64 i, .slice AG (0 :: giversL wn 0).length cG] rfl (by (try simp only [List.map_toArray, List.map_cons, List.map_nil]); first | done | rfl) ?_; refine (HS.out.step HGE.out HD.out HCD.out HNE.out HG.out HFD.out HL.out HM.out HST.out).mono ?_; rintro e w2 ⟨rfl, hu⟩; refine ⟨_, rfl, ?_⟩; have n0_ := Aside0.mk hu; clear HS HG hu; have HS := n0_; clear n0_))
        go_roundg q2
        case measure => omega
        case rel => exact ⟨f1, n1, ⟨by omega, HA.out⟩, HS⟩
      ·rw [if_neg c3] at hA
       have c3b : decide (rd wn i > 0) = false := decide_eq_false c3
       have HA := Aside0.mk hA
       have hw64 : i + 1 ≤ 9223372036854775807 := by omega
       clear hA
       go_wp2
       go_roundg q2
       case measure => omega
       case rel => exact ⟨i + 1, fl, wn, rfl, ⟨by omega, by omega, HA.out⟩, HS⟩
   ·rw [if_neg c1] at hA
    have c1b : decide (i < n0) = false := decide_eq_false c1
    simp only [Option.some.injEq, Prod.mk.injEq] at hA
    obtain ⟨rfl, rfl, rfl⟩ := hA
    have hh := HH.out
    rw [if_neg (by simp)] at hh
    have HB := Aside0.mk hh
    clear hh HH HA hqk hi1
    go_wp2
    go_loopg [4] k (fun kq v4 w' => ∃ (i : Int) (fl wn : List Int), v4 = .int .i64 i ∧ Aside0 (1 ≤ i ∧ kq ≤ k ∧ fillB k n0 diffs kq i fl wn = some (r1, r2, r3)) ∧ Aside0 (Us g n0 AD diffs.length cD AF nF cF AW nW cW w0 fl wn w'))
    case atStart => exact ⟨1, fl, wn, rfl, ⟨by omega, by omega, HB.out⟩, HS⟩
    case round =>
     clear HS HB
     obtain ⟨i, fl, wn, rfl, HA, HS⟩ := hrel
     cases gk with
     | zero => exact absurd HA.out.2.2 (by simp [fillB])
     | succ q =>
      have hA := HA.out.2.2
      have hi1 := HA.out.1
      have hqk := HA.out.2.1
      have hz0 : wr.cell? ⟨g, 0, none⟩ = some (.int .i64 n0) := (blk_cell HS.out.bu 0).trans rfl
      unfold fillB at hA
      by_cases c1 : i < n0
      ·have hA0 := Aside0.mk HA.out.2.2
       clear hA HA
       have c1b : decide (i < n0) = true := decide_eq_true c1
       go_wp2
       go_loopg [] (q + 1) (fun kq w' => ∃ (fl wn : List Int), Aside0 (kq ≤ q + 1 ∧ fillB k n0 diffs kq i fl wn = some (r1, r2, r3)) ∧ Aside0 (Us g n0 AD diffs.length cD AF nF cF AW nW cW w0 fl wn w'))
       case atStart => exact ⟨fl, wn, ⟨Nat.le_refl _, hA0.out⟩, HS⟩
       case round =>
        clear HS hA0 hz0
        obtain ⟨fl, wn, HA, HS⟩ := hrel
        cases gk with
        | zero => exact absurd HA.out.2 (by simp [fillB])
        | succ q2 =>
         have hA := HA.out.2
         have hq2 := HA.out.1
         clear HA
         unfold fillB at hA
         rw [if_pos c1] at hA
         by_cases c2 : 0 ≤ i ∧ i < (wn.length : Int)
         case neg => rw [if_neg c2] at hA; exact absurd hA (by simp)
         rw [if_pos c2] at hA
         have hnw := (Kd.R_reads' HS.out.rw).1
         obtain ⟨adw, ew, hxw⟩ := Kd.at_int (Kd.R_reads' HS.out.rw).2.2 i c2.1 c2.2
         cases ew
         have p0 := c2.1
         have p1 : i < (nW : Int) := by rw [hnw]; exact c2.2
         have hz3 : wr.cell? ⟨g, 3, none⟩ = some (.slice (some adw) nW cW) := (blk_cell HS.out.bu 3).trans rfl
         clear hnw c2
         by_cases c3 : rd wn i < 0
         ·rw [if_pos c3] at hA
          have c3b : decide (rd wn i < 0) = true := decide_eq_true c3
          obtain ⟨⟨b1, f1, n1⟩, hS, hA⟩ := Option.bind_eq_some_iff.mp hA
          have HST := Aside0.mk hS
          have HA := Aside0.mk hA
          clear hS hA
          cases b1 with
          | false =>
           have hA := HA.out
           clear HA
           simp only [if_pos, Option.some.injEq, Prod.mk.injEq] at hA
           obtain ⟨rfl, rfl, rfl⟩ := hA
           go_wp2_with (first
            | ((with_reducible refine gate_dst (N := 47) rfl ?_); refine Kd.R_lit (w0 := w0) (Kd.int .i64) w0.heap.size 3 ?hg (N := 47) ?hd (xs := ([i] : List Int)) (inner := [.int .i64 i]) (ok := fun _ => True) (okp := fun _ => True) ?hr ?hp (fun _ hk => hk) trivial HS.out.hb HS.out.hb.size (by simp) ?_; (case hd => rfl); (case hg => rfl); (case hr => first | (go_simp; done) | (go_simp; rfl)); (case hp => exact (Reps.one (show Kd.M (Kd.int .i64) _ _ _ i [.int .i64 i] from rfl) (Reps.none _ _))); intro vG w1 ho hb hg_ hnew_; have n0_ := Aside0.mk (HS.out.grown hg_); have HG := Aside0.mk ho; clear HS ho hb hg_ hnew_; have HS := n0_; clear n0_; (obtain ⟨AG, cG, rfl⟩ := own_slice (Kd.own_of_R HG.out)))
            | ((with_reducible refine gate_callee (f := 126) rfl ?_); refine goesL_ (some 48) rfl rfl Try.func126 (by kernel_rfl) rfl #[.pointer (some ⟨g, 0, none⟩), .int .i64 0, .slice AG ([i]).length cG] rfl (by (try simp only [List.map_toArray, List.map_cons, List.map_nil]); first | done | rfl) ?_; refine (HS.out.step HGE.out HD.out HCD.out HNE.out HG.out HFD.out HL.out HM.out HST.out).mono ?_; rintro e w2 ⟨rfl, hu⟩; refine ⟨_, rfl, ?_⟩; have n0_ := Aside0.mk hu; clear HS HG hu; have HS := n0_; clear n0_))
           go_ret
           exact ⟨rfl, HS.out⟩
          | true =>
           go_wp2_with (first
            | ((with_reducible refine gate_dst (N := 47) rfl ?_); refine Kd.R_lit (w0 := w0) (Kd.int .i64) w0.heap.size 3 ?hg (N := 47) ?hd (xs := ([i] : List Int)) (inner := [.int .i64 i]) (ok := fun _ => True) (okp := fun _ => True) ?hr ?hp (fun _ hk => hk) trivial HS.out.hb HS.out.hb.size (by simp) ?_; (case hd => rfl); (case hg => rfl); (case hr => first | (go_simp; done) | (go_simp; rfl)); (case hp => exact (Reps.one (show Kd.M (Kd.int .i64) _ _ _ i [.int .i64 i] from rfl) (Reps.none _ _))); intro vG w1 ho hb hg_ hnew_; have n0_ := Aside0.mk (HS.out.grown hg_); have HG := Aside0.mk ho; clear HS ho hb hg_ hnew_; have HS := n0_; clear n0_; (obtain ⟨AG, cG, rfl⟩ := own_slice (Kd.own_of_R HG.out)))
            | ((with_reducible refine gate_callee (f := 126) rfl ?_); refine goesL_ (some 48) rfl rfl Try.func126 (by kernel_rfl) rfl #[.pointer (some ⟨g, 0, none⟩), .int .i64 0, .slice AG ([i]).length cG] rfl (by (try simp only [List.map_toArray, List.map_cons, List.map_nil]); first | done | rfl) ?_; refine (HS.out.step HGE.out HD.out HCD.out HNE.out HG.out HFD.out HL.out HM.out HST.out).mono ?_; rintro e w2 ⟨rfl, hu⟩; refine ⟨_, rfl, ?_⟩; have n0_ := Aside0.mk hu; clear HS HG hu; have HS := n0_; clear n0_))
           go_roundg q2
           case measure => omega
           case rel => exact ⟨f1, n1, ⟨by omega, HA.out⟩, HS⟩
         ·rw [if_neg c3] at hA
          have c3b : decide (rd wn i < 0) = false := decide_eq_false c3
          have HA := Aside0.mk hA
          have hw64 : i + 1 ≤ 9223372036854775807 := by omega
          clear hA
          go_wp2
          go_roundg q2
          case measure => omega
          case rel => exact ⟨i + 1, fl, wn, rfl, ⟨by omega, by omega, HA.out⟩, HS⟩
      ·rw [if_neg c1] at hA
       have c1b : decide (i < n0) = false := decide_eq_false c1
       simp only [Option.some.injEq, Prod.mk.injEq] at hA
       obtain ⟨rfl, rfl, rfl⟩ := hA
       go_wp2
       go_ret
       exact ⟨rfl, HS.out⟩
end Go.Proofs.Ytpolojoeabmhdaa.A
