/- grow: the walk of Go's text, over any graph whose two methods answer. Turned from what wrap.py printed (mkgrow.py). -/
import Derived.Test.YtpolojoeabmhdaaA0
import Derived.Test.YtpolojoeabmhdaaAf113
import Derived.Test.YtpolojoeabmhdaaHGoes
import Derived.Test.YtpolojoeabmhdaaHRepeat
namespace Go.Proofs.Ytpolojoeabmhdaa.A
open Go.RowKit Go.Proofs.YtpolojoeabmhdaaW.PrintWords Go.Proofs.YtpolojoeabmhdaaW.PrintLast Go.Proofs.YtpolojoeabmhdaaW.PrintMore
attribute [local go_sem] max2_int min2_int max_two min_two max_three min_three max_four min_four
set_option linter.unusedVariables false
set_option linter.unusedSimpArgs false

/-! ### diffs_grow: function 82 -/
def diffs_plain_nodes.f (a0_0 : Int) (l0_1 : List (S39)) : Option (Int) := some a0_0
mutual
def diffs_grow.l0 : Nat → List (S39) → List Int → Int → Int → List Int → List Bool → List Int → Option (List Int × List Bool × List Int × Int)
 | 0, _, _, _, _, _, _, _ => none
 | k + 1, x6, x27, x28, x29, x133000, x133001, x133002 => if x29 < x28 then (if 0 ≤ x29 then (if x29 < (x27.length : Int) then (if 0 ≤ (rd x27 x29) then (if (rd x27 x29) < (x133001.length : Int) then (diffs_grow.l0 k x6 x27 x28 (wrap64 (x29 + 1)) x133000 (x133001.set ((rd x27 x29) : Int).toNat true) x133002) else (none)) else (none)) else (none)) else (none)) else (diffs_grow.l1 k x6 x133000 x133001 x133002)
def diffs_grow.l1 : Nat → List (S39) → List Int → List Bool → List Int → Option (List Int × List Bool × List Int × Int)
 | 0, _, _, _, _ => none
 | k + 1, x6, x133000, x133001, x133002 => diffs_grow.l2 k x6 (-1) x6 (x6.length : Int) 0 x133000 x133001 x133002
def diffs_grow.l2 : Nat → List (S39) → Int → List (S39) → Int → Int → List Int → List Bool → List Int → Option (List Int × List Bool × List Int × Int)
 | 0, _, _, _, _, _, _, _, _ => none
 | k + 1, x6, x10, x38, x39, x40, x133000, x133001, x133002 => if x40 < x39 then (if 0 ≤ x40 then (if x40 < (x38.length : Int) then (if 0 ≤ ((rd_T39 x38 x40).f0) then (if ((rd_T39 x38 x40).f0) < (x133001.length : Int) then (if rdOf false x133001 ((rd_T39 x38 x40).f0) = true then (if 0 ≤ ((rd_T39 x38 x40).f1) then (if ((rd_T39 x38 x40).f1) < (x133001.length : Int) then (if (rdOf false x133001 ((rd_T39 x38 x40).f1) = true) then (if ((rd_T39 x38 x40).f0) < (x133000.length : Int) then (if ((rd_T39 x38 x40).f1) < (x133000.length : Int) then (diffs_grow.j3 k x6 x10 x40 x38 x39 x40 (decide ((wrap64 ((rd x133000 ((rd_T39 x38 x40).f0)) + ((rd_T39 x38 x40).f2))) < (rd x133000 ((rd_T39 x38 x40).f1)))) x133000 x133001 x133002 ((rd_T39 x38 x40).f0) ((rd_T39 x38 x40).f1) ((rd_T39 x38 x40).f2)) else (none)) else (none)) else (diffs_grow.j3 k x6 x10 x40 x38 x39 x40 true x133000 x133001 x133002 ((rd_T39 x38 x40).f0) ((rd_T39 x38 x40).f1) ((rd_T39 x38 x40).f2))) else (none)) else (none)) else (diffs_grow.j3 k x6 x10 x40 x38 x39 x40 false x133000 x133001 x133002 ((rd_T39 x38 x40).f0) ((rd_T39 x38 x40).f1) ((rd_T39 x38 x40).f2))) else (none)) else (none)) else (none)) else (none)) else (if x10 < 0 then (some (x133000, x133001, x133002, (-1))) else ((diffs_tree_looped.f k x133000 x133001 x133002 x6 x10).bind fun t145 => (if t145 ≥ 0 then (some (x133000, x133001, x133002, t145)) else (diffs_grow.l1 k x6 x133000 x133001 x133002))))
def diffs_grow.j3 : Nat → List (S39) → Int → Int → List (S39) → Int → Int → Bool → List Int → List Bool → List Int → Int → Int → Int → Option (List Int × List Bool × List Int × Int)
 | 0, _, _, _, _, _, _, _, _, _, _, _, _, _ => none
 | k + 1, x6, x10, x11, x38, x39, x40, x77, x133000, x133001, x133002, x137000, x137001, x137002 => if x77 = true then (if 0 ≤ x137000 then (if x137000 < (x133000.length : Int) then (if 0 ≤ x137001 then (if x137001 < (x133000.length : Int) then (if x137001 < (x133001.length : Int) then (if x137001 < (x133002.length : Int) then (diffs_grow.l2 k x6 x137001 x38 x39 (wrap64 (x40 + 1)) (x133000.set (x137001 : Int).toNat (wrap64 ((rd x133000 x137000) + x137002))) (x133001.set (x137001 : Int).toNat true) (x133002.set (x137001 : Int).toNat x11)) else (none)) else (none)) else (none)) else (none)) else (none)) else (none)) else (diffs_grow.l2 k x6 x10 x38 x39 (wrap64 (x40 + 1)) x133000 x133001 x133002)
end
def diffs_grow.f (k : Nat) (a0_0 : Int) (l0_1 : List (S39)) (l1 : List Int) : Option (List Int × List Bool × List Int × Int) := (diffs_plain_nodes.f a0_0 l0_1).bind fun t117 => (if 0 ≤ t117 then (if (t117 : Int).toNat ≤ 35184372088832 then ((diffs_plain_nodes.f a0_0 l0_1).bind fun t121 => (if 0 ≤ t121 then (if (t121 : Int).toNat ≤ 281474976710656 then ((diffs_plain_nodes.f a0_0 l0_1).bind fun t128 => ((slices_Repeat_int_int.f (([(-1)] : List Int)) t128).bind fun t129 => (diffs_grow.l0 k l0_1 l1 (l1.length : Int) 0 (List.replicate (t117 : Int).toNat 0) (List.replicate (t121 : Int).toNat false) t129))) else (none)) else (none))) else (none)) else (none))
theorem diffs_grow.mono_l : ∀ k, (∀ y0 y1 y2 y3 y4 y5 y6, LeO (diffs_grow.l0 k y0 y1 y2 y3 y4 y5 y6) (diffs_grow.l0 (k + 1) y0 y1 y2 y3 y4 y5 y6)) ∧ (∀ y0 y1 y2 y3, LeO (diffs_grow.l1 k y0 y1 y2 y3) (diffs_grow.l1 (k + 1) y0 y1 y2 y3)) ∧ (∀ y0 y1 y2 y3 y4 y5 y6 y7, LeO (diffs_grow.l2 k y0 y1 y2 y3 y4 y5 y6 y7) (diffs_grow.l2 (k + 1) y0 y1 y2 y3 y4 y5 y6 y7)) ∧ (∀ y0 y1 y2 y3 y4 y5 y6 y7 y8 y9 y10 y11 y12, LeO (diffs_grow.j3 k y0 y1 y2 y3 y4 y5 y6 y7 y8 y9 y10 y11 y12) (diffs_grow.j3 (k + 1) y0 y1 y2 y3 y4 y5 y6 y7 y8 y9 y10 y11 y12))
 | 0 => ⟨fun _ _ _ _ _ _ _ r h => by simp [diffs_grow.l0] at h, fun _ _ _ _ r h => by simp [diffs_grow.l1] at h, fun _ _ _ _ _ _ _ _ r h => by simp [diffs_grow.l2] at h, fun _ _ _ _ _ _ _ _ _ _ _ _ _ r h => by simp [diffs_grow.j3] at h⟩
 | k + 1 => by
  obtain ⟨ih0, ih1, ih2, ih3⟩ := diffs_grow.mono_l k
  refine ⟨?_, ?_, ?_, ?_⟩
  ·intro y0 y1 y2 y3 y4 y5 y6
   unfold diffs_grow.l0
   repeat' first
   | (with_reducible exact ih0 _ _ _ _ _ _ _)
   | (with_reducible exact ih1 _ _ _ _)
   | (with_reducible exact ih2 _ _ _ _ _ _ _ _)
   | (with_reducible exact ih3 _ _ _ _ _ _ _ _ _ _ _ _ _)
   | (with_reducible exact diffs_tree_looped.mono _ _ _ _ _ _)
   | (with_reducible exact LeO.refl _)
   | (with_reducible exact LeO.none _)
   | (with_reducible refine LeO.ite ?_ ?_)
   | (with_reducible refine LeO.bind ?_ (fun _ => ?_))
   | exact ih0 _ _ _ _ _ _ _
   | exact ih1 _ _ _ _
   | exact ih2 _ _ _ _ _ _ _ _
   | exact ih3 _ _ _ _ _ _ _ _ _ _ _ _ _
   | exact diffs_tree_looped.mono _ _ _ _ _ _
   | exact LeO.none _
   | refine LeO.ite ?_ ?_
   | refine LeO.bind ?_ (fun _ => ?_)
  ·intro y0 y1 y2 y3
   unfold diffs_grow.l1
   repeat' first
   | (with_reducible exact ih0 _ _ _ _ _ _ _)
   | (with_reducible exact ih1 _ _ _ _)
   | (with_reducible exact ih2 _ _ _ _ _ _ _ _)
   | (with_reducible exact ih3 _ _ _ _ _ _ _ _ _ _ _ _ _)
   | (with_reducible exact diffs_tree_looped.mono _ _ _ _ _ _)
   | (with_reducible exact LeO.refl _)
   | (with_reducible exact LeO.none _)
   | (with_reducible refine LeO.ite ?_ ?_)
   | (with_reducible refine LeO.bind ?_ (fun _ => ?_))
   | exact ih0 _ _ _ _ _ _ _
   | exact ih1 _ _ _ _
   | exact ih2 _ _ _ _ _ _ _ _
   | exact ih3 _ _ _ _ _ _ _ _ _ _ _ _ _
   | exact diffs_tree_looped.mono _ _ _ _ _ _
   | exact LeO.none _
   | refine LeO.ite ?_ ?_
   | refine LeO.bind ?_ (fun _ => ?_)
  ·intro y0 y1 y2 y3 y4 y5 y6 y7
   unfold diffs_grow.l2
   repeat' first
   | (with_reducible exact ih0 _ _ _ _ _ _ _)
   | (with_reducible exact ih1 _ _ _ _)
   | (with_reducible exact ih2 _ _ _ _ _ _ _ _)
   | (with_reducible exact ih3 _ _ _ _ _ _ _ _ _ _ _ _ _)
   | (with_reducible exact diffs_tree_looped.mono _ _ _ _ _ _)
   | (with_reducible exact LeO.refl _)
   | (with_reducible exact LeO.none _)
   | (with_reducible refine LeO.ite ?_ ?_)
   | (with_reducible refine LeO.bind ?_ (fun _ => ?_))
   | exact ih0 _ _ _ _ _ _ _
   | exact ih1 _ _ _ _
   | exact ih2 _ _ _ _ _ _ _ _
   | exact ih3 _ _ _ _ _ _ _ _ _ _ _ _ _
   | exact diffs_tree_looped.mono _ _ _ _ _ _
   | exact LeO.none _
   | refine LeO.ite ?_ ?_
   | refine LeO.bind ?_ (fun _ => ?_)
  ·intro y0 y1 y2 y3 y4 y5 y6 y7 y8 y9 y10 y11 y12
   unfold diffs_grow.j3
   repeat' first
   | (with_reducible exact ih0 _ _ _ _ _ _ _)
   | (with_reducible exact ih1 _ _ _ _)
   | (with_reducible exact ih2 _ _ _ _ _ _ _ _)
   | (with_reducible exact ih3 _ _ _ _ _ _ _ _ _ _ _ _ _)
   | (with_reducible exact diffs_tree_looped.mono _ _ _ _ _ _)
   | (with_reducible exact LeO.refl _)
   | (with_reducible exact LeO.none _)
   | (with_reducible refine LeO.ite ?_ ?_)
   | (with_reducible refine LeO.bind ?_ (fun _ => ?_))
   | exact ih0 _ _ _ _ _ _ _
   | exact ih1 _ _ _ _
   | exact ih2 _ _ _ _ _ _ _ _
   | exact ih3 _ _ _ _ _ _ _ _ _ _ _ _ _
   | exact diffs_tree_looped.mono _ _ _ _ _ _
   | exact LeO.none _
   | refine LeO.ite ?_ ?_
   | refine LeO.bind ?_ (fun _ => ?_)
theorem diffs_grow.mono : ∀ a0 a1 a2 k, LeO (diffs_grow.f k a0 a1 a2) (diffs_grow.f (k + 1) a0 a1 a2) := by
 intro a0 a1 a2 k
 obtain ⟨ih0, ih1, ih2, ih3⟩ := diffs_grow.mono_l k
 unfold diffs_grow.f
 repeat' first
   | (with_reducible exact ih0 _ _ _ _ _ _ _)
   | (with_reducible exact ih1 _ _ _ _)
   | (with_reducible exact ih2 _ _ _ _ _ _ _ _)
   | (with_reducible exact ih3 _ _ _ _ _ _ _ _ _ _ _ _ _)
   | (with_reducible exact diffs_tree_looped.mono _ _ _ _ _ _)
   | (with_reducible exact LeO.refl _)
   | (with_reducible exact LeO.none _)
   | (with_reducible refine LeO.ite ?_ ?_)
   | (with_reducible refine LeO.bind ?_ (fun _ => ?_))
   | exact ih0 _ _ _ _ _ _ _
   | exact ih1 _ _ _ _
   | exact ih2 _ _ _ _ _ _ _ _
   | exact ih3 _ _ _ _ _ _ _ _ _ _ _ _ _
   | exact diffs_tree_looped.mono _ _ _ _ _ _
   | exact LeO.none _
   | refine LeO.ite ?_ ?_
   | refine LeO.bind ?_ (fun _ => ?_)
def diffs_grow.T2 : Bool × List (List Nat × List Nat) := (true, [([], []), ([0], [0]), ([1, 1], [1]), ([], []), ([3, 1], [3]), ([4, 4], [4]), ([], []), ([], []), ([7, 4], [7]), ([6, 8, 8], [6, 8]), ([2, 5, 9], [2, 5, 9]), ([], []), ([11, 10, 9, 0, 1, 2, 3, 4, 5, 6, 7, 8, 9, 10, 11], [10, 11])])
def diffs_grow.B2 : List Nat := [0, 1, 3, 0, 11, 27, 0, 0, 155, 475, 1023, 0, 4095]
theorem diffs_grow.tab2 : rtab .any (opsOf Try.f82 2) = diffs_grow.T2 := by kernel_rfl
theorem diffs_grow.bits2 : waitsOk diffs_grow.T2.2 diffs_grow.B2 = true := by kernel_rfl
def diffs_grow.T14 : Bool × List (List Nat × List Nat) := (true, [([], []), ([0], [0]), ([], []), ([2], [2]), ([], []), ([4], [4]), ([], []), ([6], [6]), ([], []), ([8], [8]), ([], []), ([10], [10]), ([], []), ([12], [12]), ([], []), ([14], [14]), ([13, 15], [13, 15]), ([16], [16]), ([], []), ([18], [18]), ([17, 19], [17, 19]), ([], []), ([1, 3, 0, 1, 2, 3, 12, 13, 14, 15, 16, 17, 18, 19, 20], [1, 3]), ([22, 20, 0, 1, 2, 3, 12, 13, 14, 15, 16, 17, 18, 19, 20], [20, 22]), ([5, 7, 0, 1, 2, 3, 4, 5, 6, 7, 12, 13, 14, 15, 16, 17, 18, 19, 20, 22, 23], [5, 7]), ([24, 23, 0, 1, 2, 3, 4, 5, 6, 7, 12, 13, 14, 15, 16, 17, 18, 19, 20, 22, 23], [24]), ([9, 11, 0, 1, 2, 3, 4, 5, 6, 7, 8, 9, 10, 11, 12, 13, 14, 15, 16, 17, 18, 19, 20, 21, 22, 23, 24, 25], [9, 11]), ([26, 21, 25, 0, 1, 2, 3, 4, 5, 6, 7, 8, 9, 10, 11, 12, 13, 14, 15, 16, 17, 18, 19, 20, 21, 22, 23, 24, 25], [21, 26])])
def diffs_grow.B14 : List Nat := [0, 1, 0, 4, 0, 16, 0, 64, 0, 256, 0, 1024, 0, 4096, 0, 16384, 61440, 126976, 0, 262144, 1044480, 0, 2093071, 6287375, 14676223, 31453439, 67108863, 134217727]
theorem diffs_grow.tab14 : rtab .any (opsOf Try.f82 14) = diffs_grow.T14 := by kernel_rfl
theorem diffs_grow.bits14 : waitsOk diffs_grow.T14.2 diffs_grow.B14 = true := by kernel_rfl
/-- What holds whenever the run jumps back. -/
def GrowJ (T : TypeId) (gv : Value) (A1 : Option Addr) (c1 : Nat) (l1 : List Int) (l0_1 : List S39) (wO : World) (r1 : List Int) (r2 : List Bool) (r3 : List Int) (r4 : Int) (n_ : Nat) (a_ : Act) (w' : World) : Prop := ∃ (w : World) (A0_1 : Option Addr) (c0_1 gb116 gb132 : Nat) (x133000_2 : List Int) (x133001_2 : List Bool) (x133002_2 : List Int) (u133000 u133001 u133002 : Value) (u2 u3 u5 u8 u9 u10 u11 u12 u13 u14 u15 u16 u17 u18 u19 u20 u21 u22 u23 u24 u25 u26 u27 u28 u29 u30 u31 u32 u33 u34 u35 u36 u37 u38 u39 u40 u41 u42 u43 u44 u45 u46 u47 u48 u49 u50 u51 u52 u53 u54 u55 u56 u57 u58 u59 u60 u61 u62 u63 u64 u65 u66 u67 u68 u69 u70 u71 u72 u73 u74 u75 u76 u77 u78 u79 u80 u81 u82 u83 u84 u85 u86 u87 u88 u89 u90 u91 u92 u93 u94 u95 u96 u97 u98 u99 u100 u101 u102 u103 u104 u105 u106 u107 u108 u109 u110 u111 u112 u113 u114 u115 u116 : Value), a_ = { tmps := #[.iface T gv, .slice A1 l1.length c1, u2, u3, .pointer (some ⟨gb116, 0, none⟩), u5, .slice A0_1 l0_1.length c0_1, .pointer (some ⟨gb132, 0, none⟩), u8, u9, u10, u11, u12, u13, u14, u15, u16, u17, u18, u19, u20, u21, u22, u23, u24, u25, u26, u27, u28, u29, u30, u31, u32, u33, u34, u35, u36, u37, u38, u39, u40, u41, u42, u43, u44, u45, u46, u47, u48, u49, u50, u51, u52, u53, u54, u55, u56, u57, u58, u59, u60, u61, u62, u63, u64, u65, u66, u67, u68, u69, u70, u71, u72, u73, u74, u75, u76, u77, u78, u79, u80, u81, u82, u83, u84, u85, u86, u87, u88, u89, u90, u91, u92, u93, u94, u95, u96, u97, u98, u99, u100, u101, u102, u103, u104, u105, u106, u107, u108, u109, u110, u111, u112, u113, u114, u115, u116], defers := [] } ∧ Aside0 (diffs_grow.l1 n_ l0_1 x133000_2 x133001_2 x133002_2 = some (r1, r2, r3, r4)) ∧ Aside0 (Below wO.heap.size wO w) ∧ Aside0 (Kd.C k39 w A0_1 l0_1.length l0_1) ∧ Aside0 (l0_1.length ≤ c0_1) ∧ Aside0 (wO.heap.size ≤ gb116) ∧ Aside0 (w.heap.size ≤ gb132) ∧ Aside0 (gb116 ≠ gb132) ∧ Aside0 (gb132 ≠ gb116) ∧ Aside0 (Kd.R (Kd.int .i64) 3 w' w.heap.size (fun k_ => some k_ ≠ (u133002 : Value).ownBlock) u133000 x133000_2) ∧ Aside0 (Kd.R Kd.bool 4 w' w.heap.size (fun _ => True) u133001 x133001_2) ∧ Aside0 (Kd.R (Kd.int .i64) 3 w' w.heap.size (fun k_ => some k_ ≠ (u133000 : Value).ownBlock) u133002 x133002_2) ∧ Aside0 (w'.heap[gb116]? = some (.cells #[(.slice none 0 0), (.slice none 0 0), (.slice none 0 0)] 88 (0, 0))) ∧ Aside0 (w'.heap[gb132]? = some (.cells #[u133000, u133001, u133002] 88 (0, 0))) ∧ Aside0 (Below w.heap.size w w')
theorem GrowJ.elim {T : TypeId} {gv : Value} {A1 : Option Addr} {c1 : Nat} {l1 : List Int} {l0_1 : List S39} {wO : World} {r1 : List Int} {r2 : List Bool} {r3 : List Int} {r4 : Int} {n_ : Nat} {a_ : Act} {w' : World} (h : GrowJ T gv A1 c1 l1 l0_1 wO r1 r2 r3 r4 n_ a_ w') {M : Prop} (k : ∀ (w : World) (A0_1 : Option Addr) (c0_1 gb116 gb132 : Nat) (x133000_2 : List Int) (x133001_2 : List Bool) (x133002_2 : List Int) (u133000 u133001 u133002 : Value) (u2 u3 u5 u8 u9 u10 u11 u12 u13 u14 u15 u16 u17 u18 u19 u20 u21 u22 u23 u24 u25 u26 u27 u28 u29 u30 u31 u32 u33 u34 u35 u36 u37 u38 u39 u40 u41 u42 u43 u44 u45 u46 u47 u48 u49 u50 u51 u52 u53 u54 u55 u56 u57 u58 u59 u60 u61 u62 u63 u64 u65 u66 u67 u68 u69 u70 u71 u72 u73 u74 u75 u76 u77 u78 u79 u80 u81 u82 u83 u84 u85 u86 u87 u88 u89 u90 u91 u92 u93 u94 u95 u96 u97 u98 u99 u100 u101 u102 u103 u104 u105 u106 u107 u108 u109 u110 u111 u112 u113 u114 u115 u116 : Value), a_ = { tmps := #[.iface T gv, .slice A1 l1.length c1, u2, u3, .pointer (some ⟨gb116, 0, none⟩), u5, .slice A0_1 l0_1.length c0_1, .pointer (some ⟨gb132, 0, none⟩), u8, u9, u10, u11, u12, u13, u14, u15, u16, u17, u18, u19, u20, u21, u22, u23, u24, u25, u26, u27, u28, u29, u30, u31, u32, u33, u34, u35, u36, u37, u38, u39, u40, u41, u42, u43, u44, u45, u46, u47, u48, u49, u50, u51, u52, u53, u54, u55, u56, u57, u58, u59, u60, u61, u62, u63, u64, u65, u66, u67, u68, u69, u70, u71, u72, u73, u74, u75, u76, u77, u78, u79, u80, u81, u82, u83, u84, u85, u86, u87, u88, u89, u90, u91, u92, u93, u94, u95, u96, u97, u98, u99, u100, u101, u102, u103, u104, u105, u106, u107, u108, u109, u110, u111, u112, u113, u114, u115, u116], defers := [] } → Aside0 (diffs_grow.l1 n_ l0_1 x133000_2 x133001_2 x133002_2 = some (r1, r2, r3, r4)) → Aside0 (Below wO.heap.size wO w) → Aside0 (Kd.C k39 w A0_1 l0_1.length l0_1) → Aside0 (l0_1.length ≤ c0_1) → Aside0 (wO.heap.size ≤ gb116) → Aside0 (w.heap.size ≤ gb132) → Aside0 (gb116 ≠ gb132) → Aside0 (gb132 ≠ gb116) → Aside0 (Kd.R (Kd.int .i64) 3 w' w.heap.size (fun k_ => some k_ ≠ (u133002 : Value).ownBlock) u133000 x133000_2) → Aside0 (Kd.R Kd.bool 4 w' w.heap.size (fun _ => True) u133001 x133001_2) → Aside0 (Kd.R (Kd.int .i64) 3 w' w.heap.size (fun k_ => some k_ ≠ (u133000 : Value).ownBlock) u133002 x133002_2) → Aside0 (w'.heap[gb116]? = some (.cells #[(.slice none 0 0), (.slice none 0 0), (.slice none 0 0)] 88 (0, 0))) → Aside0 (w'.heap[gb132]? = some (.cells #[u133000, u133001, u133002] 88 (0, 0))) → Aside0 (Below w.heap.size w w') → M) : M :=
 Exists.elim h fun w h => Exists.elim h fun A0_1 h => Exists.elim h fun c0_1 h => Exists.elim h fun gb116 h => Exists.elim h fun gb132 h => Exists.elim h fun x133000_2 h => Exists.elim h fun x133001_2 h => Exists.elim h fun x133002_2 h => Exists.elim h fun u133000 h => Exists.elim h fun u133001 h => Exists.elim h fun u133002 h => Exists.elim h fun u2 h => Exists.elim h fun u3 h => Exists.elim h fun u5 h => Exists.elim h fun u8 h => Exists.elim h fun u9 h => Exists.elim h fun u10 h => Exists.elim h fun u11 h => Exists.elim h fun u12 h => Exists.elim h fun u13 h => Exists.elim h fun u14 h => Exists.elim h fun u15 h => Exists.elim h fun u16 h => Exists.elim h fun u17 h => Exists.elim h fun u18 h => Exists.elim h fun u19 h => Exists.elim h fun u20 h => Exists.elim h fun u21 h => Exists.elim h fun u22 h => Exists.elim h fun u23 h => Exists.elim h fun u24 h => Exists.elim h fun u25 h => Exists.elim h fun u26 h => Exists.elim h fun u27 h => Exists.elim h fun u28 h => Exists.elim h fun u29 h => Exists.elim h fun u30 h => Exists.elim h fun u31 h => Exists.elim h fun u32 h => Exists.elim h fun u33 h => Exists.elim h fun u34 h => Exists.elim h fun u35 h => Exists.elim h fun u36 h => Exists.elim h fun u37 h => Exists.elim h fun u38 h => Exists.elim h fun u39 h => Exists.elim h fun u40 h => Exists.elim h fun u41 h => Exists.elim h fun u42 h => Exists.elim h fun u43 h => Exists.elim h fun u44 h => Exists.elim h fun u45 h => Exists.elim h fun u46 h => Exists.elim h fun u47 h => Exists.elim h fun u48 h => Exists.elim h fun u49 h => Exists.elim h fun u50 h => Exists.elim h fun u51 h => Exists.elim h fun u52 h => Exists.elim h fun u53 h => Exists.elim h fun u54 h => Exists.elim h fun u55 h => Exists.elim h fun u56 h => Exists.elim h fun u57 h => Exists.elim h fun u58 h => Exists.elim h fun u59 h => Exists.elim h fun u60 h => Exists.elim h fun u61 h => Exists.elim h fun u62 h => Exists.elim h fun u63 h => Exists.elim h fun u64 h => Exists.elim h fun u65 h => Exists.elim h fun u66 h => Exists.elim h fun u67 h => Exists.elim h fun u68 h => Exists.elim h fun u69 h => Exists.elim h fun u70 h => Exists.elim h fun u71 h => Exists.elim h fun u72 h => Exists.elim h fun u73 h => Exists.elim h fun u74 h => Exists.elim h fun u75 h => Exists.elim h fun u76 h => Exists.elim h fun u77 h => Exists.elim h fun u78 h => Exists.elim h fun u79 h => Exists.elim h fun u80 h => Exists.elim h fun u81 h => Exists.elim h fun u82 h => Exists.elim h fun u83 h => Exists.elim h fun u84 h => Exists.elim h fun u85 h => Exists.elim h fun u86 h => Exists.elim h fun u87 h => Exists.elim h fun u88 h => Exists.elim h fun u89 h => Exists.elim h fun u90 h => Exists.elim h fun u91 h => Exists.elim h fun u92 h => Exists.elim h fun u93 h => Exists.elim h fun u94 h => Exists.elim h fun u95 h => Exists.elim h fun u96 h => Exists.elim h fun u97 h => Exists.elim h fun u98 h => Exists.elim h fun u99 h => Exists.elim h fun u100 h => Exists.elim h fun u101 h => Exists.elim h fun u102 h => Exists.elim h fun u103 h => Exists.elim h fun u104 h => Exists.elim h fun u105 h => Exists.elim h fun u106 h => Exists.elim h fun u107 h => Exists.elim h fun u108 h => Exists.elim h fun u109 h => Exists.elim h fun u110 h => Exists.elim h fun u111 h => Exists.elim h fun u112 h => Exists.elim h fun u113 h => Exists.elim h fun u114 h => Exists.elim h fun u115 h => Exists.elim h fun u116 h => k w A0_1 c0_1 gb116 gb132 x133000_2 x133001_2 x133002_2 u133000 u133001 u133002 u2 u3 u5 u8 u9 u10 u11 u12 u13 u14 u15 u16 u17 u18 u19 u20 u21 u22 u23 u24 u25 u26 u27 u28 u29 u30 u31 u32 u33 u34 u35 u36 u37 u38 u39 u40 u41 u42 u43 u44 u45 u46 u47 u48 u49 u50 u51 u52 u53 u54 u55 u56 u57 u58 u59 u60 u61 u62 u63 u64 u65 u66 u67 u68 u69 u70 u71 u72 u73 u74 u75 u76 u77 u78 u79 u80 u81 u82 u83 u84 u85 u86 u87 u88 u89 u90 u91 u92 u93 u94 u95 u96 u97 u98 u99 u100 u101 u102 u103 u104 u105 u106 u107 u108 u109 u110 u111 u112 u113 u114 u115 u116 h.1 h.2.1 h.2.2.1 h.2.2.2.1 h.2.2.2.2.1 h.2.2.2.2.2.1 h.2.2.2.2.2.2.1 h.2.2.2.2.2.2.2.1 h.2.2.2.2.2.2.2.2.1 h.2.2.2.2.2.2.2.2.2.1 h.2.2.2.2.2.2.2.2.2.2.1 h.2.2.2.2.2.2.2.2.2.2.2.1 h.2.2.2.2.2.2.2.2.2.2.2.2.1 h.2.2.2.2.2.2.2.2.2.2.2.2.2.1 h.2.2.2.2.2.2.2.2.2.2.2.2.2.2
/-- What a graph's two methods answer, whatever was made behind w. -/
structure Graph (w : World) (T : TypeId) (gv : Value) (a0_0 : Int) (l0_1 : List S39) : Prop where mk ::
 (out : ∃ (fL fN : FuncId) (rL rN : Value) (gL gN : Func),
  (∀ W, (method (Try.prog.types.size + Made.depth) T gv "snowline/diffs.lines").run Try.prog W = .ok (fL, rL) W) ∧
  (∀ W, (method (Try.prog.types.size + Made.depth) T gv "snowline/diffs.nodes").run Try.prog W = .ok (fN, rN) W) ∧
  (Try.prog.funcs[fL]? = some gL ∧ (gL.name == "runtime.NumGoroutine") = false ∧ gL.body.isSome = true) ∧
  (Try.prog.funcs[fN]? = some gN ∧ (gN.name == "runtime.NumGoroutine") = false ∧ gN.body.isSome = true) ∧
  (∀ W, Below w.heap.size w W → Calls Try.prog fL #[rL] W fun e W' => ∃ A c, e = .returned (.slice A l0_1.length c) ∧ l0_1.length ≤ c ∧ Kd.C k39 W' A l0_1.length l0_1 ∧ Below W.heap.size W W') ∧
  (∀ W, Below w.heap.size w W → Calls Try.prog fN #[rN] W fun e W' => e = .returned (.int .i64 a0_0) ∧ Below W.heap.size W W'))
set_option maxHeartbeats 16000000 in
set_option maxRecDepth 100000 in
theorem diffs_grow.any (k : Nat) (T : TypeId) (gv : Value) (a0_0 : Int) (l0_1 : List (S39)) (A1 : Option Addr) (c1 : Nat) (l1 : List Int) (r1 : List Int) (r2 : List Bool) (r3 : List Int) (r4 : Int) (wO : World) (hG : Graph wO T gv a0_0 l0_1)
  (hr1 : Kd.C (Kd.int .i64) wO A1 l1.length l1) (hc1 : l1.length ≤ c1) (h : diffs_grow.f k a0_0 l0_1 l1 = some (r1, r2, r3, r4)) :
  Calls Try.prog 82 #[.iface T gv, .slice A1 l1.length c1] wO fun e w' => ∃ v0_ v1_ v2_ : Value, e = .returned (.tuple #[.agg #[v0_, v1_, v2_], .int .i64 r4]) ∧ Kd.R (Kd.int .i64) 3 w' wO.heap.size (fun k_ => some k_ ≠ (v2_ : Value).ownBlock) v0_ r1 ∧ Kd.R Kd.bool 4 w' wO.heap.size (fun _ => True) v1_ r2 ∧ Kd.R (Kd.int .i64) 3 w' wO.heap.size (fun k_ => some k_ ≠ (v0_ : Value).ownBlock) v2_ r3 ∧ Below wO.heap.size wO w' := by
 obtain ⟨⟨fL, fN, rL, rN, gL, gN, hmL0, hmN0, hfL0, hfN0, hL0, hN0⟩⟩ := hG
 have hmL := Aside0.mk hmL0
 have hmN := Aside0.mk hmN0
 have hfL := Aside0.mk hfL0
 have hfN := Aside0.mk hfN0
 have hL := Aside0.mk hL0
 have hN := Aside0.mk hN0
 clear hmL0 hmN0 hfL0 hfN0 hL0 hN0
 have hu88 := Try.underlying88
 have hu39 := Try.underlying39
 have HRO := Aside0.mk hr1
 have HC1 := Aside0.mk hc1
 clear hr1 hc1
 have HB := Aside0.mk (Below.refl wO.heap.size wO)
 have H : ((diffs_plain_nodes.f a0_0 l0_1).bind fun t117 => (if 0 ≤ t117 then (if (t117 : Int).toNat ≤ 35184372088832 then ((diffs_plain_nodes.f a0_0 l0_1).bind fun t121 => (if 0 ≤ t121 then (if (t121 : Int).toNat ≤ 281474976710656 then ((diffs_plain_nodes.f a0_0 l0_1).bind fun t128 => ((slices_Repeat_int_int.f (([(-1)] : List Int)) t128).bind fun t129 => (diffs_grow.l0 k l0_1 l1 (l1.length : Int) 0 (List.replicate (t117 : Int).toNat 0) (List.replicate (t121 : Int).toNat false) t129))) else (none)) else (none))) else (none)) else (none))) = some (r1, r2, r3, r4) := h
 clear h
 replace H := Option.bind_eq_some_iff.mp H
 obtain ⟨t117, A30, H⟩ := H
 replace H : (if 0 ≤ t117 then (if (t117 : Int).toNat ≤ 35184372088832 then ((diffs_plain_nodes.f a0_0 l0_1).bind fun t121 => (if 0 ≤ t121 then (if (t121 : Int).toNat ≤ 281474976710656 then ((diffs_plain_nodes.f a0_0 l0_1).bind fun t128 => ((slices_Repeat_int_int.f (([(-1)] : List Int)) t128).bind fun t129 => (diffs_grow.l0 k l0_1 l1 (l1.length : Int) 0 (List.replicate (t117 : Int).toNat 0) (List.replicate (t121 : Int).toNat false) t129))) else (none)) else (none))) else (none)) else (none)) = some (r1, r2, r3, r4) := H
 have A3 := Aside0.mk A30
 clear A30
 by_cases c4 : 0 ≤ t117
 ·rw [if_pos c4] at H
  have c4b0 := eq_true c4
  have c4b1 : decide (0 ≤ t117) = true := decide_eq_true c4
  clear c4
  by_cases c5 : (t117 : Int).toNat ≤ 35184372088832
  ·rw [if_pos c5] at H
   have c5b0 := eq_true c5
   have c5b1 : decide ((t117 : Int).toNat ≤ 35184372088832) = true := decide_eq_true c5
   clear c5
   obtain ⟨y118, hy118⟩ : ∃ y_ : List Int, y_ = (List.replicate (t117 : Int).toNat 0) := ⟨_, rfl⟩
   replace H : ((diffs_plain_nodes.f a0_0 l0_1).bind fun t121 => (if 0 ≤ t121 then (if (t121 : Int).toNat ≤ 281474976710656 then ((diffs_plain_nodes.f a0_0 l0_1).bind fun t128 => ((slices_Repeat_int_int.f (([(-1)] : List Int)) t128).bind fun t129 => (diffs_grow.l0 k l0_1 l1 (l1.length : Int) 0 y118 (List.replicate (t121 : Int).toNat false) t129))) else (none)) else (none))) = some (r1, r2, r3, r4) := by first | (rw [hy118]; with_reducible exact H) | (have H2_ := (Option.bind_some _ _).symm.trans H; rw [hy118]; with_reducible exact H2_) | (have H2_ := (Option.bind_some _ _).symm.trans H; with_reducible exact H2_) | with_reducible exact H | (rw [hy118]; exact H) | exact H
   have Ny118 := Aside0.mk hy118
   clear hy118
   replace H := Option.bind_eq_some_iff.mp H
   obtain ⟨t121, A60, H⟩ := H
   replace H : (if 0 ≤ t121 then (if (t121 : Int).toNat ≤ 281474976710656 then ((diffs_plain_nodes.f a0_0 l0_1).bind fun t128 => ((slices_Repeat_int_int.f (([(-1)] : List Int)) t128).bind fun t129 => (diffs_grow.l0 k l0_1 l1 (l1.length : Int) 0 y118 (List.replicate (t121 : Int).toNat false) t129))) else (none)) else (none)) = some (r1, r2, r3, r4) := H
   have A6 := Aside0.mk A60
   clear A60
   by_cases c7 : 0 ≤ t121
   ·rw [if_pos c7] at H
    have c7b0 := eq_true c7
    have c7b1 : decide (0 ≤ t121) = true := decide_eq_true c7
    clear c7
    by_cases c8 : (t121 : Int).toNat ≤ 281474976710656
    ·rw [if_pos c8] at H
     have c8b0 := eq_true c8
     have c8b1 : decide ((t121 : Int).toNat ≤ 281474976710656) = true := decide_eq_true c8
     clear c8
     obtain ⟨y122, hy122⟩ : ∃ y_ : List Bool, y_ = (List.replicate (t121 : Int).toNat false) := ⟨_, rfl⟩
     replace H : ((diffs_plain_nodes.f a0_0 l0_1).bind fun t128 => ((slices_Repeat_int_int.f (([(-1)] : List Int)) t128).bind fun t129 => (diffs_grow.l0 k l0_1 l1 (l1.length : Int) 0 y118 y122 t129))) = some (r1, r2, r3, r4) := by first | (rw [hy122]; with_reducible exact H) | (have H2_ := (Option.bind_some _ _).symm.trans H; rw [hy122]; with_reducible exact H2_) | (have H2_ := (Option.bind_some _ _).symm.trans H; with_reducible exact H2_) | with_reducible exact H | (rw [hy122]; exact H) | exact H
     have Ny122 := Aside0.mk hy122
     clear hy122
     obtain ⟨y125, hy125⟩ : ∃ y_ : List Int, y_ = (([(-1)] : List Int)) := ⟨_, rfl⟩
     replace H : ((diffs_plain_nodes.f a0_0 l0_1).bind fun t128 => ((slices_Repeat_int_int.f y125 t128).bind fun t129 => (diffs_grow.l0 k l0_1 l1 (l1.length : Int) 0 y118 y122 t129))) = some (r1, r2, r3, r4) := by first | (rw [hy125]; with_reducible exact H) | (have H2_ := (Option.bind_some _ _).symm.trans H; rw [hy125]; with_reducible exact H2_) | (have H2_ := (Option.bind_some _ _).symm.trans H; with_reducible exact H2_) | with_reducible exact H | (rw [hy125]; exact H) | exact H
     have Ny125 := Aside0.mk hy125
     clear hy125
     replace H := Option.bind_eq_some_iff.mp H
     obtain ⟨t128, A90, H⟩ := H
     replace H : ((slices_Repeat_int_int.f y125 t128).bind fun t129 => (diffs_grow.l0 k l0_1 l1 (l1.length : Int) 0 y118 y122 t129)) = some (r1, r2, r3, r4) := H
     have A9 := Aside0.mk A90
     clear A90
     replace H := Option.bind_eq_some_iff.mp H
     obtain ⟨t129, A100, H⟩ := H
     replace H : (diffs_grow.l0 k l0_1 l1 (l1.length : Int) 0 y118 y122 t129) = some (r1, r2, r3, r4) := H
     have A10 := Aside0.mk A100
     clear A100
     have H' := Aside0.mk H
     clear H
     go_enter Try.func82, Try.ntmps82
     go_wp2_with ((with_reducible refine gate_dst (N := 4) rfl ?_); refine box_event ?hg (N := 4) ?hd (cs := #[.slice none 0 0, .slice none 0 0, .slice none 0 0]) (t := 88) ?hr ?_; (case hd => rfl); (case hg => rfl); (case hr => first | (go_simp; done) | (go_simp; rfl)); intro gb116 hg w11 hbox hb; have BK116 := Aside0.mk (hbox); have GW116 := Aside0.mk ((by rw [hg]; exact (below_size (by repeat (first | (with_reducible first | exact HB.out | apply below_alloc | apply pw_below_drewN | apply below_drew1) | exact HB.out))) : wO.heap.size ≤ gb116)); have GE116 := Aside0.mk ((by rw [hg]; exact (below_size (by repeat (first | (with_reducible first | exact HB.out | apply below_alloc | apply pw_below_drewN | apply below_drew1) | exact HB.out))) : wO.heap.size ≤ gb116)); replace HB := Aside0.mk (below_step (by repeat (first | (with_reducible first | exact HB.out | apply below_alloc | apply pw_below_drewN | apply below_drew1) | exact HB.out)) hb); clear hb hbox hg)
     refine wp_scope_ghost 0 (GrowJ T gv A1 c1 l1 l0_1 wO r1 r2 r3 r4) rfl ?pass ?first
     case pass =>
      clear HB BK116 GE116 GW116
      intro gk a_ wr hJ_
      refine hJ_.elim ?_
      clear hJ_
      intro w A0_1 c0_1 gb116 gb132 x133000_2 x133001_2 x133002_2 u133000 u133001 u133002 u2 u3 u5 u8 u9 u10 u11 u12 u13 u14 u15 u16 u17 u18 u19 u20 u21 u22 u23 u24 u25 u26 u27 u28 u29 u30 u31 u32 u33 u34 u35 u36 u37 u38 u39 u40 u41 u42 u43 u44 u45 u46 u47 u48 u49 u50 u51 u52 u53 u54 u55 u56 u57 u58 u59 u60 u61 u62 u63 u64 u65 u66 u67 u68 u69 u70 u71 u72 u73 u74 u75 u76 u77 u78 u79 u80 u81 u82 u83 u84 u85 u86 u87 u88 u89 u90 u91 u92 u93 u94 u95 u96 u97 u98 u99 u100 u101 u102 u103 u104 u105 u106 u107 u108 u109 u110 u111 u112 u113 u114 u115 u116 he_ HA HBO HR0_1 HC0_1 GE116O GE132 NB116_132 NB132_116 HO_133000 HO_133001 HO_133002 BK116 BK132 HB
      subst he_
      clear A3 A6 A9 A10 H'
      have HK1 := Aside0.mk (Nat.le_refl 0)
      have HK2 := Aside0.mk (Nat.le_refl 0)
      cases gk with
      | zero => exact absurd HA.out (by simp [diffs_grow.l1])
      | succ k2 =>
       have H := HA.out
       clear HA
       simp only [diffs_grow.l1] at H
       have H' := Aside0.mk H
       clear H
       go_wp2
       go_loopg [10, 40] k2 (fun kq v10 v40 w' => ∃ (x10_3 : Int) (x40_3 : Int) (x133000_3 : List Int) (x133001_3 : List Bool) (x133002_3 : List Int) (u133000 : Value) (u133001 : Value) (u133002 : Value), v10 = .int .i64 x10_3 ∧ v40 = .int .i64 x40_3 ∧ Aside0 (diffs_grow.l2 kq l0_1 x10_3 l0_1 (l0_1.length : Int) x40_3 x133000_3 x133001_3 x133002_3 = some (r1, r2, r3, r4)) ∧ Aside0 (kq ≤ k2) ∧ Aside0 (Kd.R (Kd.int .i64) 3 w' w.heap.size (fun k_ => some k_ ≠ (u133002 : Value).ownBlock) u133000 x133000_3) ∧ Aside0 (Kd.R Kd.bool 4 w' w.heap.size (fun _ => True) u133001 x133001_3) ∧ Aside0 (Kd.R (Kd.int .i64) 3 w' w.heap.size (fun k_ => some k_ ≠ (u133000 : Value).ownBlock) u133002 x133002_3) ∧ Aside0 (w'.heap[gb116]? = some (.cells #[(.slice none 0 0), (.slice none 0 0), (.slice none 0 0)] 88 (0, 0))) ∧ Aside0 (w'.heap[gb132]? = some (.cells #[u133000, u133001, u133002] 88 (0, 0))) ∧ Aside0 (Below w.heap.size w w'))
       case atStart => exact ⟨((-1)), (0), (x133000_2), (x133001_2), (x133002_2), (u133000), (u133001), (u133002), (by first | rfl | (simp; done) | (simp [*]; done)), (by first | rfl | (simp; done) | (simp [*]; done)), H', ⟨Nat.le_refl _⟩, ⟨HO_133000.out⟩, ⟨HO_133001.out⟩, ⟨HO_133002.out⟩, ⟨BK116.out⟩, ⟨BK132.out⟩, ⟨by repeat (first | (with_reducible first | exact HB.out | apply below_alloc | apply pw_below_drewN | apply below_drew1 | refine below_set ?_ GE132.out) | exact HB.out)⟩⟩
       case round =>
        clear H'
        (try clear c1); (try clear p1); (try clear q1); (try clear hx1); (try clear p2); (try clear c3); (try clear c4); (try clear c4b0); (try clear c4b1); (try clear p4); (try clear q4); (try clear hx4); (try clear hf4); (try clear c5); (try clear c5b0); (try clear c5b1); (try clear p6); (try clear c7); (try clear c7b0); (try clear c7b1); (try clear c8); (try clear c8b0); (try clear c8b1); (try clear c11); (try clear p13); (try clear q13); (try clear hx13); (try clear c15); (try clear c35); (try clear c35b0); (try clear c36); (try clear c36b0); (try clear c37); (try clear c37b0); (try clear c38); (try clear c38b0); (try clear c39); (try clear c39b0); (try clear p40); (try clear q40); (try clear hx40); (try clear hf40); (try clear c41); (try clear hcz42_0); (try clear hcz42_1); (try clear hcz42_2); (try clear hfz42_0); (try clear hfz42_1); (try clear hfz42_2); (try clear hx133_0); (try clear hx40_0); (try clear p1); (try clear p13); (try clear p133); (try clear p2); (try clear p4); (try clear p40); (try clear p6); (try clear q1); (try clear q13); (try clear q133); (try clear q4); (try clear q40)
        obtain ⟨x10_3, x40_3, x133000_3, x133001_3, x133002_3, u133000, u133001, u133002, rfl, rfl, HA, HK3, HO_133000, HO_133001, HO_133002, BK116, BK132, HB⟩ := hrel
        cases gk with
        | zero => exact absurd HA.out (by simp [diffs_grow.l2])
        | succ k3 =>
         have H := HA.out
         clear HA
         simp only [diffs_grow.l2] at H
         by_cases c45 : x40_3 < (l0_1.length : Int)
         ·rw [if_pos c45] at H
          have c45b0 : decide (x40_3 < (l0_1.length : Int)) = true := decide_eq_true c45
          clear c45
          by_cases c46 : 0 ≤ x40_3
          ·rw [if_pos c46] at H
           have c46b0 : decide (0 ≤ x40_3) = true := decide_eq_true c46
           clear c46
           by_cases c47 : x40_3 < (l0_1.length : Int)
           ·rw [if_pos c47] at H
            have c47b0 : decide (x40_3 < (l0_1.length : Int)) = true := decide_eq_true c47
            clear c47
            have HC48 := Aside0.mk H
            clear H
            have p135 : 0 ≤ (x40_3 : Int) := of_decide_eq_true (by first | (with_reducible assumption) | assumption)
            have q135 : x40_3 < (l0_1.length : Int) := of_decide_eq_true (by first | (with_reducible assumption) | assumption)
            obtain ⟨ad135, e135, hx135_0, hx135_1, hx135_2⟩ := at_T39 HR0_1.out x40_3 p135 q135
            cases e135
            replace hx135_0 := (HB.out.cell (World.block_lt_of_cell? w _ hx135_0)).trans hx135_0
            replace hx135_1 := (HB.out.cell (World.block_lt_of_cell? w _ hx135_1)).trans hx135_1
            replace hx135_2 := (HB.out.cell (World.block_lt_of_cell? w _ hx135_2)).trans hx135_2
            replace p135 := eq_true p135
            replace q135 := eq_true q135
            go_upto_region 13 with (first | ((with_reducible refine gate_dst (N := 12) rfl ?_); refine box_event ?hg (N := 12) ?hd (cs := #[.int .i64 0, .int .i64 0, .int .i64 0]) (t := 39) ?hr ?_; (case hd => rfl); (case hg => rfl); (case hr => first | (go_simp; done) | (go_simp; rfl)); intro gb136 hg w49 hbox hb; replace HO_133000 := Aside0.mk (Kd.R_below HO_133000.out hb); replace HO_133001 := Aside0.mk (Kd.R_below HO_133001.out hb); replace HO_133002 := Aside0.mk (Kd.R_below HO_133002.out hb); have BK136 := Aside0.mk (hbox); have GW136 := Aside0.mk ((by rw [hg]; exact (below_size (by repeat (first | (with_reducible first | exact HB.out | apply below_alloc | apply pw_below_drewN | apply below_drew1 | refine below_set ?_ GE132.out) | exact HB.out))) : w.heap.size ≤ gb136)); have GE136 := Aside0.mk ((by rw [hg]; exact (below_size (by repeat (first | (with_reducible first | exact HB.out | apply below_alloc | apply pw_below_drewN | apply below_drew1 | refine below_set ?_ GE132.out) | exact HB.out))) : w.heap.size ≤ gb136)); replace HB := Aside0.mk (below_step (by repeat (first | (with_reducible first | exact HB.out | apply below_alloc | apply pw_below_drewN | apply below_drew1 | refine below_set ?_ GE132.out) | exact HB.out)) hb); have NB116_136 := Aside0.mk ((by rw [hg]; exact Nat.ne_of_lt (blk_lt (g := gb116) (o := .cells #[.slice none 0 0, .slice none 0 0, .slice none 0 0] 88 (0, 0)) BK116.out) : gb116 ≠ gb136)); have NB136_116 := Aside0.mk ((by rw [hg]; exact Nat.ne_of_gt (blk_lt (g := gb116) (o := .cells #[.slice none 0 0, .slice none 0 0, .slice none 0 0] 88 (0, 0)) BK116.out) : gb136 ≠ gb116)); replace BK116 := Aside0.mk (blk_below (g := gb116) (o := .cells #[.slice none 0 0, .slice none 0 0, .slice none 0 0] 88 (0, 0)) BK116.out hb); have NB132_136 := Aside0.mk ((by rw [hg]; exact Nat.ne_of_lt (blk_lt (g := gb132) (o := .cells #[u133000, u133001, u133002] 88 (0, 0)) BK132.out) : gb132 ≠ gb136)); have NB136_132 := Aside0.mk ((by rw [hg]; exact Nat.ne_of_gt (blk_lt (g := gb132) (o := .cells #[u133000, u133001, u133002] 88 (0, 0)) BK132.out) : gb136 ≠ gb132)); replace BK132 := Aside0.mk (blk_below (g := gb132) (o := .cells #[u133000, u133001, u133002] 88 (0, 0)) BK132.out hb); clear hb hbox hg; have hnb50 := NB136_116.out; have hnc50 := NB116_136.out; have hnb51 := NB136_132.out; have hnc51 := NB132_136.out; have hcz52_0 : w49.cell? ⟨gb136, 0, none⟩ = some (.int .i64 0) := (blk_cell BK136.out 0).trans rfl; have hcz52_1 : w49.cell? ⟨gb136, 1, none⟩ = some (.int .i64 0) := (blk_cell BK136.out 1).trans rfl; have hcz52_2 : w49.cell? ⟨gb136, 2, none⟩ = some (.int .i64 0) := (blk_cell BK136.out 2).trans rfl; have hfz52_0 := blk_frozen BK136.out 0; have hfz52_1 := blk_frozen BK136.out 1; have hfz52_2 := blk_frozen BK136.out 2))
            (try simp only [Act.put, List.setIfInBounds_toArray, List.set_cons_zero, List.set_cons_succ])
            go_cut [77] (fun v77 wc => ∃ (kq : Nat) (x77_47 : Bool), v77 = .bool x77_47 ∧ Aside0 (diffs_grow.j3 kq l0_1 x10_3 x40_3 l0_1 (l0_1.length : Int) x40_3 x77_47 x133000_3 x133001_3 x133002_3 ((rd_T39 l0_1 x40_3).f0) ((rd_T39 l0_1 x40_3).f1) ((rd_T39 l0_1 x40_3).f2) = some (r1, r2, r3, r4)) ∧ Aside0 (kq ≤ k3) ∧ Aside0 (Kd.R (Kd.int .i64) 3 wc w.heap.size (fun k_ => some k_ ≠ (u133002 : Value).ownBlock) u133000 x133000_3) ∧ Aside0 (Kd.R Kd.bool 4 wc w.heap.size (fun _ => True) u133001 x133001_3) ∧ Aside0 (Kd.R (Kd.int .i64) 3 wc w.heap.size (fun k_ => some k_ ≠ (u133000 : Value).ownBlock) u133002 x133002_3) ∧ Aside0 (wc.heap[gb116]? = some (.cells #[(.slice none 0 0), (.slice none 0 0), (.slice none 0 0)] 88 (0, 0))) ∧ Aside0 (wc.heap[gb132]? = some (.cells #[u133000, u133001, u133002] 88 (0, 0))) ∧ Aside0 (wc.heap[gb136]? = some (.cells #[.int .i64 ((rd_T39 l0_1 x40_3).f0), .int .i64 ((rd_T39 l0_1 x40_3).f1), .int .i64 ((rd_T39 l0_1 x40_3).f2)] 39 (0, 0))) ∧ Aside0 (Below w.heap.size w wc))
            case first =>
             have H := HC48.out
             clear HC48
             by_cases c53 : 0 ≤ ((rd_T39 l0_1 x40_3).f0)
             ·rw [if_pos c53] at H
              have c53b0 : decide (0 ≤ ((rd_T39 l0_1 x40_3).f0)) = true := decide_eq_true c53
              clear c53
              (first | rw [c53b0] | (simp only [i64_w, i32_w]; rw [c53b0]) | skip)
              by_cases c54 : ((rd_T39 l0_1 x40_3).f0) < (x133001_3.length : Int)
              ·rw [if_pos c54] at H
               have c54b0 : decide (((rd_T39 l0_1 x40_3).f0) < (x133001_3.length : Int)) = true := decide_eq_true c54
               clear c54
               obtain ⟨bq55, hbq55⟩ : ∃ b_ : Bool, b_ = (rdOf false x133001_3 ((rd_T39 l0_1 x40_3).f0)) := ⟨_, rfl⟩
               replace H : (if bq55 = true then (if 0 ≤ ((rd_T39 l0_1 x40_3).f1) then (if ((rd_T39 l0_1 x40_3).f1) < (x133001_3.length : Int) then (if (rdOf false x133001_3 ((rd_T39 l0_1 x40_3).f1) = true) then (if ((rd_T39 l0_1 x40_3).f0) < (x133000_3.length : Int) then (if ((rd_T39 l0_1 x40_3).f1) < (x133000_3.length : Int) then (diffs_grow.j3 k3 l0_1 x10_3 x40_3 l0_1 (l0_1.length : Int) x40_3 (decide ((wrap64 ((rd x133000_3 ((rd_T39 l0_1 x40_3).f0)) + ((rd_T39 l0_1 x40_3).f2))) < (rd x133000_3 ((rd_T39 l0_1 x40_3).f1)))) x133000_3 x133001_3 x133002_3 ((rd_T39 l0_1 x40_3).f0) ((rd_T39 l0_1 x40_3).f1) ((rd_T39 l0_1 x40_3).f2)) else (none)) else (none)) else (diffs_grow.j3 k3 l0_1 x10_3 x40_3 l0_1 (l0_1.length : Int) x40_3 true x133000_3 x133001_3 x133002_3 ((rd_T39 l0_1 x40_3).f0) ((rd_T39 l0_1 x40_3).f1) ((rd_T39 l0_1 x40_3).f2))) else (none)) else (none)) else (diffs_grow.j3 k3 l0_1 x10_3 x40_3 l0_1 (l0_1.length : Int) x40_3 false x133000_3 x133001_3 x133002_3 ((rd_T39 l0_1 x40_3).f0) ((rd_T39 l0_1 x40_3).f1) ((rd_T39 l0_1 x40_3).f2))) = some (r1, r2, r3, r4) := by rw [← hbq55] at H; exact H
               have Nbq55 := Aside0.mk hbq55
               clear hbq55
               by_cases c56 : bq55 = true
               ·subst c56
                have H1 : (if 0 ≤ ((rd_T39 l0_1 x40_3).f1) then (if ((rd_T39 l0_1 x40_3).f1) < (x133001_3.length : Int) then (if (rdOf false x133001_3 ((rd_T39 l0_1 x40_3).f1) = true) then (if ((rd_T39 l0_1 x40_3).f0) < (x133000_3.length : Int) then (if ((rd_T39 l0_1 x40_3).f1) < (x133000_3.length : Int) then (diffs_grow.j3 k3 l0_1 x10_3 x40_3 l0_1 (l0_1.length : Int) x40_3 (decide ((wrap64 ((rd x133000_3 ((rd_T39 l0_1 x40_3).f0)) + ((rd_T39 l0_1 x40_3).f2))) < (rd x133000_3 ((rd_T39 l0_1 x40_3).f1)))) x133000_3 x133001_3 x133002_3 ((rd_T39 l0_1 x40_3).f0) ((rd_T39 l0_1 x40_3).f1) ((rd_T39 l0_1 x40_3).f2)) else (none)) else (none)) else (diffs_grow.j3 k3 l0_1 x10_3 x40_3 l0_1 (l0_1.length : Int) x40_3 true x133000_3 x133001_3 x133002_3 ((rd_T39 l0_1 x40_3).f0) ((rd_T39 l0_1 x40_3).f1) ((rd_T39 l0_1 x40_3).f2))) else (none)) else (none)) = some (r1, r2, r3, r4) := by rw [if_pos rfl] at H; exact H
                clear H
                have H := H1
                clear H1
                by_cases c57 : 0 ≤ ((rd_T39 l0_1 x40_3).f1)
                ·rw [if_pos c57] at H
                 have c57b0 : decide (0 ≤ ((rd_T39 l0_1 x40_3).f1)) = true := decide_eq_true c57
                 clear c57
                 by_cases c58 : ((rd_T39 l0_1 x40_3).f1) < (x133001_3.length : Int)
                 ·rw [if_pos c58] at H
                  have c58b0 : decide (((rd_T39 l0_1 x40_3).f1) < (x133001_3.length : Int)) = true := decide_eq_true c58
                  clear c58
                  obtain ⟨bq59, hbq59⟩ : ∃ b_ : Bool, b_ = (rdOf false x133001_3 ((rd_T39 l0_1 x40_3).f1)) := ⟨_, rfl⟩
                  replace H : (if (bq59 = true) then (if ((rd_T39 l0_1 x40_3).f0) < (x133000_3.length : Int) then (if ((rd_T39 l0_1 x40_3).f1) < (x133000_3.length : Int) then (diffs_grow.j3 k3 l0_1 x10_3 x40_3 l0_1 (l0_1.length : Int) x40_3 (decide ((wrap64 ((rd x133000_3 ((rd_T39 l0_1 x40_3).f0)) + ((rd_T39 l0_1 x40_3).f2))) < (rd x133000_3 ((rd_T39 l0_1 x40_3).f1)))) x133000_3 x133001_3 x133002_3 ((rd_T39 l0_1 x40_3).f0) ((rd_T39 l0_1 x40_3).f1) ((rd_T39 l0_1 x40_3).f2)) else (none)) else (none)) else (diffs_grow.j3 k3 l0_1 x10_3 x40_3 l0_1 (l0_1.length : Int) x40_3 true x133000_3 x133001_3 x133002_3 ((rd_T39 l0_1 x40_3).f0) ((rd_T39 l0_1 x40_3).f1) ((rd_T39 l0_1 x40_3).f2))) = some (r1, r2, r3, r4) := by rw [← hbq59] at H; exact H
                  have Nbq59 := Aside0.mk hbq59
                  clear hbq59
                  by_cases c60 : (bq59 = true)
                  ·subst c60
                   have H1 : (if ((rd_T39 l0_1 x40_3).f0) < (x133000_3.length : Int) then (if ((rd_T39 l0_1 x40_3).f1) < (x133000_3.length : Int) then (diffs_grow.j3 k3 l0_1 x10_3 x40_3 l0_1 (l0_1.length : Int) x40_3 (decide ((wrap64 ((rd x133000_3 ((rd_T39 l0_1 x40_3).f0)) + ((rd_T39 l0_1 x40_3).f2))) < (rd x133000_3 ((rd_T39 l0_1 x40_3).f1)))) x133000_3 x133001_3 x133002_3 ((rd_T39 l0_1 x40_3).f0) ((rd_T39 l0_1 x40_3).f1) ((rd_T39 l0_1 x40_3).f2)) else (none)) else (none)) = some (r1, r2, r3, r4) := by rw [if_pos rfl] at H; exact H
                   clear H
                   have H := H1
                   clear H1
                   by_cases c61 : ((rd_T39 l0_1 x40_3).f0) < (x133000_3.length : Int)
                   ·rw [if_pos c61] at H
                    have c61b0 : decide (((rd_T39 l0_1 x40_3).f0) < (x133000_3.length : Int)) = true := decide_eq_true c61
                    clear c61
                    by_cases c62 : ((rd_T39 l0_1 x40_3).f1) < (x133000_3.length : Int)
                    ·rw [if_pos c62] at H
                     have c62b0 : decide (((rd_T39 l0_1 x40_3).f1) < (x133000_3.length : Int)) = true := decide_eq_true c62
                     clear c62
                     have H' := Aside0.mk H
                     clear H
                     try go_wp2
                     have n0_ : Aside0 (Kd.R (Kd.int .i64) 3 (((w49.setCell ⟨gb136, 0, none⟩ (.int .i64 ((rd_T39 l0_1 x40_3).f0))).setCell ⟨gb136, 1, none⟩ (.int .i64 ((rd_T39 l0_1 x40_3).f1))).setCell ⟨gb136, 2, none⟩ (.int .i64 ((rd_T39 l0_1 x40_3).f2))) w.heap.size (fun k_ => some k_ ≠ (u133002 : Value).ownBlock) u133000 x133000_3) := ⟨by (with_reducible repeat (first | apply Kd.R_alloc | apply Kd.R_drewN | apply Kd.R_drew)); exact Kd.R_mono (Kd.R_far (p := ⟨gb136, 2, none⟩) (Kd.R_far (p := ⟨gb136, 1, none⟩) (Kd.R_far (p := ⟨gb136, 0, none⟩) (Kd.R_types HO_133000.out BK136.out (by decide)) (fun _ hk => hk.2) (.int .i64 ((rd_T39 l0_1 x40_3).f0))) (fun _ hk => hk.2) (.int .i64 ((rd_T39 l0_1 x40_3).f1))) (fun _ hk => hk.2) (.int .i64 ((rd_T39 l0_1 x40_3).f2))) (fun _ hk => hk.1)⟩
                     have n1_ : Aside0 (Kd.R Kd.bool 4 (((w49.setCell ⟨gb136, 0, none⟩ (.int .i64 ((rd_T39 l0_1 x40_3).f0))).setCell ⟨gb136, 1, none⟩ (.int .i64 ((rd_T39 l0_1 x40_3).f1))).setCell ⟨gb136, 2, none⟩ (.int .i64 ((rd_T39 l0_1 x40_3).f2))) w.heap.size (fun _ => True) u133001 x133001_3) := ⟨by (with_reducible repeat (first | apply Kd.R_alloc | apply Kd.R_drewN | apply Kd.R_drew)); exact Kd.R_mono (Kd.R_far (p := ⟨gb136, 2, none⟩) (Kd.R_far (p := ⟨gb136, 1, none⟩) (Kd.R_far (p := ⟨gb136, 0, none⟩) (Kd.R_types HO_133001.out BK136.out (by decide)) (fun _ hk => hk.2) (.int .i64 ((rd_T39 l0_1 x40_3).f0))) (fun _ hk => hk.2) (.int .i64 ((rd_T39 l0_1 x40_3).f1))) (fun _ hk => hk.2) (.int .i64 ((rd_T39 l0_1 x40_3).f2))) (fun _ hk => trivial)⟩
                     have n2_ : Aside0 (Kd.R (Kd.int .i64) 3 (((w49.setCell ⟨gb136, 0, none⟩ (.int .i64 ((rd_T39 l0_1 x40_3).f0))).setCell ⟨gb136, 1, none⟩ (.int .i64 ((rd_T39 l0_1 x40_3).f1))).setCell ⟨gb136, 2, none⟩ (.int .i64 ((rd_T39 l0_1 x40_3).f2))) w.heap.size (fun k_ => some k_ ≠ (u133000 : Value).ownBlock) u133002 x133002_3) := ⟨by (with_reducible repeat (first | apply Kd.R_alloc | apply Kd.R_drewN | apply Kd.R_drew)); exact Kd.R_mono (Kd.R_far (p := ⟨gb136, 2, none⟩) (Kd.R_far (p := ⟨gb136, 1, none⟩) (Kd.R_far (p := ⟨gb136, 0, none⟩) (Kd.R_types HO_133002.out BK136.out (by decide)) (fun _ hk => hk.2) (.int .i64 ((rd_T39 l0_1 x40_3).f0))) (fun _ hk => hk.2) (.int .i64 ((rd_T39 l0_1 x40_3).f1))) (fun _ hk => hk.2) (.int .i64 ((rd_T39 l0_1 x40_3).f2))) (fun _ hk => hk.1)⟩
                     have n3_ : Aside0 ((((w49.setCell ⟨gb136, 0, none⟩ (.int .i64 ((rd_T39 l0_1 x40_3).f0))).setCell ⟨gb136, 1, none⟩ (.int .i64 ((rd_T39 l0_1 x40_3).f1))).setCell ⟨gb136, 2, none⟩ (.int .i64 ((rd_T39 l0_1 x40_3).f2))).heap[gb116]? = some (.cells #[.slice none 0 0, .slice none 0 0, .slice none 0 0] 88 (0, 0))) := ⟨by (with_reducible repeat (first | refine blk_drewN ?_ _ | refine blk_drew ?_ | refine blk_alloc ?_ _)); refine blk_far ?_ NB116_136.out _; (with_reducible repeat (first | refine blk_drewN ?_ _ | refine blk_drew ?_ | refine blk_alloc ?_ _)); refine blk_far ?_ NB116_136.out _; (with_reducible repeat (first | refine blk_drewN ?_ _ | refine blk_drew ?_ | refine blk_alloc ?_ _)); refine blk_far ?_ NB116_136.out _; (with_reducible repeat (first | refine blk_drewN ?_ _ | refine blk_drew ?_ | refine blk_alloc ?_ _)); exact BK116.out⟩
                     have n4_ : Aside0 ((((w49.setCell ⟨gb136, 0, none⟩ (.int .i64 ((rd_T39 l0_1 x40_3).f0))).setCell ⟨gb136, 1, none⟩ (.int .i64 ((rd_T39 l0_1 x40_3).f1))).setCell ⟨gb136, 2, none⟩ (.int .i64 ((rd_T39 l0_1 x40_3).f2))).heap[gb132]? = some (.cells #[u133000, u133001, u133002] 88 (0, 0))) := ⟨by (with_reducible repeat (first | refine blk_drewN ?_ _ | refine blk_drew ?_ | refine blk_alloc ?_ _)); refine blk_far ?_ NB132_136.out _; (with_reducible repeat (first | refine blk_drewN ?_ _ | refine blk_drew ?_ | refine blk_alloc ?_ _)); refine blk_far ?_ NB132_136.out _; (with_reducible repeat (first | refine blk_drewN ?_ _ | refine blk_drew ?_ | refine blk_alloc ?_ _)); refine blk_far ?_ NB132_136.out _; (with_reducible repeat (first | refine blk_drewN ?_ _ | refine blk_drew ?_ | refine blk_alloc ?_ _)); exact BK132.out⟩
                     have n5_ : Aside0 ((((w49.setCell ⟨gb136, 0, none⟩ (.int .i64 ((rd_T39 l0_1 x40_3).f0))).setCell ⟨gb136, 1, none⟩ (.int .i64 ((rd_T39 l0_1 x40_3).f1))).setCell ⟨gb136, 2, none⟩ (.int .i64 ((rd_T39 l0_1 x40_3).f2))).heap[gb136]? = some (.cells #[.int .i64 ((rd_T39 l0_1 x40_3).f0), .int .i64 ((rd_T39 l0_1 x40_3).f1), .int .i64 ((rd_T39 l0_1 x40_3).f2)] 39 (0, 0))) := ⟨by (with_reducible repeat (first | refine blk_drewN ?_ _ | refine blk_drew ?_ | refine blk_alloc ?_ _)); refine blk_put (cs := #[.int .i64 ((rd_T39 l0_1 x40_3).f0), .int .i64 ((rd_T39 l0_1 x40_3).f1), .int .i64 0]) ?_ 2 _ rfl; (with_reducible repeat (first | refine blk_drewN ?_ _ | refine blk_drew ?_ | refine blk_alloc ?_ _)); refine blk_put (cs := #[.int .i64 ((rd_T39 l0_1 x40_3).f0), .int .i64 0, .int .i64 0]) ?_ 1 _ rfl; (with_reducible repeat (first | refine blk_drewN ?_ _ | refine blk_drew ?_ | refine blk_alloc ?_ _)); refine blk_put (cs := #[.int .i64 0, .int .i64 0, .int .i64 0]) ?_ 0 _ rfl; (with_reducible repeat (first | refine blk_drewN ?_ _ | refine blk_drew ?_ | refine blk_alloc ?_ _)); exact BK136.out⟩
                     have n6_ : Aside0 (Below w.heap.size w (((w49.setCell ⟨gb136, 0, none⟩ (.int .i64 ((rd_T39 l0_1 x40_3).f0))).setCell ⟨gb136, 1, none⟩ (.int .i64 ((rd_T39 l0_1 x40_3).f1))).setCell ⟨gb136, 2, none⟩ (.int .i64 ((rd_T39 l0_1 x40_3).f2)))) := ⟨by repeat (first | (with_reducible first | exact HB.out | apply below_alloc | apply pw_below_drewN | apply below_drew1 | refine below_set ?_ GE132.out | refine below_set ?_ GE136.out) | exact HB.out)⟩
                     (try clear HO_133000)
                     (try clear HO_133001)
                     (try clear HO_133002)
                     (try clear BK116)
                     (try clear BK132)
                     (try clear BK136)
                     (try clear HB)
                     generalize (((w49.setCell ⟨gb136, 0, none⟩ (.int .i64 ((rd_T39 l0_1 x40_3).f0))).setCell ⟨gb136, 1, none⟩ (.int .i64 ((rd_T39 l0_1 x40_3).f1))).setCell ⟨gb136, 2, none⟩ (.int .i64 ((rd_T39 l0_1 x40_3).f2))) = w63 at n0_ n1_ n2_ n3_ n4_ n5_ n6_ ⊢
                     have HO_133000 := n0_
                     have HO_133001 := n1_
                     have HO_133002 := n2_
                     have BK116 := n3_
                     have BK132 := n4_
                     have BK136 := n5_
                     have HB := n6_
                     clear n0_ n1_ n2_ n3_ n4_ n5_ n6_
                     obtain ⟨Ao65, co65, eo65⟩ := Kd.R_slice HO_133001.out
                     (first | subst eo65 | (injection eo65 with f1_ f2_ f3_; have f4_ := f1_.symm; have f5_ := f3_.symm; clear f1_ f2_ f3_; subst f4_; subst f5_))
                     have p137 : 0 ≤ (((rd_T39 l0_1 x40_3).f0) : Int) := of_decide_eq_true (by first | (with_reducible assumption) | assumption)
                     have q137 : ((rd_T39 l0_1 x40_3).f0) < (x133001_3.length : Int) := of_decide_eq_true (by first | (with_reducible assumption) | assumption)
                     obtain ⟨ad137, e137, hx137_0⟩ := Kd.at_bool (Kd.R_reads' HO_133001.out).2.2 ((rd_T39 l0_1 x40_3).f0) p137 q137
                     (try rw [← Nbq55.out] at hx137_0)
                     (try rw [← Nbq59.out] at hx137_0)
                     cases e137
                     replace p137 := eq_true p137
                     replace q137 := eq_true q137
                     have p138 : 0 ≤ (((rd_T39 l0_1 x40_3).f1) : Int) := of_decide_eq_true (by first | (with_reducible assumption) | assumption)
                     have q138 : ((rd_T39 l0_1 x40_3).f1) < (x133001_3.length : Int) := of_decide_eq_true (by first | (with_reducible assumption) | assumption)
                     obtain ⟨ad138, e138, hx138_0⟩ := Kd.at_bool (Kd.R_reads' HO_133001.out).2.2 ((rd_T39 l0_1 x40_3).f1) p138 q138
                     (try rw [← Nbq55.out] at hx138_0)
                     (try rw [← Nbq59.out] at hx138_0)
                     obtain rfl : ad137 = ad138 := (by injection e138)
                     replace p138 := eq_true p138
                     replace q138 := eq_true q138
                     obtain ⟨Ao66, co66, eo66⟩ := Kd.R_slice HO_133000.out
                     (first | subst eo66 | (injection eo66 with f1_ f2_ f3_; have f4_ := f1_.symm; have f5_ := f3_.symm; clear f1_ f2_ f3_; subst f4_; subst f5_))
                     have p139 : 0 ≤ (((rd_T39 l0_1 x40_3).f0) : Int) := of_decide_eq_true (by first | (with_reducible assumption) | assumption)
                     have q139 : ((rd_T39 l0_1 x40_3).f0) < (x133000_3.length : Int) := of_decide_eq_true (by first | (with_reducible assumption) | assumption)
                     obtain ⟨ad139, e139, hx139_0⟩ := Kd.at_int (Kd.R_reads' HO_133000.out).2.2 ((rd_T39 l0_1 x40_3).f0) p139 q139
                     cases e139
                     replace p139 := eq_true p139
                     replace q139 := eq_true q139
                     have p140 : 0 ≤ (((rd_T39 l0_1 x40_3).f1) : Int) := of_decide_eq_true (by first | (with_reducible assumption) | assumption)
                     have q140 : ((rd_T39 l0_1 x40_3).f1) < (x133000_3.length : Int) := of_decide_eq_true (by first | (with_reducible assumption) | assumption)
                     obtain ⟨ad140, e140, hx140_0⟩ := Kd.at_int (Kd.R_reads' HO_133000.out).2.2 ((rd_T39 l0_1 x40_3).f1) p140 q140
                     obtain rfl : ad139 = ad140 := (by injection e140)
                     replace p140 := eq_true p140
                     replace q140 := eq_true q140
                     have hz132_0 := blk_cell BK132.out 0
                     have hz132_1 := blk_cell BK132.out 1
                     have hz132_2 := blk_cell BK132.out 2
                     have hz136_0 := blk_cell BK136.out 0
                     have hz136_1 := blk_cell BK136.out 1
                     have hz136_2 := blk_cell BK136.out 2
                     simp only [List.getElem?_toArray, List.getElem?_cons_zero, List.getElem?_cons_succ] at hz132_0 hz132_1 hz132_2 hz136_0 hz136_1 hz136_2
                     go_quiet (fail)
                     try go_wp2
                     go_meet
                     case rel => exact ⟨_, (decide ((wrap64 ((rd x133000_3 ((rd_T39 l0_1 x40_3).f0)) + ((rd_T39 l0_1 x40_3).f2))) < (rd x133000_3 ((rd_T39 l0_1 x40_3).f1)))), (by first | rfl | (simp; done) | (simp [*]; done)), H', ⟨by have := HK1.out; have := HK2.out; have := HK3.out; first | omega | exact Nat.le_refl _⟩, ⟨HO_133000.out⟩, ⟨HO_133001.out⟩, ⟨HO_133002.out⟩, ⟨BK116.out⟩, ⟨BK132.out⟩, ⟨BK136.out⟩, ⟨by repeat (first | (with_reducible first | exact HB.out | apply below_alloc | apply pw_below_drewN | apply below_drew1 | refine below_set ?_ GE132.out | refine below_set ?_ GE136.out) | exact HB.out)⟩⟩
                    ·rw [if_neg c62] at H
                     exact absurd H (by simp)
                   ·rw [if_neg c61] at H
                    exact absurd H (by simp)
                  ·replace c60 := Bool.eq_false_iff.mpr c60
                   subst c60
                   have H1 : (diffs_grow.j3 k3 l0_1 x10_3 x40_3 l0_1 (l0_1.length : Int) x40_3 true x133000_3 x133001_3 x133002_3 ((rd_T39 l0_1 x40_3).f0) ((rd_T39 l0_1 x40_3).f1) ((rd_T39 l0_1 x40_3).f2)) = some (r1, r2, r3, r4) := by rw [if_neg (show ¬ (false = true) by decide)] at H; exact H
                   clear H
                   have H := H1
                   clear H1
                   have H' := Aside0.mk H
                   clear H
                   try go_wp2
                   have n0_ : Aside0 (Kd.R (Kd.int .i64) 3 (((w49.setCell ⟨gb136, 0, none⟩ (.int .i64 ((rd_T39 l0_1 x40_3).f0))).setCell ⟨gb136, 1, none⟩ (.int .i64 ((rd_T39 l0_1 x40_3).f1))).setCell ⟨gb136, 2, none⟩ (.int .i64 ((rd_T39 l0_1 x40_3).f2))) w.heap.size (fun k_ => some k_ ≠ (u133002 : Value).ownBlock) u133000 x133000_3) := ⟨by (with_reducible repeat (first | apply Kd.R_alloc | apply Kd.R_drewN | apply Kd.R_drew)); exact Kd.R_mono (Kd.R_far (p := ⟨gb136, 2, none⟩) (Kd.R_far (p := ⟨gb136, 1, none⟩) (Kd.R_far (p := ⟨gb136, 0, none⟩) (Kd.R_types HO_133000.out BK136.out (by decide)) (fun _ hk => hk.2) (.int .i64 ((rd_T39 l0_1 x40_3).f0))) (fun _ hk => hk.2) (.int .i64 ((rd_T39 l0_1 x40_3).f1))) (fun _ hk => hk.2) (.int .i64 ((rd_T39 l0_1 x40_3).f2))) (fun _ hk => hk.1)⟩
                   have n1_ : Aside0 (Kd.R Kd.bool 4 (((w49.setCell ⟨gb136, 0, none⟩ (.int .i64 ((rd_T39 l0_1 x40_3).f0))).setCell ⟨gb136, 1, none⟩ (.int .i64 ((rd_T39 l0_1 x40_3).f1))).setCell ⟨gb136, 2, none⟩ (.int .i64 ((rd_T39 l0_1 x40_3).f2))) w.heap.size (fun _ => True) u133001 x133001_3) := ⟨by (with_reducible repeat (first | apply Kd.R_alloc | apply Kd.R_drewN | apply Kd.R_drew)); exact Kd.R_mono (Kd.R_far (p := ⟨gb136, 2, none⟩) (Kd.R_far (p := ⟨gb136, 1, none⟩) (Kd.R_far (p := ⟨gb136, 0, none⟩) (Kd.R_types HO_133001.out BK136.out (by decide)) (fun _ hk => hk.2) (.int .i64 ((rd_T39 l0_1 x40_3).f0))) (fun _ hk => hk.2) (.int .i64 ((rd_T39 l0_1 x40_3).f1))) (fun _ hk => hk.2) (.int .i64 ((rd_T39 l0_1 x40_3).f2))) (fun _ hk => trivial)⟩
                   have n2_ : Aside0 (Kd.R (Kd.int .i64) 3 (((w49.setCell ⟨gb136, 0, none⟩ (.int .i64 ((rd_T39 l0_1 x40_3).f0))).setCell ⟨gb136, 1, none⟩ (.int .i64 ((rd_T39 l0_1 x40_3).f1))).setCell ⟨gb136, 2, none⟩ (.int .i64 ((rd_T39 l0_1 x40_3).f2))) w.heap.size (fun k_ => some k_ ≠ (u133000 : Value).ownBlock) u133002 x133002_3) := ⟨by (with_reducible repeat (first | apply Kd.R_alloc | apply Kd.R_drewN | apply Kd.R_drew)); exact Kd.R_mono (Kd.R_far (p := ⟨gb136, 2, none⟩) (Kd.R_far (p := ⟨gb136, 1, none⟩) (Kd.R_far (p := ⟨gb136, 0, none⟩) (Kd.R_types HO_133002.out BK136.out (by decide)) (fun _ hk => hk.2) (.int .i64 ((rd_T39 l0_1 x40_3).f0))) (fun _ hk => hk.2) (.int .i64 ((rd_T39 l0_1 x40_3).f1))) (fun _ hk => hk.2) (.int .i64 ((rd_T39 l0_1 x40_3).f2))) (fun _ hk => hk.1)⟩
                   have n3_ : Aside0 ((((w49.setCell ⟨gb136, 0, none⟩ (.int .i64 ((rd_T39 l0_1 x40_3).f0))).setCell ⟨gb136, 1, none⟩ (.int .i64 ((rd_T39 l0_1 x40_3).f1))).setCell ⟨gb136, 2, none⟩ (.int .i64 ((rd_T39 l0_1 x40_3).f2))).heap[gb116]? = some (.cells #[.slice none 0 0, .slice none 0 0, .slice none 0 0] 88 (0, 0))) := ⟨by (with_reducible repeat (first | refine blk_drewN ?_ _ | refine blk_drew ?_ | refine blk_alloc ?_ _)); refine blk_far ?_ NB116_136.out _; (with_reducible repeat (first | refine blk_drewN ?_ _ | refine blk_drew ?_ | refine blk_alloc ?_ _)); refine blk_far ?_ NB116_136.out _; (with_reducible repeat (first | refine blk_drewN ?_ _ | refine blk_drew ?_ | refine blk_alloc ?_ _)); refine blk_far ?_ NB116_136.out _; (with_reducible repeat (first | refine blk_drewN ?_ _ | refine blk_drew ?_ | refine blk_alloc ?_ _)); exact BK116.out⟩
                   have n4_ : Aside0 ((((w49.setCell ⟨gb136, 0, none⟩ (.int .i64 ((rd_T39 l0_1 x40_3).f0))).setCell ⟨gb136, 1, none⟩ (.int .i64 ((rd_T39 l0_1 x40_3).f1))).setCell ⟨gb136, 2, none⟩ (.int .i64 ((rd_T39 l0_1 x40_3).f2))).heap[gb132]? = some (.cells #[u133000, u133001, u133002] 88 (0, 0))) := ⟨by (with_reducible repeat (first | refine blk_drewN ?_ _ | refine blk_drew ?_ | refine blk_alloc ?_ _)); refine blk_far ?_ NB132_136.out _; (with_reducible repeat (first | refine blk_drewN ?_ _ | refine blk_drew ?_ | refine blk_alloc ?_ _)); refine blk_far ?_ NB132_136.out _; (with_reducible repeat (first | refine blk_drewN ?_ _ | refine blk_drew ?_ | refine blk_alloc ?_ _)); refine blk_far ?_ NB132_136.out _; (with_reducible repeat (first | refine blk_drewN ?_ _ | refine blk_drew ?_ | refine blk_alloc ?_ _)); exact BK132.out⟩
                   have n5_ : Aside0 ((((w49.setCell ⟨gb136, 0, none⟩ (.int .i64 ((rd_T39 l0_1 x40_3).f0))).setCell ⟨gb136, 1, none⟩ (.int .i64 ((rd_T39 l0_1 x40_3).f1))).setCell ⟨gb136, 2, none⟩ (.int .i64 ((rd_T39 l0_1 x40_3).f2))).heap[gb136]? = some (.cells #[.int .i64 ((rd_T39 l0_1 x40_3).f0), .int .i64 ((rd_T39 l0_1 x40_3).f1), .int .i64 ((rd_T39 l0_1 x40_3).f2)] 39 (0, 0))) := ⟨by (with_reducible repeat (first | refine blk_drewN ?_ _ | refine blk_drew ?_ | refine blk_alloc ?_ _)); refine blk_put (cs := #[.int .i64 ((rd_T39 l0_1 x40_3).f0), .int .i64 ((rd_T39 l0_1 x40_3).f1), .int .i64 0]) ?_ 2 _ rfl; (with_reducible repeat (first | refine blk_drewN ?_ _ | refine blk_drew ?_ | refine blk_alloc ?_ _)); refine blk_put (cs := #[.int .i64 ((rd_T39 l0_1 x40_3).f0), .int .i64 0, .int .i64 0]) ?_ 1 _ rfl; (with_reducible repeat (first | refine blk_drewN ?_ _ | refine blk_drew ?_ | refine blk_alloc ?_ _)); refine blk_put (cs := #[.int .i64 0, .int .i64 0, .int .i64 0]) ?_ 0 _ rfl; (with_reducible repeat (first | refine blk_drewN ?_ _ | refine blk_drew ?_ | refine blk_alloc ?_ _)); exact BK136.out⟩
                   have n6_ : Aside0 (Below w.heap.size w (((w49.setCell ⟨gb136, 0, none⟩ (.int .i64 ((rd_T39 l0_1 x40_3).f0))).setCell ⟨gb136, 1, none⟩ (.int .i64 ((rd_T39 l0_1 x40_3).f1))).setCell ⟨gb136, 2, none⟩ (.int .i64 ((rd_T39 l0_1 x40_3).f2)))) := ⟨by repeat (first | (with_reducible first | exact HB.out | apply below_alloc | apply pw_below_drewN | apply below_drew1 | refine below_set ?_ GE132.out | refine below_set ?_ GE136.out) | exact HB.out)⟩
                   (try clear HO_133000)
                   (try clear HO_133001)
                   (try clear HO_133002)
                   (try clear BK116)
                   (try clear BK132)
                   (try clear BK136)
                   (try clear HB)
                   generalize (((w49.setCell ⟨gb136, 0, none⟩ (.int .i64 ((rd_T39 l0_1 x40_3).f0))).setCell ⟨gb136, 1, none⟩ (.int .i64 ((rd_T39 l0_1 x40_3).f1))).setCell ⟨gb136, 2, none⟩ (.int .i64 ((rd_T39 l0_1 x40_3).f2))) = w67 at n0_ n1_ n2_ n3_ n4_ n5_ n6_ ⊢
                   have HO_133000 := n0_
                   have HO_133001 := n1_
                   have HO_133002 := n2_
                   have BK116 := n3_
                   have BK132 := n4_
                   have BK136 := n5_
                   have HB := n6_
                   clear n0_ n1_ n2_ n3_ n4_ n5_ n6_
                   obtain ⟨Ao69, co69, eo69⟩ := Kd.R_slice HO_133001.out
                   (first | subst eo69 | (injection eo69 with f1_ f2_ f3_; have f4_ := f1_.symm; have f5_ := f3_.symm; clear f1_ f2_ f3_; subst f4_; subst f5_))
                   have p137 : 0 ≤ (((rd_T39 l0_1 x40_3).f0) : Int) := of_decide_eq_true (by first | (with_reducible assumption) | assumption)
                   have q137 : ((rd_T39 l0_1 x40_3).f0) < (x133001_3.length : Int) := of_decide_eq_true (by first | (with_reducible assumption) | assumption)
                   obtain ⟨ad137, e137, hx137_0⟩ := Kd.at_bool (Kd.R_reads' HO_133001.out).2.2 ((rd_T39 l0_1 x40_3).f0) p137 q137
                   (try rw [← Nbq55.out] at hx137_0)
                   (try rw [← Nbq59.out] at hx137_0)
                   cases e137
                   replace p137 := eq_true p137
                   replace q137 := eq_true q137
                   have p138 : 0 ≤ (((rd_T39 l0_1 x40_3).f1) : Int) := of_decide_eq_true (by first | (with_reducible assumption) | assumption)
                   have q138 : ((rd_T39 l0_1 x40_3).f1) < (x133001_3.length : Int) := of_decide_eq_true (by first | (with_reducible assumption) | assumption)
                   obtain ⟨ad138, e138, hx138_0⟩ := Kd.at_bool (Kd.R_reads' HO_133001.out).2.2 ((rd_T39 l0_1 x40_3).f1) p138 q138
                   (try rw [← Nbq55.out] at hx138_0)
                   (try rw [← Nbq59.out] at hx138_0)
                   obtain rfl : ad137 = ad138 := (by injection e138)
                   replace p138 := eq_true p138
                   replace q138 := eq_true q138
                   have hz132_0 := blk_cell BK132.out 0
                   have hz132_1 := blk_cell BK132.out 1
                   have hz132_2 := blk_cell BK132.out 2
                   have hz136_0 := blk_cell BK136.out 0
                   have hz136_1 := blk_cell BK136.out 1
                   have hz136_2 := blk_cell BK136.out 2
                   simp only [List.getElem?_toArray, List.getElem?_cons_zero, List.getElem?_cons_succ] at hz132_0 hz132_1 hz132_2 hz136_0 hz136_1 hz136_2
                   go_quiet (fail)
                   try go_wp2
                   go_meet
                   case rel => exact ⟨_, (true), (by first | rfl | (simp; done) | (simp [*]; done)), H', ⟨by have := HK1.out; have := HK2.out; have := HK3.out; first | omega | exact Nat.le_refl _⟩, ⟨HO_133000.out⟩, ⟨HO_133001.out⟩, ⟨HO_133002.out⟩, ⟨BK116.out⟩, ⟨BK132.out⟩, ⟨BK136.out⟩, ⟨by repeat (first | (with_reducible first | exact HB.out | apply below_alloc | apply pw_below_drewN | apply below_drew1 | refine below_set ?_ GE132.out | refine below_set ?_ GE136.out) | exact HB.out)⟩⟩
                 ·rw [if_neg c58] at H
                  exact absurd H (by simp)
                ·rw [if_neg c57] at H
                 exact absurd H (by simp)
               ·replace c56 := Bool.eq_false_iff.mpr c56
                subst c56
                have H1 : (diffs_grow.j3 k3 l0_1 x10_3 x40_3 l0_1 (l0_1.length : Int) x40_3 false x133000_3 x133001_3 x133002_3 ((rd_T39 l0_1 x40_3).f0) ((rd_T39 l0_1 x40_3).f1) ((rd_T39 l0_1 x40_3).f2)) = some (r1, r2, r3, r4) := by rw [if_neg (show ¬ (false = true) by decide)] at H; exact H
                clear H
                have H := H1
                clear H1
                have H' := Aside0.mk H
                clear H
                try go_wp2
                have n0_ : Aside0 (Kd.R (Kd.int .i64) 3 (((w49.setCell ⟨gb136, 0, none⟩ (.int .i64 ((rd_T39 l0_1 x40_3).f0))).setCell ⟨gb136, 1, none⟩ (.int .i64 ((rd_T39 l0_1 x40_3).f1))).setCell ⟨gb136, 2, none⟩ (.int .i64 ((rd_T39 l0_1 x40_3).f2))) w.heap.size (fun k_ => some k_ ≠ (u133002 : Value).ownBlock) u133000 x133000_3) := ⟨by (with_reducible repeat (first | apply Kd.R_alloc | apply Kd.R_drewN | apply Kd.R_drew)); exact Kd.R_mono (Kd.R_far (p := ⟨gb136, 2, none⟩) (Kd.R_far (p := ⟨gb136, 1, none⟩) (Kd.R_far (p := ⟨gb136, 0, none⟩) (Kd.R_types HO_133000.out BK136.out (by decide)) (fun _ hk => hk.2) (.int .i64 ((rd_T39 l0_1 x40_3).f0))) (fun _ hk => hk.2) (.int .i64 ((rd_T39 l0_1 x40_3).f1))) (fun _ hk => hk.2) (.int .i64 ((rd_T39 l0_1 x40_3).f2))) (fun _ hk => hk.1)⟩
                have n1_ : Aside0 (Kd.R Kd.bool 4 (((w49.setCell ⟨gb136, 0, none⟩ (.int .i64 ((rd_T39 l0_1 x40_3).f0))).setCell ⟨gb136, 1, none⟩ (.int .i64 ((rd_T39 l0_1 x40_3).f1))).setCell ⟨gb136, 2, none⟩ (.int .i64 ((rd_T39 l0_1 x40_3).f2))) w.heap.size (fun _ => True) u133001 x133001_3) := ⟨by (with_reducible repeat (first | apply Kd.R_alloc | apply Kd.R_drewN | apply Kd.R_drew)); exact Kd.R_mono (Kd.R_far (p := ⟨gb136, 2, none⟩) (Kd.R_far (p := ⟨gb136, 1, none⟩) (Kd.R_far (p := ⟨gb136, 0, none⟩) (Kd.R_types HO_133001.out BK136.out (by decide)) (fun _ hk => hk.2) (.int .i64 ((rd_T39 l0_1 x40_3).f0))) (fun _ hk => hk.2) (.int .i64 ((rd_T39 l0_1 x40_3).f1))) (fun _ hk => hk.2) (.int .i64 ((rd_T39 l0_1 x40_3).f2))) (fun _ hk => trivial)⟩
                have n2_ : Aside0 (Kd.R (Kd.int .i64) 3 (((w49.setCell ⟨gb136, 0, none⟩ (.int .i64 ((rd_T39 l0_1 x40_3).f0))).setCell ⟨gb136, 1, none⟩ (.int .i64 ((rd_T39 l0_1 x40_3).f1))).setCell ⟨gb136, 2, none⟩ (.int .i64 ((rd_T39 l0_1 x40_3).f2))) w.heap.size (fun k_ => some k_ ≠ (u133000 : Value).ownBlock) u133002 x133002_3) := ⟨by (with_reducible repeat (first | apply Kd.R_alloc | apply Kd.R_drewN | apply Kd.R_drew)); exact Kd.R_mono (Kd.R_far (p := ⟨gb136, 2, none⟩) (Kd.R_far (p := ⟨gb136, 1, none⟩) (Kd.R_far (p := ⟨gb136, 0, none⟩) (Kd.R_types HO_133002.out BK136.out (by decide)) (fun _ hk => hk.2) (.int .i64 ((rd_T39 l0_1 x40_3).f0))) (fun _ hk => hk.2) (.int .i64 ((rd_T39 l0_1 x40_3).f1))) (fun _ hk => hk.2) (.int .i64 ((rd_T39 l0_1 x40_3).f2))) (fun _ hk => hk.1)⟩
                have n3_ : Aside0 ((((w49.setCell ⟨gb136, 0, none⟩ (.int .i64 ((rd_T39 l0_1 x40_3).f0))).setCell ⟨gb136, 1, none⟩ (.int .i64 ((rd_T39 l0_1 x40_3).f1))).setCell ⟨gb136, 2, none⟩ (.int .i64 ((rd_T39 l0_1 x40_3).f2))).heap[gb116]? = some (.cells #[.slice none 0 0, .slice none 0 0, .slice none 0 0] 88 (0, 0))) := ⟨by (with_reducible repeat (first | refine blk_drewN ?_ _ | refine blk_drew ?_ | refine blk_alloc ?_ _)); refine blk_far ?_ NB116_136.out _; (with_reducible repeat (first | refine blk_drewN ?_ _ | refine blk_drew ?_ | refine blk_alloc ?_ _)); refine blk_far ?_ NB116_136.out _; (with_reducible repeat (first | refine blk_drewN ?_ _ | refine blk_drew ?_ | refine blk_alloc ?_ _)); refine blk_far ?_ NB116_136.out _; (with_reducible repeat (first | refine blk_drewN ?_ _ | refine blk_drew ?_ | refine blk_alloc ?_ _)); exact BK116.out⟩
                have n4_ : Aside0 ((((w49.setCell ⟨gb136, 0, none⟩ (.int .i64 ((rd_T39 l0_1 x40_3).f0))).setCell ⟨gb136, 1, none⟩ (.int .i64 ((rd_T39 l0_1 x40_3).f1))).setCell ⟨gb136, 2, none⟩ (.int .i64 ((rd_T39 l0_1 x40_3).f2))).heap[gb132]? = some (.cells #[u133000, u133001, u133002] 88 (0, 0))) := ⟨by (with_reducible repeat (first | refine blk_drewN ?_ _ | refine blk_drew ?_ | refine blk_alloc ?_ _)); refine blk_far ?_ NB132_136.out _; (with_reducible repeat (first | refine blk_drewN ?_ _ | refine blk_drew ?_ | refine blk_alloc ?_ _)); refine blk_far ?_ NB132_136.out _; (with_reducible repeat (first | refine blk_drewN ?_ _ | refine blk_drew ?_ | refine blk_alloc ?_ _)); refine blk_far ?_ NB132_136.out _; (with_reducible repeat (first | refine blk_drewN ?_ _ | refine blk_drew ?_ | refine blk_alloc ?_ _)); exact BK132.out⟩
                have n5_ : Aside0 ((((w49.setCell ⟨gb136, 0, none⟩ (.int .i64 ((rd_T39 l0_1 x40_3).f0))).setCell ⟨gb136, 1, none⟩ (.int .i64 ((rd_T39 l0_1 x40_3).f1))).setCell ⟨gb136, 2, none⟩ (.int .i64 ((rd_T39 l0_1 x40_3).f2))).heap[gb136]? = some (.cells #[.int .i64 ((rd_T39 l0_1 x40_3).f0), .int .i64 ((rd_T39 l0_1 x40_3).f1), .int .i64 ((rd_T39 l0_1 x40_3).f2)] 39 (0, 0))) := ⟨by (with_reducible repeat (first | refine blk_drewN ?_ _ | refine blk_drew ?_ | refine blk_alloc ?_ _)); refine blk_put (cs := #[.int .i64 ((rd_T39 l0_1 x40_3).f0), .int .i64 ((rd_T39 l0_1 x40_3).f1), .int .i64 0]) ?_ 2 _ rfl; (with_reducible repeat (first | refine blk_drewN ?_ _ | refine blk_drew ?_ | refine blk_alloc ?_ _)); refine blk_put (cs := #[.int .i64 ((rd_T39 l0_1 x40_3).f0), .int .i64 0, .int .i64 0]) ?_ 1 _ rfl; (with_reducible repeat (first | refine blk_drewN ?_ _ | refine blk_drew ?_ | refine blk_alloc ?_ _)); refine blk_put (cs := #[.int .i64 0, .int .i64 0, .int .i64 0]) ?_ 0 _ rfl; (with_reducible repeat (first | refine blk_drewN ?_ _ | refine blk_drew ?_ | refine blk_alloc ?_ _)); exact BK136.out⟩
                have n6_ : Aside0 (Below w.heap.size w (((w49.setCell ⟨gb136, 0, none⟩ (.int .i64 ((rd_T39 l0_1 x40_3).f0))).setCell ⟨gb136, 1, none⟩ (.int .i64 ((rd_T39 l0_1 x40_3).f1))).setCell ⟨gb136, 2, none⟩ (.int .i64 ((rd_T39 l0_1 x40_3).f2)))) := ⟨by repeat (first | (with_reducible first | exact HB.out | apply below_alloc | apply pw_below_drewN | apply below_drew1 | refine below_set ?_ GE132.out | refine below_set ?_ GE136.out) | exact HB.out)⟩
                (try clear HO_133000)
                (try clear HO_133001)
                (try clear HO_133002)
                (try clear BK116)
                (try clear BK132)
                (try clear BK136)
                (try clear HB)
                generalize (((w49.setCell ⟨gb136, 0, none⟩ (.int .i64 ((rd_T39 l0_1 x40_3).f0))).setCell ⟨gb136, 1, none⟩ (.int .i64 ((rd_T39 l0_1 x40_3).f1))).setCell ⟨gb136, 2, none⟩ (.int .i64 ((rd_T39 l0_1 x40_3).f2))) = w70 at n0_ n1_ n2_ n3_ n4_ n5_ n6_ ⊢
                have HO_133000 := n0_
                have HO_133001 := n1_
                have HO_133002 := n2_
                have BK116 := n3_
                have BK132 := n4_
                have BK136 := n5_
                have HB := n6_
                clear n0_ n1_ n2_ n3_ n4_ n5_ n6_
                obtain ⟨Ao72, co72, eo72⟩ := Kd.R_slice HO_133001.out
                (first | subst eo72 | (injection eo72 with f1_ f2_ f3_; have f4_ := f1_.symm; have f5_ := f3_.symm; clear f1_ f2_ f3_; subst f4_; subst f5_))
                have p137 : 0 ≤ (((rd_T39 l0_1 x40_3).f0) : Int) := of_decide_eq_true (by first | (with_reducible assumption) | assumption)
                have q137 : ((rd_T39 l0_1 x40_3).f0) < (x133001_3.length : Int) := of_decide_eq_true (by first | (with_reducible assumption) | assumption)
                obtain ⟨ad137, e137, hx137_0⟩ := Kd.at_bool (Kd.R_reads' HO_133001.out).2.2 ((rd_T39 l0_1 x40_3).f0) p137 q137
                (try rw [← Nbq55.out] at hx137_0)
                cases e137
                replace p137 := eq_true p137
                replace q137 := eq_true q137
                have hz132_0 := blk_cell BK132.out 0
                have hz132_1 := blk_cell BK132.out 1
                have hz132_2 := blk_cell BK132.out 2
                have hz136_0 := blk_cell BK136.out 0
                have hz136_1 := blk_cell BK136.out 1
                have hz136_2 := blk_cell BK136.out 2
                simp only [List.getElem?_toArray, List.getElem?_cons_zero, List.getElem?_cons_succ] at hz132_0 hz132_1 hz132_2 hz136_0 hz136_1 hz136_2
                go_quiet (fail)
                try go_wp2
                go_meet
                case rel => exact ⟨_, (false), (by first | rfl | (simp; done) | (simp [*]; done)), H', ⟨by have := HK1.out; have := HK2.out; have := HK3.out; first | omega | exact Nat.le_refl _⟩, ⟨HO_133000.out⟩, ⟨HO_133001.out⟩, ⟨HO_133002.out⟩, ⟨BK116.out⟩, ⟨BK132.out⟩, ⟨BK136.out⟩, ⟨by repeat (first | (with_reducible first | exact HB.out | apply below_alloc | apply pw_below_drewN | apply below_drew1 | refine below_set ?_ GE132.out | refine below_set ?_ GE136.out) | exact HB.out)⟩⟩
              ·rw [if_neg c54] at H
               exact absurd H (by simp)
             ·rw [if_neg c53] at H
              exact absurd H (by simp)
            case rest =>
             clear HC48
             (try clear p1); (try clear q1); (try clear hx1); (try clear p2); (try clear c5); (try clear q5); (try clear c6); (try clear p6); (try clear p13); (try clear q13); (try clear hx13); (try clear c53); (try clear c54); (try clear q55); (try clear c56); (try clear c57); (try clear c58); (try clear q59); (try clear c60); (try clear c61); (try clear c62); (try clear p64); (try clear hx137_0); (try clear hx138_0); (try clear p137); (try clear p138); (try clear q137); (try clear q138)
             obtain ⟨kq, x77_47, rfl, HA, HJ47, HO_133000, HO_133001, HO_133002, BK116, BK132, BK136, HB⟩ := hcut
             cases kq with
             | zero => exact absurd HA.out (by simp [diffs_grow.j3])
             | succ kj47 =>
              have H := HA.out
              clear HA
              simp only [diffs_grow.j3] at H
              by_cases c73 : x77_47 = true
              ·subst c73
               have H1 : (if 0 ≤ ((rd_T39 l0_1 x40_3).f0) then (if ((rd_T39 l0_1 x40_3).f0) < (x133000_3.length : Int) then (if 0 ≤ ((rd_T39 l0_1 x40_3).f1) then (if ((rd_T39 l0_1 x40_3).f1) < (x133000_3.length : Int) then (if ((rd_T39 l0_1 x40_3).f1) < (x133001_3.length : Int) then (if ((rd_T39 l0_1 x40_3).f1) < (x133002_3.length : Int) then (diffs_grow.l2 kj47 l0_1 ((rd_T39 l0_1 x40_3).f1) l0_1 (l0_1.length : Int) (wrap64 (x40_3 + 1)) (x133000_3.set (((rd_T39 l0_1 x40_3).f1) : Int).toNat (wrap64 ((rd x133000_3 ((rd_T39 l0_1 x40_3).f0)) + ((rd_T39 l0_1 x40_3).f2)))) (x133001_3.set (((rd_T39 l0_1 x40_3).f1) : Int).toNat true) (x133002_3.set (((rd_T39 l0_1 x40_3).f1) : Int).toNat x40_3)) else (none)) else (none)) else (none)) else (none)) else (none)) else (none)) = some (r1, r2, r3, r4) := by rw [if_pos rfl] at H; exact H
               clear H
               have H := H1
               clear H1
               by_cases c74 : 0 ≤ ((rd_T39 l0_1 x40_3).f0)
               ·rw [if_pos c74] at H
                have c74b0 : decide (0 ≤ ((rd_T39 l0_1 x40_3).f0)) = true := decide_eq_true c74
                clear c74
                by_cases c75 : ((rd_T39 l0_1 x40_3).f0) < (x133000_3.length : Int)
                ·rw [if_pos c75] at H
                 have c75b0 : decide (((rd_T39 l0_1 x40_3).f0) < (x133000_3.length : Int)) = true := decide_eq_true c75
                 clear c75
                 by_cases c76 : 0 ≤ ((rd_T39 l0_1 x40_3).f1)
                 ·rw [if_pos c76] at H
                  have c76b0 : decide (0 ≤ ((rd_T39 l0_1 x40_3).f1)) = true := decide_eq_true c76
                  clear c76
                  by_cases c77 : ((rd_T39 l0_1 x40_3).f1) < (x133000_3.length : Int)
                  ·rw [if_pos c77] at H
                   have c77b0 : decide (((rd_T39 l0_1 x40_3).f1) < (x133000_3.length : Int)) = true := decide_eq_true c77
                   clear c77
                   obtain ⟨y142, hy142⟩ : ∃ y_ : List Int, y_ = (x133000_3.set (((rd_T39 l0_1 x40_3).f1) : Int).toNat (wrap64 ((rd x133000_3 ((rd_T39 l0_1 x40_3).f0)) + ((rd_T39 l0_1 x40_3).f2)))) := ⟨_, rfl⟩
                   replace H : (if ((rd_T39 l0_1 x40_3).f1) < (x133001_3.length : Int) then (if ((rd_T39 l0_1 x40_3).f1) < (x133002_3.length : Int) then (diffs_grow.l2 kj47 l0_1 ((rd_T39 l0_1 x40_3).f1) l0_1 (l0_1.length : Int) (wrap64 (x40_3 + 1)) y142 (x133001_3.set (((rd_T39 l0_1 x40_3).f1) : Int).toNat true) (x133002_3.set (((rd_T39 l0_1 x40_3).f1) : Int).toNat x40_3)) else (none)) else (none)) = some (r1, r2, r3, r4) := by first | (rw [hy142]; with_reducible exact H) | (have H2_ := (Option.bind_some _ _).symm.trans H; rw [hy142]; with_reducible exact H2_) | (have H2_ := (Option.bind_some _ _).symm.trans H; with_reducible exact H2_) | with_reducible exact H | (rw [hy142]; exact H) | exact H
                   have Ny142 := Aside0.mk hy142
                   clear hy142
                   by_cases c79 : ((rd_T39 l0_1 x40_3).f1) < (x133001_3.length : Int)
                   ·rw [if_pos c79] at H
                    have c79b0 : decide (((rd_T39 l0_1 x40_3).f1) < (x133001_3.length : Int)) = true := decide_eq_true c79
                    clear c79
                    obtain ⟨y143, hy143⟩ : ∃ y_ : List Bool, y_ = (x133001_3.set (((rd_T39 l0_1 x40_3).f1) : Int).toNat true) := ⟨_, rfl⟩
                    replace H : (if ((rd_T39 l0_1 x40_3).f1) < (x133002_3.length : Int) then (diffs_grow.l2 kj47 l0_1 ((rd_T39 l0_1 x40_3).f1) l0_1 (l0_1.length : Int) (wrap64 (x40_3 + 1)) y142 y143 (x133002_3.set (((rd_T39 l0_1 x40_3).f1) : Int).toNat x40_3)) else (none)) = some (r1, r2, r3, r4) := by first | (rw [hy143]; with_reducible exact H) | (have H2_ := (Option.bind_some _ _).symm.trans H; rw [hy143]; with_reducible exact H2_) | (have H2_ := (Option.bind_some _ _).symm.trans H; with_reducible exact H2_) | with_reducible exact H | (rw [hy143]; exact H) | exact H
                    have Ny143 := Aside0.mk hy143
                    clear hy143
                    by_cases c81 : ((rd_T39 l0_1 x40_3).f1) < (x133002_3.length : Int)
                    ·rw [if_pos c81] at H
                     have c81b0 : decide (((rd_T39 l0_1 x40_3).f1) < (x133002_3.length : Int)) = true := decide_eq_true c81
                     clear c81
                     obtain ⟨y144, hy144⟩ : ∃ y_ : List Int, y_ = (x133002_3.set (((rd_T39 l0_1 x40_3).f1) : Int).toNat x40_3) := ⟨_, rfl⟩
                     replace H : (diffs_grow.l2 kj47 l0_1 ((rd_T39 l0_1 x40_3).f1) l0_1 (l0_1.length : Int) (wrap64 (x40_3 + 1)) y142 y143 y144) = some (r1, r2, r3, r4) := by first | (rw [hy144]; with_reducible exact H) | (have H2_ := (Option.bind_some _ _).symm.trans H; rw [hy144]; with_reducible exact H2_) | (have H2_ := (Option.bind_some _ _).symm.trans H; with_reducible exact H2_) | with_reducible exact H | (rw [hy144]; exact H) | exact H
                     have Ny144 := Aside0.mk hy144
                     clear hy144
                     have H' := Aside0.mk H
                     clear H
                     try go_wp2
                     replace HO_133000 := Aside0.mk (Kd.R_drew HO_133000.out)
                     replace HO_133001 := Aside0.mk (Kd.R_drew HO_133001.out)
                     replace HO_133002 := Aside0.mk (Kd.R_drew HO_133002.out)
                     replace BK116 := Aside0.mk (blk_drew BK116.out)
                     replace BK132 := Aside0.mk (blk_drew BK132.out)
                     replace BK136 := Aside0.mk (blk_drew BK136.out)
                     replace HB := Aside0.mk (below_drew1 HB.out)
                     obtain ⟨Ao84, co84, eo84⟩ := Kd.R_slice HO_133000.out
                     (first | subst eo84 | (injection eo84 with f1_ f2_ f3_; have f4_ := f1_.symm; have f5_ := f3_.symm; clear f1_ f2_ f3_; subst f4_; subst f5_))
                     have p141 : 0 ≤ (((rd_T39 l0_1 x40_3).f0) : Int) := of_decide_eq_true (by first | (with_reducible assumption) | assumption)
                     have q141 : ((rd_T39 l0_1 x40_3).f0) < (x133000_3.length : Int) := of_decide_eq_true (by first | (with_reducible assumption) | assumption)
                     obtain ⟨ad141, e141, hx141_0⟩ := Kd.at_int (Kd.R_reads' HO_133000.out).2.2 ((rd_T39 l0_1 x40_3).f0) p141 q141
                     cases e141
                     replace p141 := eq_true p141
                     replace q141 := eq_true q141
                     have p78 : 0 ≤ (((rd_T39 l0_1 x40_3).f1) : Int) := of_decide_eq_true (by first | (with_reducible assumption) | assumption)
                     have q78 : (((rd_T39 l0_1 x40_3).f1) : Int) < ((x133000_3.length : Int) : Int) := of_decide_eq_true (by first | (with_reducible assumption) | assumption)
                     obtain ⟨go78, co78, eo78, gb78, gl78, cl78, HG78⟩ := Kd.R_form HO_133000.out (by omega)
                     (first | cases eo78 | (injection eo78 with ea_ en_ ec_; (first | subst ea_ | (injection ea_ with ea_; subst ea_)); subst ec_; clear en_))
                     have GB78 := Aside0.mk gb78
                     have GG78 := Aside0.mk HG78
                     clear gb78 gl78 HG78
                     (first | simp only [add_plain] at hx141_0 | skip)
                     obtain ⟨hx78_0, hf78_0⟩ := Kd.R_celln 0 HO_133000.out (((rd_T39 l0_1 x40_3).f1) : Int) p78 q78
                     replace p78 := eq_true p78
                     replace q78 := eq_true q78
                     have HP85 := Kd.R_putn HO_133000.out (((rd_T39 l0_1 x40_3).f1) : Int) (wrap64 ((rd x133000_3 ((rd_T39 l0_1 x40_3).f0)) + ((rd_T39 l0_1 x40_3).f2)))
                     rw [← Ny142.out] at HP85
                     have HQ85 := Aside0.mk HP85
                     clear HP85
                     have p80 : 0 ≤ (((rd_T39 l0_1 x40_3).f1) : Int) := of_decide_eq_true (by first | (with_reducible assumption) | assumption)
                     have q80 : (((rd_T39 l0_1 x40_3).f1) : Int) < ((x133001_3.length : Int) : Int) := of_decide_eq_true (by first | (with_reducible assumption) | assumption)
                     obtain ⟨go80, co80, eo80, gb80, gl80, cl80, HG80⟩ := Kd.R_form HO_133001.out (by omega)
                     subst eo80
                     have q82 : (((rd_T39 l0_1 x40_3).f1) : Int) < ((x133002_3.length : Int) : Int) := of_decide_eq_true (by first | (with_reducible assumption) | assumption)
                     obtain ⟨go82, co82, eo82, gb82, gl82, cl82, HG82⟩ := Kd.R_form HO_133002.out (by omega)
                     subst eo82
                     have GB80 := Aside0.mk gb80
                     have GB82 := Aside0.mk gb82
                     have GG80 := Aside0.mk HG80
                     have GG82 := Aside0.mk HG82
                     clear gb80 gl80 HG80 gb82 gl82 HG82
                     replace p80 := eq_true p80
                     replace q80 := eq_true q80
                     replace q82 := eq_true q82
                     refine start_ (n := 28) (S := fun w' => w'.cell? ⟨gb132, 0, none⟩ = some (.slice (some ⟨go78, 0, none⟩) x133000_3.length co84) ∧ w'.cell? ⟨gb132, 1, none⟩ = some (.slice (some ⟨go80, 0, none⟩) x133001_3.length co80) ∧ w'.cell? ⟨gb132, 2, none⟩ = some (.slice (some ⟨go82, 0, none⟩) x133002_3.length co82) ∧ w'.cell? ⟨gb136, 0, none⟩ = some (.int .i64 ((rd_T39 l0_1 x40_3).f0)) ∧ w'.cell? ⟨gb136, 1, none⟩ = some (.int .i64 ((rd_T39 l0_1 x40_3).f1)) ∧ w'.cell? ⟨gb136, 2, none⟩ = some (.int .i64 ((rd_T39 l0_1 x40_3).f2))) (ds := []) #[false, false, false, false, false, false, false, false, false, false, false, false, false, false, false, false, false, false, false, false, false, false, false, false, false, false, false, false] (by kernel_rfl) rfl rfl ⟨(blk_cell BK132.out 0).trans rfl, (blk_cell BK132.out 1).trans rfl, (blk_cell BK132.out 2).trans rfl, (blk_cell BK136.out 0).trans rfl, (blk_cell BK136.out 1).trans rfl, (blk_cell BK136.out 2).trans rfl⟩ (fun hHeld => ?_); refine with_tabW diffs_grow.tab14 diffs_grow.bits14 (fun HT_ HW_ => ?_)
                     clear GG78 GG80 GG82 hf78_0 hx78_0
                     generalize wc.drew = w83 at HO_133000 HO_133001 HO_133002 BK116 BK132 BK136 HB HQ85 hx141_0 hHeld ⊢
                     refine pure_ (i := 0) (N := some 78) (v := ?_) (a' := ?_) #[true, false, false, false, false, false, false, false, false, false, false, false, false, false, false, false, false, false, false, false, false, false, false, false, false, false, false, false] rfl rfl (any_of HT_.out (by kernel_rfl)) (fun _ _ _ h => h) (Or.inl ⟨by rfl, ?_⟩) ?_ ?_
                     rotate_left
                     ·intro w'; go_simp; with_reducible rfl
                     rotate_left
                     ·simp only [Act.put, List.setIfInBounds_toArray, List.set_cons_zero, List.set_cons_succ, i64_w]; rfl
                     refine pure_ (i := 2) (N := some 80) (v := ?_) (a' := ?_) #[true, false, true, false, false, false, false, false, false, false, false, false, false, false, false, false, false, false, false, false, false, false, false, false, false, false, false, false] rfl rfl (any_of HT_.out (by kernel_rfl)) (fun _ _ _ h => h) (Or.inl ⟨by rfl, ?_⟩) ?_ ?_
                     rotate_left
                     ·intro w'; go_simp; with_reducible rfl
                     rotate_left
                     ·simp only [Act.put, List.setIfInBounds_toArray, List.set_cons_zero, List.set_cons_succ, i64_w]; rfl
                     refine pure_ (i := 4) (N := some 82) (v := ?_) (a' := ?_) #[true, false, true, false, true, false, false, false, false, false, false, false, false, false, false, false, false, false, false, false, false, false, false, false, false, false, false, false] rfl rfl (any_of HT_.out (by kernel_rfl)) (fun _ _ _ h => h) (Or.inl ⟨by rfl, ?_⟩) ?_ ?_
                     rotate_left
                     ·intro w'; go_simp; with_reducible rfl
                     rotate_left
                     ·simp only [Act.put, List.setIfInBounds_toArray, List.set_cons_zero, List.set_cons_succ, i64_w]; rfl
                     refine pure_ (i := 6) (N := some 84) (v := ?_) (a' := ?_) #[true, false, true, false, true, false, true, false, false, false, false, false, false, false, false, false, false, false, false, false, false, false, false, false, false, false, false, false] rfl rfl (any_of HT_.out (by kernel_rfl)) (fun _ _ _ h => h) (Or.inl ⟨by rfl, ?_⟩) ?_ ?_
                     rotate_left
                     ·intro w'; go_simp; with_reducible rfl
                     rotate_left
                     ·simp only [Act.put, List.setIfInBounds_toArray, List.set_cons_zero, List.set_cons_succ, i64_w]; rfl
                     refine pure_ (i := 8) (N := some 86) (v := ?_) (a' := ?_) #[true, false, true, false, true, false, true, false, true, false, false, false, false, false, false, false, false, false, false, false, false, false, false, false, false, false, false, false] rfl rfl (any_of HT_.out (by kernel_rfl)) (fun _ _ _ h => h) (Or.inl ⟨by rfl, ?_⟩) ?_ ?_
                     rotate_left
                     ·intro w'; go_simp; with_reducible rfl
                     rotate_left
                     ·simp only [Act.put, List.setIfInBounds_toArray, List.set_cons_zero, List.set_cons_succ, i64_w]; rfl
                     refine pure_ (i := 10) (N := some 88) (v := ?_) (a' := ?_) #[true, false, true, false, true, false, true, false, true, false, true, false, false, false, false, false, false, false, false, false, false, false, false, false, false, false, false, false] rfl rfl (any_of HT_.out (by kernel_rfl)) (fun _ _ _ h => h) (Or.inl ⟨by rfl, ?_⟩) ?_ ?_
                     rotate_left
                     ·intro w'; go_simp; with_reducible rfl
                     rotate_left
                     ·simp only [Act.put, List.setIfInBounds_toArray, List.set_cons_zero, List.set_cons_succ, i64_w]; rfl
                     refine pure_ (i := 12) (N := some 90) (v := ?_) (a' := ?_) #[true, false, true, false, true, false, true, false, true, false, true, false, true, false, false, false, false, false, false, false, false, false, false, false, false, false, false, false] rfl rfl (any_of HT_.out (by kernel_rfl)) (fun _ _ _ h => h) (Or.inl ⟨by rfl, ?_⟩) ?_ ?_
                     rotate_left
                     ·intro w'; go_simp; with_reducible rfl
                     rotate_left
                     ·simp only [Act.put, List.setIfInBounds_toArray, List.set_cons_zero, List.set_cons_succ, i64_w]; rfl
                     refine pure_ (i := 14) (N := some 92) (v := ?_) (a' := ?_) #[true, false, true, false, true, false, true, false, true, false, true, false, true, false, true, false, false, false, false, false, false, false, false, false, false, false, false, false] rfl rfl (any_of HT_.out (by kernel_rfl)) (fun _ _ _ h => h) (Or.inl ⟨by rfl, ?_⟩) ?_ ?_
                     rotate_left
                     ·intro w'; go_simp; with_reducible rfl
                     rotate_left
                     ·simp only [Act.put, List.setIfInBounds_toArray, List.set_cons_zero, List.set_cons_succ, i64_w]; rfl
                     refine pure_ (i := 18) (N := some 96) (v := ?_) (a' := ?_) #[true, false, true, false, true, false, true, false, true, false, true, false, true, false, true, false, false, false, true, false, false, false, false, false, false, false, false, false] rfl rfl (any_of HT_.out (by kernel_rfl)) (fun _ _ _ h => h) (Or.inl ⟨by rfl, ?_⟩) ?_ ?_
                     rotate_left
                     ·intro w'; go_simp; with_reducible rfl
                     rotate_left
                     ·simp only [Act.put, List.setIfInBounds_toArray, List.set_cons_zero, List.set_cons_succ, i64_w]; rfl
                     refine pure_ (i := 21) (N := some 99) (v := ?_) (a' := ?_) #[true, false, true, false, true, false, true, false, true, false, true, false, true, false, true, false, false, false, true, false, false, true, false, false, false, false, false, false] rfl rfl (any_of HT_.out (by kernel_rfl)) (fun _ _ _ h => h) (Or.inl ⟨by rfl, ?_⟩) ?_ ?_
                     rotate_left
                     ·intro w'; go_simp; with_reducible rfl
                     rotate_left
                     ·simp only [Act.put, List.setIfInBounds_toArray, List.set_cons_zero, List.set_cons_succ, i64_w]; rfl
                     refine take_ (i := 1) (N := some 79) (v := ?_) (a' := ?_) #[true, true, true, false, true, false, true, false, true, false, true, false, true, false, true, false, false, false, true, false, false, true, false, false, false, false, false, false] rfl rfl (take_ofW HT_.out HW_.out (by kernel_rfl)) (fun _ _ _ h => h) (Or.inl ⟨by rfl, ?_⟩) hHeld ?_ ?_
                     rotate_left
                     ·rintro w' ⟨s0, s1, s2, s3, s4, s5⟩; go_simp; with_reducible rfl
                     rotate_left
                     ·simp only [Act.put, List.setIfInBounds_toArray, List.set_cons_zero, List.set_cons_succ, i64_w]; rfl
                     refine take_ (i := 3) (N := some 81) (v := ?_) (a' := ?_) #[true, true, true, true, true, false, true, false, true, false, true, false, true, false, true, false, false, false, true, false, false, true, false, false, false, false, false, false] rfl rfl (take_ofW HT_.out HW_.out (by kernel_rfl)) (fun _ _ _ h => h) (Or.inl ⟨by rfl, ?_⟩) hHeld ?_ ?_
                     rotate_left
                     ·rintro w' ⟨s0, s1, s2, s3, s4, s5⟩; go_simp; with_reducible rfl
                     rotate_left
                     ·simp only [Act.put, List.setIfInBounds_toArray, List.set_cons_zero, List.set_cons_succ, i64_w]; rfl
                     refine take_ (i := 5) (N := some 83) (v := ?_) (a' := ?_) #[true, true, true, true, true, true, true, false, true, false, true, false, true, false, true, false, false, false, true, false, false, true, false, false, false, false, false, false] rfl rfl (take_ofW HT_.out HW_.out (by kernel_rfl)) (fun _ _ _ h => h) (Or.inl ⟨by rfl, ?_⟩) hHeld ?_ ?_
                     rotate_left
                     ·rintro w' ⟨s0, s1, s2, s3, s4, s5⟩; go_simp; with_reducible rfl
                     rotate_left
                     ·simp only [Act.put, List.setIfInBounds_toArray, List.set_cons_zero, List.set_cons_succ, i64_w]; rfl
                     refine take_ (i := 7) (N := some 85) (v := ?_) (a' := ?_) #[true, true, true, true, true, true, true, true, true, false, true, false, true, false, true, false, false, false, true, false, false, true, false, false, false, false, false, false] rfl rfl (take_ofW HT_.out HW_.out (by kernel_rfl)) (fun _ _ _ h => h) (Or.inl ⟨by rfl, ?_⟩) hHeld ?_ ?_
                     rotate_left
                     ·rintro w' ⟨s0, s1, s2, s3, s4, s5⟩; go_simp; with_reducible rfl
                     rotate_left
                     ·simp only [Act.put, List.setIfInBounds_toArray, List.set_cons_zero, List.set_cons_succ, i64_w]; rfl
                     refine take_ (i := 9) (N := some 87) (v := ?_) (a' := ?_) #[true, true, true, true, true, true, true, true, true, true, true, false, true, false, true, false, false, false, true, false, false, true, false, false, false, false, false, false] rfl rfl (take_ofW HT_.out HW_.out (by kernel_rfl)) (fun _ _ _ h => h) (Or.inl ⟨by rfl, ?_⟩) hHeld ?_ ?_
                     rotate_left
                     ·rintro w' ⟨s0, s1, s2, s3, s4, s5⟩; go_simp; with_reducible rfl
                     rotate_left
                     ·simp only [Act.put, List.setIfInBounds_toArray, List.set_cons_zero, List.set_cons_succ, i64_w]; rfl
                     refine take_ (i := 11) (N := some 89) (v := ?_) (a' := ?_) #[true, true, true, true, true, true, true, true, true, true, true, true, true, false, true, false, false, false, true, false, false, true, false, false, false, false, false, false] rfl rfl (take_ofW HT_.out HW_.out (by kernel_rfl)) (fun _ _ _ h => h) (Or.inl ⟨by rfl, ?_⟩) hHeld ?_ ?_
                     rotate_left
                     ·rintro w' ⟨s0, s1, s2, s3, s4, s5⟩; go_simp; with_reducible rfl
                     rotate_left
                     ·simp only [Act.put, List.setIfInBounds_toArray, List.set_cons_zero, List.set_cons_succ, i64_w]; rfl
                     refine take_ (i := 13) (N := some 91) (v := ?_) (a' := ?_) #[true, true, true, true, true, true, true, true, true, true, true, true, true, true, true, false, false, false, true, false, false, true, false, false, false, false, false, false] rfl rfl (take_ofW HT_.out HW_.out (by kernel_rfl)) (fun _ _ _ h => h) (Or.inl ⟨by rfl, ?_⟩) hHeld ?_ ?_
                     rotate_left
                     ·rintro w' ⟨s0, s1, s2, s3, s4, s5⟩; go_simp; with_reducible rfl
                     rotate_left
                     ·simp only [Act.put, List.setIfInBounds_toArray, List.set_cons_zero, List.set_cons_succ, i64_w]; rfl
                     refine take_ (i := 15) (N := some 93) (v := ?_) (a' := ?_) #[true, true, true, true, true, true, true, true, true, true, true, true, true, true, true, true, false, false, true, false, false, true, false, false, false, false, false, false] rfl rfl (take_ofW HT_.out HW_.out (by kernel_rfl)) (fun _ _ _ h => h) (Or.inl ⟨by rfl, ?_⟩) hHeld ?_ ?_
                     rotate_left
                     ·rintro w' ⟨s0, s1, s2, s3, s4, s5⟩; go_simp; with_reducible rfl
                     rotate_left
                     ·simp only [Act.put, List.setIfInBounds_toArray, List.set_cons_zero, List.set_cons_succ, i64_w]; rfl
                     refine take_ (i := 19) (N := some 97) (v := ?_) (a' := ?_) #[true, true, true, true, true, true, true, true, true, true, true, true, true, true, true, true, false, false, true, true, false, true, false, false, false, false, false, false] rfl rfl (take_ofW HT_.out HW_.out (by kernel_rfl)) (fun _ _ _ h => h) (Or.inl ⟨by rfl, ?_⟩) hHeld ?_ ?_
                     rotate_left
                     ·rintro w' ⟨s0, s1, s2, s3, s4, s5⟩; go_simp; with_reducible rfl
                     rotate_left
                     ·simp only [Act.put, List.setIfInBounds_toArray, List.set_cons_zero, List.set_cons_succ, i64_w]; rfl
                     refine pure_ (i := 16) (N := some 94) (v := ?_) (a' := ?_) #[true, true, true, true, true, true, true, true, true, true, true, true, true, true, true, true, true, false, true, true, false, true, false, false, false, false, false, false] rfl rfl (any_of HT_.out (by kernel_rfl)) (fun _ _ _ h => h) (Or.inl ⟨by rfl, ?_⟩) ?_ ?_
                     rotate_left
                     ·intro w'; go_simp; with_reducible rfl
                     rotate_left
                     ·simp only [Act.put, List.setIfInBounds_toArray, List.set_cons_zero, List.set_cons_succ, i64_w]; rfl
                     refine one_ (i := 17) (N := some 95) #[true, true, true, true, true, true, true, true, true, true, true, true, true, true, true, true, true, true, true, true, false, true, false, false, false, false, false, false] rfl rfl (one_of HT_.out (by kernel_rfl)) (by decide) (fun K hK => ?_)
                     refine value_ (w1 := w83) (v := .int .i64 (rd x133000_3 ((rd_T39 l0_1 x40_3).f0))) (by rfl) rfl ?_ ?_
                     ·first | (go_simp; done) | (go_simp; rfl)
                     refine hK.out _ _ hHeld (fun _ => ?_)
                     clear hK K
                     refine norm_ (a' := ?_) ?_ ?_
                     rotate_left
                     ·show Act.put _ (some 95) _ = _; simp only [Act.put, List.setIfInBounds_toArray, List.set_cons_zero, List.set_cons_succ, i64_w]; rfl
                     refine pure_ (i := 20) (N := some 98) (v := ?_) (a' := ?_) #[true, true, true, true, true, true, true, true, true, true, true, true, true, true, true, true, true, true, true, true, true, true, false, false, false, false, false, false] rfl rfl (any_of HT_.out (by kernel_rfl)) (fun _ _ _ h => h) (Or.inl ⟨by rfl, ?_⟩) ?_ ?_
                     rotate_left
                     ·intro w'; go_simp; with_reducible rfl
                     rotate_left
                     ·simp only [Act.put, List.setIfInBounds_toArray, List.set_cons_zero, List.set_cons_succ, i64_w]; rfl
                     refine pure_ (i := 22) (N := some 100) (v := ?_) (a' := ?_) #[true, true, true, true, true, true, true, true, true, true, true, true, true, true, true, true, true, true, true, true, true, true, true, false, false, false, false, false] rfl rfl (any_of HT_.out (by kernel_rfl)) (fun _ _ _ h => h) (Or.inl ⟨by rfl, ?_⟩) ?_ ?_
                     rotate_left
                     ·intro w'; go_simp; with_reducible rfl
                     rotate_left
                     ·simp only [Act.put, List.setIfInBounds_toArray, List.set_cons_zero, List.set_cons_succ, i64_w]; rfl
                     refine one_ (i := 23) (N := none) #[true, true, true, true, true, true, true, true, true, true, true, true, true, true, true, true, true, true, true, true, true, true, true, true, false, false, false, false] rfl rfl (one_of HT_.out (by kernel_rfl)) (by decide) (fun K hK => ?_)
                     obtain ⟨hxs_, hfs_⟩ := Kd.R_celln 0 HO_133000.out (((rd_T39 l0_1 x40_3).f1) : Int) (of_eq_true p78) (of_eq_true q78)
                     obtain ⟨clz_, hgz_⟩ := Kd.R_typed HO_133000.out go78 rfl
                     refine skip_ (w1 := ?_) (by rfl) rfl ?_ ?_
                     rotate_left
                     ·go_simp
                      rfl
                     have HQS := HQ85
                     clear HQ85 hx141_0
                     have n0_ : Aside0 (Kd.R (Kd.int .i64) 3 (w83.setCell ⟨go78, (((rd_T39 l0_1 x40_3).f1) : Int).toNat, none⟩ (.int .i64 (wrap64 ((rd x133000_3 ((rd_T39 l0_1 x40_3).f0)) + ((rd_T39 l0_1 x40_3).f2))))) w.heap.size (fun k_ => some k_ ≠ ((.slice (some ⟨go82, 0, none⟩) x133002_3.length co82) : Value).ownBlock) (.slice (some ⟨go78, 0, none⟩) x133000_3.length co84) y142) := HQS
                     have n1_ : Aside0 (Kd.R Kd.bool 4 (w83.setCell ⟨go78, (((rd_T39 l0_1 x40_3).f1) : Int).toNat, none⟩ (.int .i64 (wrap64 ((rd x133000_3 ((rd_T39 l0_1 x40_3).f0)) + ((rd_T39 l0_1 x40_3).f2))))) w.heap.size (fun _ => True) (.slice (some ⟨go80, 0, none⟩) x133001_3.length co80) x133001_3) := ⟨Kd.R_mono (Kd.R_far (p := ⟨go78, (((rd_T39 l0_1 x40_3).f1) : Int).toNat, none⟩) (Kd.R_types HO_133001.out hgz_ (by decide)) (fun _ hk => hk.2) _) (fun _ hk => trivial)⟩
                     have n2_ : Aside0 (Kd.R (Kd.int .i64) 3 (w83.setCell ⟨go78, (((rd_T39 l0_1 x40_3).f1) : Int).toNat, none⟩ (.int .i64 (wrap64 ((rd x133000_3 ((rd_T39 l0_1 x40_3).f0)) + ((rd_T39 l0_1 x40_3).f2))))) w.heap.size (fun k_ => some k_ ≠ ((.slice (some ⟨go78, 0, none⟩) x133000_3.length co84) : Value).ownBlock) (.slice (some ⟨go82, 0, none⟩) x133002_3.length co82) x133002_3) := ⟨Kd.R_mono (Kd.R_far (p := ⟨go78, (((rd_T39 l0_1 x40_3).f1) : Int).toNat, none⟩) (Kd.R_mono HO_133002.out (fun k_ hk => (⟨hk, fun e_ => hk (by rw [e_]; rfl)⟩ : _ ∧ k_ ≠ go78))) (fun _ hk => hk.2) _) (fun _ hk => hk.1)⟩
                     have n3_ : Aside0 ((w83.setCell ⟨go78, (((rd_T39 l0_1 x40_3).f1) : Int).toNat, none⟩ (.int .i64 (wrap64 ((rd x133000_3 ((rd_T39 l0_1 x40_3).f0)) + ((rd_T39 l0_1 x40_3).f2))))).heap[gb116]? = some (.cells #[.slice none 0 0, .slice none 0 0, .slice none 0 0] 88 (0, 0))) := ⟨blk_far BK116.out (by have h_ := Kd.R_ne HO_133000.out BK116.out (by decide); intro e_; exact h_ (by rw [e_]; rfl)) _⟩
                     have n4_ : Aside0 ((w83.setCell ⟨go78, (((rd_T39 l0_1 x40_3).f1) : Int).toNat, none⟩ (.int .i64 (wrap64 ((rd x133000_3 ((rd_T39 l0_1 x40_3).f0)) + ((rd_T39 l0_1 x40_3).f2))))).heap[gb132]? = some (.cells #[(.slice (some ⟨go78, 0, none⟩) x133000_3.length co84), (.slice (some ⟨go80, 0, none⟩) x133001_3.length co80), (.slice (some ⟨go82, 0, none⟩) x133002_3.length co82)] 88 (0, 0))) := ⟨blk_far BK132.out (by have h_ := Kd.R_ne HO_133000.out BK132.out (by decide); intro e_; exact h_ (by rw [e_]; rfl)) _⟩
                     have n5_ : Aside0 ((w83.setCell ⟨go78, (((rd_T39 l0_1 x40_3).f1) : Int).toNat, none⟩ (.int .i64 (wrap64 ((rd x133000_3 ((rd_T39 l0_1 x40_3).f0)) + ((rd_T39 l0_1 x40_3).f2))))).heap[gb136]? = some (.cells #[.int .i64 ((rd_T39 l0_1 x40_3).f0), .int .i64 ((rd_T39 l0_1 x40_3).f1), .int .i64 ((rd_T39 l0_1 x40_3).f2)] 39 (0, 0))) := ⟨blk_far BK136.out (by have h_ := Kd.R_ne HO_133000.out BK136.out (by decide); intro e_; exact h_ (by rw [e_]; rfl)) _⟩
                     have n6_ : Aside0 (Below w.heap.size w (w83.setCell ⟨go78, (((rd_T39 l0_1 x40_3).f1) : Int).toNat, none⟩ (.int .i64 (wrap64 ((rd x133000_3 ((rd_T39 l0_1 x40_3).f0)) + ((rd_T39 l0_1 x40_3).f2)))))) := ⟨below_set HB.out GB78.out⟩
                     generalize w83.setCell ⟨go78, (((rd_T39 l0_1 x40_3).f1) : Int).toNat, none⟩ (.int .i64 (wrap64 ((rd x133000_3 ((rd_T39 l0_1 x40_3).f0)) + ((rd_T39 l0_1 x40_3).f2)))) = w84 at n0_ n1_ n2_ n3_ n4_ n5_ n6_ ⊢
                     clear HO_133000 HO_133001 HO_133002 BK116 BK132 BK136 HB hHeld hxs_ hfs_ hgz_ clz_ HQS
                     have HO_133000 := n0_
                     have HO_133001 := n1_
                     have HO_133002 := n2_
                     have BK116 := n3_
                     have BK132 := n4_
                     have BK136 := n5_
                     have HB := n6_
                     clear n0_ n1_ n2_ n3_ n4_ n5_ n6_
                     refine hK.out _ _ ⟨(blk_cell BK132.out 0).trans rfl, (blk_cell BK132.out 1).trans rfl, (blk_cell BK132.out 2).trans rfl, (blk_cell BK136.out 0).trans rfl, (blk_cell BK136.out 1).trans rfl, (blk_cell BK136.out 2).trans rfl⟩ (fun hHeld => ?_)
                     clear hK K
                     refine pure_ (i := 24) (N := some 101) (v := ?_) (a' := ?_) #[true, true, true, true, true, true, true, true, true, true, true, true, true, true, true, true, true, true, true, true, true, true, true, true, true, false, false, false] rfl rfl (any_of HT_.out (by kernel_rfl)) (fun _ _ _ h => h) (Or.inl ⟨by rfl, ?_⟩) ?_ ?_
                     rotate_left
                     ·intro w'; go_simp; with_reducible rfl
                     rotate_left
                     ·simp only [Act.put, List.setIfInBounds_toArray, List.set_cons_zero, List.set_cons_succ, i64_w]; rfl
                     refine one_ (i := 25) (N := none) #[true, true, true, true, true, true, true, true, true, true, true, true, true, true, true, true, true, true, true, true, true, true, true, true, true, true, false, false] rfl rfl (one_of HT_.out (by kernel_rfl)) (by decide) (fun K hK => ?_)
                     obtain ⟨hxs_, hfs_⟩ := Kd.R_celln false HO_133001.out (((rd_T39 l0_1 x40_3).f1) : Int) (of_eq_true p80) (of_eq_true q80)
                     obtain ⟨clz_, hgz_⟩ := Kd.R_typed HO_133001.out go80 rfl
                     refine skip_ (w1 := ?_) (by rfl) rfl ?_ ?_
                     rotate_left
                     ·go_simp
                      rfl
                     have HQS := Aside0.mk (Kd.R_putn HO_133001.out (((rd_T39 l0_1 x40_3).f1) : Int) true)
                     rw [← Ny143.out] at HQS
                     have n0_ : Aside0 (Kd.R (Kd.int .i64) 3 (w84.setCell ⟨go80, (((rd_T39 l0_1 x40_3).f1) : Int).toNat, none⟩ (.bool true)) w.heap.size (fun k_ => some k_ ≠ ((.slice (some ⟨go82, 0, none⟩) x133002_3.length co82) : Value).ownBlock) (.slice (some ⟨go78, 0, none⟩) x133000_3.length co84) y142) := ⟨Kd.R_mono (Kd.R_far (p := ⟨go80, (((rd_T39 l0_1 x40_3).f1) : Int).toNat, none⟩) (Kd.R_types HO_133000.out hgz_ (by decide)) (fun _ hk => hk.2) _) (fun _ hk => hk.1)⟩
                     have n1_ : Aside0 (Kd.R Kd.bool 4 (w84.setCell ⟨go80, (((rd_T39 l0_1 x40_3).f1) : Int).toNat, none⟩ (.bool true)) w.heap.size (fun _ => True) (.slice (some ⟨go80, 0, none⟩) x133001_3.length co80) y143) := HQS
                     have n2_ : Aside0 (Kd.R (Kd.int .i64) 3 (w84.setCell ⟨go80, (((rd_T39 l0_1 x40_3).f1) : Int).toNat, none⟩ (.bool true)) w.heap.size (fun k_ => some k_ ≠ ((.slice (some ⟨go78, 0, none⟩) x133000_3.length co84) : Value).ownBlock) (.slice (some ⟨go82, 0, none⟩) x133002_3.length co82) x133002_3) := ⟨Kd.R_mono (Kd.R_far (p := ⟨go80, (((rd_T39 l0_1 x40_3).f1) : Int).toNat, none⟩) (Kd.R_types HO_133002.out hgz_ (by decide)) (fun _ hk => hk.2) _) (fun _ hk => hk.1)⟩
                     have n3_ : Aside0 ((w84.setCell ⟨go80, (((rd_T39 l0_1 x40_3).f1) : Int).toNat, none⟩ (.bool true)).heap[gb116]? = some (.cells #[.slice none 0 0, .slice none 0 0, .slice none 0 0] 88 (0, 0))) := ⟨blk_far BK116.out (by have h_ := Kd.R_ne HO_133001.out BK116.out (by decide); intro e_; exact h_ (by rw [e_]; rfl)) _⟩
                     have n4_ : Aside0 ((w84.setCell ⟨go80, (((rd_T39 l0_1 x40_3).f1) : Int).toNat, none⟩ (.bool true)).heap[gb132]? = some (.cells #[(.slice (some ⟨go78, 0, none⟩) x133000_3.length co84), (.slice (some ⟨go80, 0, none⟩) x133001_3.length co80), (.slice (some ⟨go82, 0, none⟩) x133002_3.length co82)] 88 (0, 0))) := ⟨blk_far BK132.out (by have h_ := Kd.R_ne HO_133001.out BK132.out (by decide); intro e_; exact h_ (by rw [e_]; rfl)) _⟩
                     have n5_ : Aside0 ((w84.setCell ⟨go80, (((rd_T39 l0_1 x40_3).f1) : Int).toNat, none⟩ (.bool true)).heap[gb136]? = some (.cells #[.int .i64 ((rd_T39 l0_1 x40_3).f0), .int .i64 ((rd_T39 l0_1 x40_3).f1), .int .i64 ((rd_T39 l0_1 x40_3).f2)] 39 (0, 0))) := ⟨blk_far BK136.out (by have h_ := Kd.R_ne HO_133001.out BK136.out (by decide); intro e_; exact h_ (by rw [e_]; rfl)) _⟩
                     have n6_ : Aside0 (Below w.heap.size w (w84.setCell ⟨go80, (((rd_T39 l0_1 x40_3).f1) : Int).toNat, none⟩ (.bool true))) := ⟨below_set HB.out GB80.out⟩
                     generalize w84.setCell ⟨go80, (((rd_T39 l0_1 x40_3).f1) : Int).toNat, none⟩ (.bool true) = w85 at n0_ n1_ n2_ n3_ n4_ n5_ n6_ ⊢
                     clear HO_133000 HO_133001 HO_133002 BK116 BK132 BK136 HB hHeld hxs_ hfs_ hgz_ clz_ HQS
                     have HO_133000 := n0_
                     have HO_133001 := n1_
                     have HO_133002 := n2_
                     have BK116 := n3_
                     have BK132 := n4_
                     have BK136 := n5_
                     have HB := n6_
                     clear n0_ n1_ n2_ n3_ n4_ n5_ n6_
                     refine hK.out _ _ ⟨(blk_cell BK132.out 0).trans rfl, (blk_cell BK132.out 1).trans rfl, (blk_cell BK132.out 2).trans rfl, (blk_cell BK136.out 0).trans rfl, (blk_cell BK136.out 1).trans rfl, (blk_cell BK136.out 2).trans rfl⟩ (fun hHeld => ?_)
                     clear hK K
                     refine pure_ (i := 26) (N := some 102) (v := ?_) (a' := ?_) #[true, true, true, true, true, true, true, true, true, true, true, true, true, true, true, true, true, true, true, true, true, true, true, true, true, true, true, false] rfl rfl (any_of HT_.out (by kernel_rfl)) (fun _ _ _ h => h) (Or.inl ⟨by rfl, ?_⟩) ?_ ?_
                     rotate_left
                     ·intro w'; go_simp; with_reducible rfl
                     rotate_left
                     ·simp only [Act.put, List.setIfInBounds_toArray, List.set_cons_zero, List.set_cons_succ, i64_w]; rfl
                     refine one_ (i := 27) (N := none) #[true, true, true, true, true, true, true, true, true, true, true, true, true, true, true, true, true, true, true, true, true, true, true, true, true, true, true, true] rfl rfl (one_of HT_.out (by kernel_rfl)) (by decide) (fun K hK => ?_)
                     obtain ⟨hxs_, hfs_⟩ := Kd.R_celln 0 HO_133002.out (((rd_T39 l0_1 x40_3).f1) : Int) (of_eq_true p80) (of_eq_true q82)
                     obtain ⟨clz_, hgz_⟩ := Kd.R_typed HO_133002.out go82 rfl
                     refine skip_ (w1 := ?_) (by rfl) rfl ?_ ?_
                     rotate_left
                     ·go_simp
                      rfl
                     have HQS := Aside0.mk (Kd.R_putn HO_133002.out (((rd_T39 l0_1 x40_3).f1) : Int) x40_3)
                     rw [← Ny144.out] at HQS
                     have n0_ : Aside0 (Kd.R (Kd.int .i64) 3 (w85.setCell ⟨go82, (((rd_T39 l0_1 x40_3).f1) : Int).toNat, none⟩ (.int .i64 x40_3)) w.heap.size (fun k_ => some k_ ≠ ((.slice (some ⟨go82, 0, none⟩) x133002_3.length co82) : Value).ownBlock) (.slice (some ⟨go78, 0, none⟩) x133000_3.length co84) y142) := ⟨Kd.R_mono (Kd.R_far (p := ⟨go82, (((rd_T39 l0_1 x40_3).f1) : Int).toNat, none⟩) (Kd.R_mono HO_133000.out (fun k_ hk => (⟨hk, fun e_ => hk (by rw [e_]; rfl)⟩ : _ ∧ k_ ≠ go82))) (fun _ hk => hk.2) _) (fun _ hk => hk.1)⟩
                     have n1_ : Aside0 (Kd.R Kd.bool 4 (w85.setCell ⟨go82, (((rd_T39 l0_1 x40_3).f1) : Int).toNat, none⟩ (.int .i64 x40_3)) w.heap.size (fun _ => True) (.slice (some ⟨go80, 0, none⟩) x133001_3.length co80) y143) := ⟨Kd.R_mono (Kd.R_far (p := ⟨go82, (((rd_T39 l0_1 x40_3).f1) : Int).toNat, none⟩) (Kd.R_types HO_133001.out hgz_ (by decide)) (fun _ hk => hk.2) _) (fun _ hk => trivial)⟩
                     have n2_ : Aside0 (Kd.R (Kd.int .i64) 3 (w85.setCell ⟨go82, (((rd_T39 l0_1 x40_3).f1) : Int).toNat, none⟩ (.int .i64 x40_3)) w.heap.size (fun k_ => some k_ ≠ ((.slice (some ⟨go78, 0, none⟩) x133000_3.length co84) : Value).ownBlock) (.slice (some ⟨go82, 0, none⟩) x133002_3.length co82) y144) := HQS
                     have n3_ : Aside0 ((w85.setCell ⟨go82, (((rd_T39 l0_1 x40_3).f1) : Int).toNat, none⟩ (.int .i64 x40_3)).heap[gb116]? = some (.cells #[.slice none 0 0, .slice none 0 0, .slice none 0 0] 88 (0, 0))) := ⟨blk_far BK116.out (by have h_ := Kd.R_ne HO_133002.out BK116.out (by decide); intro e_; exact h_ (by rw [e_]; rfl)) _⟩
                     have n4_ : Aside0 ((w85.setCell ⟨go82, (((rd_T39 l0_1 x40_3).f1) : Int).toNat, none⟩ (.int .i64 x40_3)).heap[gb132]? = some (.cells #[(.slice (some ⟨go78, 0, none⟩) x133000_3.length co84), (.slice (some ⟨go80, 0, none⟩) x133001_3.length co80), (.slice (some ⟨go82, 0, none⟩) x133002_3.length co82)] 88 (0, 0))) := ⟨blk_far BK132.out (by have h_ := Kd.R_ne HO_133002.out BK132.out (by decide); intro e_; exact h_ (by rw [e_]; rfl)) _⟩
                     have n5_ : Aside0 ((w85.setCell ⟨go82, (((rd_T39 l0_1 x40_3).f1) : Int).toNat, none⟩ (.int .i64 x40_3)).heap[gb136]? = some (.cells #[.int .i64 ((rd_T39 l0_1 x40_3).f0), .int .i64 ((rd_T39 l0_1 x40_3).f1), .int .i64 ((rd_T39 l0_1 x40_3).f2)] 39 (0, 0))) := ⟨blk_far BK136.out (by have h_ := Kd.R_ne HO_133002.out BK136.out (by decide); intro e_; exact h_ (by rw [e_]; rfl)) _⟩
                     have n6_ : Aside0 (Below w.heap.size w (w85.setCell ⟨go82, (((rd_T39 l0_1 x40_3).f1) : Int).toNat, none⟩ (.int .i64 x40_3))) := ⟨below_set HB.out GB82.out⟩
                     generalize w85.setCell ⟨go82, (((rd_T39 l0_1 x40_3).f1) : Int).toNat, none⟩ (.int .i64 x40_3) = w86 at n0_ n1_ n2_ n3_ n4_ n5_ n6_ ⊢
                     clear HO_133000 HO_133001 HO_133002 BK116 BK132 BK136 HB hHeld hxs_ hfs_ hgz_ clz_ HQS
                     have HO_133000 := n0_
                     have HO_133001 := n1_
                     have HO_133002 := n2_
                     have BK116 := n3_
                     have BK132 := n4_
                     have BK136 := n5_
                     have HB := n6_
                     clear n0_ n1_ n2_ n3_ n4_ n5_ n6_
                     refine hK.out _ _ ⟨(blk_cell BK132.out 0).trans rfl, (blk_cell BK132.out 1).trans rfl, (blk_cell BK132.out 2).trans rfl, (blk_cell BK136.out 0).trans rfl, (blk_cell BK136.out 1).trans rfl, (blk_cell BK136.out 2).trans rfl⟩ (fun hHeld => ?_)
                     clear hK K
                     refine done_ (done_of HT_.out (by kernel_rfl)) ?_
                     go_wp2
                     go_roundg kj47
                     case measure => have := HK1.out; have := HK2.out; have := HK3.out; have := HJ47.out; omega
                     case rel => exact ⟨(((rd_T39 l0_1 x40_3).f1)), (wrap64 (x40_3 + 1)), (y142), (y143), (y144), (.slice (some ⟨go78, 0, none⟩) x133000_3.length co84), (.slice (some ⟨go80, 0, none⟩) x133001_3.length co80), (.slice (some ⟨go82, 0, none⟩) x133002_3.length co82), (by first | rfl | (simp; done) | (simp [*]; done)), (by first | rfl | (simp; done) | (simp [*]; done)), H', ⟨by have := HK1.out; have := HK2.out; have := HK3.out; have := HJ47.out; omega⟩, ⟨HO_133000.out⟩, ⟨HO_133001.out⟩, ⟨HO_133002.out⟩, ⟨BK116.out⟩, ⟨BK132.out⟩, ⟨by repeat (first | (with_reducible first | exact HB.out | apply below_alloc | apply pw_below_drewN | apply below_drew1 | refine below_set ?_ GE132.out | refine below_set ?_ GE136.out) | exact HB.out)⟩⟩
                    ·rw [if_neg c81] at H
                     exact absurd H (by simp)
                   ·rw [if_neg c79] at H
                    exact absurd H (by simp)
                  ·rw [if_neg c77] at H
                   exact absurd H (by simp)
                 ·rw [if_neg c76] at H
                  exact absurd H (by simp)
                ·rw [if_neg c75] at H
                 exact absurd H (by simp)
               ·rw [if_neg c74] at H
                exact absurd H (by simp)
              ·replace c73 := Bool.eq_false_iff.mpr c73
               subst c73
               have H1 : (diffs_grow.l2 kj47 l0_1 x10_3 l0_1 (l0_1.length : Int) (wrap64 (x40_3 + 1)) x133000_3 x133001_3 x133002_3) = some (r1, r2, r3, r4) := by rw [if_neg (show ¬ (false = true) by decide)] at H; exact H
               clear H
               have H := H1
               clear H1
               have H' := Aside0.mk H
               clear H
               go_wp2
               go_roundg kj47
               case measure => have := HK1.out; have := HK2.out; have := HK3.out; have := HJ47.out; omega
               case rel => exact ⟨(x10_3), (wrap64 (x40_3 + 1)), (x133000_3), (x133001_3), (x133002_3), (u133000), (u133001), (u133002), (by first | rfl | (simp; done) | (simp [*]; done)), (by first | rfl | (simp; done) | (simp [*]; done)), H', ⟨by have := HK1.out; have := HK2.out; have := HK3.out; have := HJ47.out; omega⟩, ⟨HO_133000.out⟩, ⟨HO_133001.out⟩, ⟨HO_133002.out⟩, ⟨BK116.out⟩, ⟨BK132.out⟩, ⟨by repeat (first | (with_reducible first | exact HB.out | apply below_alloc | apply pw_below_drewN | apply below_drew1 | refine below_set ?_ GE132.out | refine below_set ?_ GE136.out) | exact HB.out)⟩⟩
           ·rw [if_neg c47] at H
            exact absurd H (by simp)
          ·rw [if_neg c46] at H
           exact absurd H (by simp)
         ·rw [if_neg c45] at H
          have c45b0 : decide (x40_3 < (l0_1.length : Int)) = false := decide_eq_false c45
          clear c45
          by_cases c94 : x10_3 < 0
          ·rw [if_pos c94] at H
           have c94b0 : decide (x10_3 < 0) = true := decide_eq_true c94
           clear c94
           simp only [Option.some.injEq, Prod.mk.injEq] at H
           obtain ⟨rfl, rfl, rfl, rfl⟩ := H
           have hnb95 := NB132_116.out
           have hnc95 := NB116_132.out
           have hcz96_0 : wr.cell? ⟨gb132, 0, none⟩ = some (u133000) := (blk_cell BK132.out 0).trans rfl
           have hcz96_1 : wr.cell? ⟨gb132, 1, none⟩ = some (u133001) := (blk_cell BK132.out 1).trans rfl
           have hcz96_2 : wr.cell? ⟨gb132, 2, none⟩ = some (u133002) := (blk_cell BK132.out 2).trans rfl
           have hfz96_0 := blk_frozen BK132.out 0
           have hfz96_1 := blk_frozen BK132.out 1
           have hfz96_2 := blk_frozen BK132.out 2
           obtain ⟨Ao97, co97, eo97⟩ := Kd.R_slice HO_133000.out
           subst eo97
           have hcz98_0 : wr.cell? ⟨gb116, 0, none⟩ = some (.slice none 0 0) := (blk_cell BK116.out 0).trans rfl
           have hcz98_1 : wr.cell? ⟨gb116, 1, none⟩ = some (.slice none 0 0) := (blk_cell BK116.out 1).trans rfl
           have hcz98_2 : wr.cell? ⟨gb116, 2, none⟩ = some (.slice none 0 0) := (blk_cell BK116.out 2).trans rfl
           have hfz98_0 := blk_frozen BK116.out 0
           have hfz98_1 := blk_frozen BK116.out 1
           have hfz98_2 := blk_frozen BK116.out 2
           obtain ⟨Ao99, co99, eo99⟩ := Kd.R_slice HO_133001.out
           subst eo99
           obtain ⟨Ao100, co100, eo100⟩ := Kd.R_slice HO_133002.out
           subst eo100
           go_wp2
           simp only [Exit.jump]
           refine bodyPost_ret (results_ct rfl _ _ gb116 88 #[.slice Ao97 x133000_3.length co97, .slice Ao99 x133001_3.length co99, .slice Ao100 x133002_3.length co100] (0, 0) _ rfl (by (with_reducible repeat (first | refine blk_drewN ?_ _ | refine blk_drew ?_ | refine blk_alloc ?_ _)); refine blk_put (cs := #[.slice Ao97 x133000_3.length co97, .slice Ao99 x133001_3.length co99, .slice none 0 0]) ?_ 2 _ rfl; (with_reducible repeat (first | refine blk_drewN ?_ _ | refine blk_drew ?_ | refine blk_alloc ?_ _)); refine blk_put (cs := #[.slice Ao97 x133000_3.length co97, .slice none 0 0, .slice none 0 0]) ?_ 1 _ rfl; (with_reducible repeat (first | refine blk_drewN ?_ _ | refine blk_drew ?_ | refine blk_alloc ?_ _)); refine blk_put (cs := #[.slice none 0 0, .slice none 0 0, .slice none 0 0]) ?_ 0 _ rfl; (with_reducible repeat (first | refine blk_drewN ?_ _ | refine blk_drew ?_ | refine blk_alloc ?_ _)); exact BK116.out) Try.underlying88 rfl (by kernel_rfl)) rfl ?_
           exact ⟨_, _, _, by first | rfl | (simp [errW_none, errW_some] <;> rfl) | (simp [*, errW_none, errW_some] <;> rfl), by refine Kd.R_lower ?_ HBO.out.size; (with_reducible repeat (first | apply Kd.R_alloc | apply Kd.R_drewN | apply Kd.R_drew)); exact Kd.R_mono (Kd.R_far (p := ⟨gb116, 2, none⟩) (Kd.R_far (p := ⟨gb116, 1, none⟩) (Kd.R_far (p := ⟨gb116, 0, none⟩) (Kd.R_types HO_133000.out BK116.out (by decide)) (fun _ hk => hk.2) (.slice Ao97 x133000_3.length co97)) (fun _ hk => hk.2) (.slice Ao99 x133001_3.length co99)) (fun _ hk => hk.2) (.slice Ao100 x133002_3.length co100)) (fun _ hk => hk.1), by refine Kd.R_lower ?_ HBO.out.size; (with_reducible repeat (first | apply Kd.R_alloc | apply Kd.R_drewN | apply Kd.R_drew)); exact Kd.R_mono (Kd.R_far (p := ⟨gb116, 2, none⟩) (Kd.R_far (p := ⟨gb116, 1, none⟩) (Kd.R_far (p := ⟨gb116, 0, none⟩) (Kd.R_types HO_133001.out BK116.out (by decide)) (fun _ hk => hk.2) (.slice Ao97 x133000_3.length co97)) (fun _ hk => hk.2) (.slice Ao99 x133001_3.length co99)) (fun _ hk => hk.2) (.slice Ao100 x133002_3.length co100)) (fun _ hk => trivial), by refine Kd.R_lower ?_ HBO.out.size; (with_reducible repeat (first | apply Kd.R_alloc | apply Kd.R_drewN | apply Kd.R_drew)); exact Kd.R_mono (Kd.R_far (p := ⟨gb116, 2, none⟩) (Kd.R_far (p := ⟨gb116, 1, none⟩) (Kd.R_far (p := ⟨gb116, 0, none⟩) (Kd.R_types HO_133002.out BK116.out (by decide)) (fun _ hk => hk.2) (.slice Ao97 x133000_3.length co97)) (fun _ hk => hk.2) (.slice Ao99 x133001_3.length co99)) (fun _ hk => hk.2) (.slice Ao100 x133002_3.length co100)) (fun _ hk => hk.1), below_set (below_set (below_set (below_then HBO.out HBO.out.size HB.out) GE116O.out) GE116O.out) GE116O.out⟩
          ·rw [if_neg c94] at H
           have c94b0 : decide (x10_3 < 0) = false := decide_eq_false c94
           clear c94
           replace H := Option.bind_eq_some_iff.mp H
           obtain ⟨t145, A1010, H⟩ := H
           replace H : (if t145 ≥ 0 then (some (x133000_3, x133001_3, x133002_3, t145)) else (diffs_grow.l1 k3 l0_1 x133000_3 x133001_3 x133002_3)) = some (r1, r2, r3, r4) := H
           have A101 := Aside0.mk A1010
           clear A1010
           by_cases c102 : t145 ≥ 0
           ·rw [if_pos c102] at H
            have c102b0 : decide (0 ≤ t145) = true := decide_eq_true c102
            clear c102
            simp only [Option.some.injEq, Prod.mk.injEq] at H
            obtain ⟨rfl, rfl, rfl, rfl⟩ := H
            have hnb103 := NB132_116.out
            have hnc103 := NB116_132.out
            have hcz104_0 : wr.cell? ⟨gb132, 0, none⟩ = some (u133000) := (blk_cell BK132.out 0).trans rfl
            have hcz104_1 : wr.cell? ⟨gb132, 1, none⟩ = some (u133001) := (blk_cell BK132.out 1).trans rfl
            have hcz104_2 : wr.cell? ⟨gb132, 2, none⟩ = some (u133002) := (blk_cell BK132.out 2).trans rfl
            have hfz104_0 := blk_frozen BK132.out 0
            have hfz104_1 := blk_frozen BK132.out 1
            have hfz104_2 := blk_frozen BK132.out 2
            obtain ⟨Ao105, co105, eo105⟩ := Kd.R_slice HO_133000.out
            subst eo105
            obtain ⟨Ao106, co106, eo106⟩ := Kd.R_slice HO_133001.out
            subst eo106
            obtain ⟨Ao107, co107, eo107⟩ := Kd.R_slice HO_133002.out
            subst eo107
            go_wp2_with (first | ((with_reducible refine gate_callee (f := 113) rfl ?_); refine goesL_ (some 112) rfl rfl Try.func113 (by kernel_rfl) rfl #[.agg #[.slice Ao105 x133000_3.length co105, .slice Ao106 x133001_3.length co106, .slice Ao107 x133002_3.length co107], .slice A0_1 l0_1.length c0_1, .int .i64 x10_3] rfl (by (try simp only [List.map_toArray, List.map_cons, List.map_nil]); first | done | rfl | (simp only [List.length_drop, List.length_take]; rfl)) ?_; (with_reducible refine (diffs_tree_looped.calls k3 _ _ x133000_3 _ _ x133001_3 _ _ x133002_3 _ _ l0_1 x10_3 t145 _ ?side1 ?side2 ?side3 ?side4 ?side5 ?side6 ?side7 ?side8 A101.out).mono ?_); (case side1 => repeat (first | exact (Kd.R_reads' HO_133000.out).2.2 | (with_reducible refine Kd.C_alloc ?_ _) | (with_reducible refine Kd.C_drewN ?_ _) | (with_reducible refine Kd.C_drew ?_))); (case side2 => exact (Kd.R_reads' HO_133000.out).2.1); (case side3 => repeat (first | exact (Kd.R_reads' HO_133001.out).2.2 | (with_reducible refine Kd.C_alloc ?_ _) | (with_reducible refine Kd.C_drewN ?_ _) | (with_reducible refine Kd.C_drew ?_))); (case side4 => exact (Kd.R_reads' HO_133001.out).2.1); (case side5 => repeat (first | exact (Kd.R_reads' HO_133002.out).2.2 | (with_reducible refine Kd.C_alloc ?_ _) | (with_reducible refine Kd.C_drewN ?_ _) | (with_reducible refine Kd.C_drew ?_))); (case side6 => exact (Kd.R_reads' HO_133002.out).2.1); (case side7 => exact (Kd.C_below HR0_1.out HB.out)); (case side8 => exact HC0_1.out); rintro e w108 ⟨rfl, hb⟩; refine ⟨_, rfl, ?_⟩; replace HO_133000 := Aside0.mk (Kd.R_below HO_133000.out hb); replace HO_133001 := Aside0.mk (Kd.R_below HO_133001.out hb); replace HO_133002 := Aside0.mk (Kd.R_below HO_133002.out hb); replace BK116 := Aside0.mk (blk_below (g := gb116) (o := .cells #[.slice none 0 0, .slice none 0 0, .slice none 0 0] 88 (0, 0)) BK116.out hb); replace BK132 := Aside0.mk (blk_below (g := gb132) (o := .cells #[.slice Ao105 x133000_3.length co105, .slice Ao106 x133001_3.length co106, .slice Ao107 x133002_3.length co107] 88 (0, 0)) BK132.out hb); replace HB := Aside0.mk (below_step (by repeat (first | (with_reducible first | exact HB.out | apply below_alloc | apply pw_below_drewN | apply below_drew1 | refine below_set ?_ GE132.out) | exact HB.out)) hb); (try clear hb); (try clear hb2); (try clear hk); (try clear hi); have hcz109_0 : w108.cell? ⟨gb132, 0, none⟩ = some (.slice Ao105 x133000_3.length co105) := (blk_cell BK132.out 0).trans rfl; have hcz109_1 : w108.cell? ⟨gb132, 1, none⟩ = some (.slice Ao106 x133001_3.length co106) := (blk_cell BK132.out 1).trans rfl; have hcz109_2 : w108.cell? ⟨gb132, 2, none⟩ = some (.slice Ao107 x133002_3.length co107) := (blk_cell BK132.out 2).trans rfl; have hfz109_0 := blk_frozen BK132.out 0; have hfz109_1 := blk_frozen BK132.out 1; have hfz109_2 := blk_frozen BK132.out 2; have hcz110_0 : w108.cell? ⟨gb116, 0, none⟩ = some (.slice none 0 0) := (blk_cell BK116.out 0).trans rfl; have hcz110_1 : w108.cell? ⟨gb116, 1, none⟩ = some (.slice none 0 0) := (blk_cell BK116.out 1).trans rfl; have hcz110_2 : w108.cell? ⟨gb116, 2, none⟩ = some (.slice none 0 0) := (blk_cell BK116.out 2).trans rfl; have hfz110_0 := blk_frozen BK116.out 0; have hfz110_1 := blk_frozen BK116.out 1; have hfz110_2 := blk_frozen BK116.out 2))
            simp only [Exit.jump]
            refine bodyPost_ret (results_ct rfl _ _ gb116 88 #[.slice Ao105 x133000_3.length co105, .slice Ao106 x133001_3.length co106, .slice Ao107 x133002_3.length co107] (0, 0) _ rfl (by (with_reducible repeat (first | refine blk_drewN ?_ _ | refine blk_drew ?_ | refine blk_alloc ?_ _)); refine blk_put (cs := #[.slice Ao105 x133000_3.length co105, .slice Ao106 x133001_3.length co106, .slice none 0 0]) ?_ 2 _ rfl; (with_reducible repeat (first | refine blk_drewN ?_ _ | refine blk_drew ?_ | refine blk_alloc ?_ _)); refine blk_put (cs := #[.slice Ao105 x133000_3.length co105, .slice none 0 0, .slice none 0 0]) ?_ 1 _ rfl; (with_reducible repeat (first | refine blk_drewN ?_ _ | refine blk_drew ?_ | refine blk_alloc ?_ _)); refine blk_put (cs := #[.slice none 0 0, .slice none 0 0, .slice none 0 0]) ?_ 0 _ rfl; (with_reducible repeat (first | refine blk_drewN ?_ _ | refine blk_drew ?_ | refine blk_alloc ?_ _)); exact BK116.out) Try.underlying88 rfl (by kernel_rfl)) rfl ?_
            exact ⟨_, _, _, by first | rfl | (simp [errW_none, errW_some] <;> rfl) | (simp [*, errW_none, errW_some] <;> rfl), by refine Kd.R_lower ?_ HBO.out.size; (with_reducible repeat (first | apply Kd.R_alloc | apply Kd.R_drewN | apply Kd.R_drew)); exact Kd.R_mono (Kd.R_far (p := ⟨gb116, 2, none⟩) (Kd.R_far (p := ⟨gb116, 1, none⟩) (Kd.R_far (p := ⟨gb116, 0, none⟩) (Kd.R_types HO_133000.out BK116.out (by decide)) (fun _ hk => hk.2) (.slice Ao105 x133000_3.length co105)) (fun _ hk => hk.2) (.slice Ao106 x133001_3.length co106)) (fun _ hk => hk.2) (.slice Ao107 x133002_3.length co107)) (fun _ hk => hk.1), by refine Kd.R_lower ?_ HBO.out.size; (with_reducible repeat (first | apply Kd.R_alloc | apply Kd.R_drewN | apply Kd.R_drew)); exact Kd.R_mono (Kd.R_far (p := ⟨gb116, 2, none⟩) (Kd.R_far (p := ⟨gb116, 1, none⟩) (Kd.R_far (p := ⟨gb116, 0, none⟩) (Kd.R_types HO_133001.out BK116.out (by decide)) (fun _ hk => hk.2) (.slice Ao105 x133000_3.length co105)) (fun _ hk => hk.2) (.slice Ao106 x133001_3.length co106)) (fun _ hk => hk.2) (.slice Ao107 x133002_3.length co107)) (fun _ hk => trivial), by refine Kd.R_lower ?_ HBO.out.size; (with_reducible repeat (first | apply Kd.R_alloc | apply Kd.R_drewN | apply Kd.R_drew)); exact Kd.R_mono (Kd.R_far (p := ⟨gb116, 2, none⟩) (Kd.R_far (p := ⟨gb116, 1, none⟩) (Kd.R_far (p := ⟨gb116, 0, none⟩) (Kd.R_types HO_133002.out BK116.out (by decide)) (fun _ hk => hk.2) (.slice Ao105 x133000_3.length co105)) (fun _ hk => hk.2) (.slice Ao106 x133001_3.length co106)) (fun _ hk => hk.2) (.slice Ao107 x133002_3.length co107)) (fun _ hk => hk.1), below_set (below_set (below_set (below_then HBO.out HBO.out.size HB.out) GE116O.out) GE116O.out) GE116O.out⟩
           ·rw [if_neg c102] at H
            have c102b0 : decide (0 ≤ t145) = false := decide_eq_false c102
            clear c102
            have H' := Aside0.mk H
            clear H
            have hnb111 := NB132_116.out
            have hnc111 := NB116_132.out
            have hcz112_0 : wr.cell? ⟨gb132, 0, none⟩ = some (u133000) := (blk_cell BK132.out 0).trans rfl
            have hcz112_1 : wr.cell? ⟨gb132, 1, none⟩ = some (u133001) := (blk_cell BK132.out 1).trans rfl
            have hcz112_2 : wr.cell? ⟨gb132, 2, none⟩ = some (u133002) := (blk_cell BK132.out 2).trans rfl
            have hfz112_0 := blk_frozen BK132.out 0
            have hfz112_1 := blk_frozen BK132.out 1
            have hfz112_2 := blk_frozen BK132.out 2
            obtain ⟨Ao113, co113, eo113⟩ := Kd.R_slice HO_133000.out
            subst eo113
            obtain ⟨Ao114, co114, eo114⟩ := Kd.R_slice HO_133001.out
            subst eo114
            obtain ⟨Ao115, co115, eo115⟩ := Kd.R_slice HO_133002.out
            subst eo115
            go_wp2_with (first | ((with_reducible refine gate_callee (f := 113) rfl ?_); refine goesL_ (some 112) rfl rfl Try.func113 (by kernel_rfl) rfl #[.agg #[.slice Ao113 x133000_3.length co113, .slice Ao114 x133001_3.length co114, .slice Ao115 x133002_3.length co115], .slice A0_1 l0_1.length c0_1, .int .i64 x10_3] rfl (by (try simp only [List.map_toArray, List.map_cons, List.map_nil]); first | done | rfl | (simp only [List.length_drop, List.length_take]; rfl)) ?_; (with_reducible refine (diffs_tree_looped.calls k3 _ _ x133000_3 _ _ x133001_3 _ _ x133002_3 _ _ l0_1 x10_3 t145 _ ?side1 ?side2 ?side3 ?side4 ?side5 ?side6 ?side7 ?side8 A101.out).mono ?_); (case side1 => repeat (first | exact (Kd.R_reads' HO_133000.out).2.2 | (with_reducible refine Kd.C_alloc ?_ _) | (with_reducible refine Kd.C_drewN ?_ _) | (with_reducible refine Kd.C_drew ?_))); (case side2 => exact (Kd.R_reads' HO_133000.out).2.1); (case side3 => repeat (first | exact (Kd.R_reads' HO_133001.out).2.2 | (with_reducible refine Kd.C_alloc ?_ _) | (with_reducible refine Kd.C_drewN ?_ _) | (with_reducible refine Kd.C_drew ?_))); (case side4 => exact (Kd.R_reads' HO_133001.out).2.1); (case side5 => repeat (first | exact (Kd.R_reads' HO_133002.out).2.2 | (with_reducible refine Kd.C_alloc ?_ _) | (with_reducible refine Kd.C_drewN ?_ _) | (with_reducible refine Kd.C_drew ?_))); (case side6 => exact (Kd.R_reads' HO_133002.out).2.1); (case side7 => exact (Kd.C_below HR0_1.out HB.out)); (case side8 => exact HC0_1.out); rintro e w116 ⟨rfl, hb⟩; refine ⟨_, rfl, ?_⟩; replace HO_133000 := Aside0.mk (Kd.R_below HO_133000.out hb); replace HO_133001 := Aside0.mk (Kd.R_below HO_133001.out hb); replace HO_133002 := Aside0.mk (Kd.R_below HO_133002.out hb); replace BK116 := Aside0.mk (blk_below (g := gb116) (o := .cells #[.slice none 0 0, .slice none 0 0, .slice none 0 0] 88 (0, 0)) BK116.out hb); replace BK132 := Aside0.mk (blk_below (g := gb132) (o := .cells #[.slice Ao113 x133000_3.length co113, .slice Ao114 x133001_3.length co114, .slice Ao115 x133002_3.length co115] 88 (0, 0)) BK132.out hb); replace HB := Aside0.mk (below_step (by repeat (first | (with_reducible first | exact HB.out | apply below_alloc | apply pw_below_drewN | apply below_drew1 | refine below_set ?_ GE132.out) | exact HB.out)) hb); (try clear hb); (try clear hb2); (try clear hk); (try clear hi)))
            go_step3
            refine ⟨rfl, k3, by have := HK3.out; omega, ?_⟩
            exact ⟨w, A0_1, c0_1, gb116, gb132, x133000_3, x133001_3, x133002_3, .slice Ao113 x133000_3.length co113, .slice Ao114 x133001_3.length co114, .slice Ao115 x133002_3.length co115, _, _, _, _, _, _, _, _, _, _, _, _, _, _, _, _, _, _, _, _, _, _, _, _, _, _, _, _, _, _, _, _, _, _, _, _, _, _, _, _, _, _, _, _, _, _, _, _, _, _, _, _, _, _, _, _, _, _, _, _, _, _, _, _, _, _, _, _, _, _, _, _, _, _, _, _, _, _, _, _, _, _, _, _, _, _, _, _, _, _, _, _, _, _, _, _, _, _, _, _, _, _, _, _, _, _, _, _, _, _, _, _, rfl, H', HBO, HR0_1, HC0_1, GE116O, GE132, NB116_132, NB132_116, HO_133000, HO_133001, HO_133002, BK116, BK132, HB⟩
     case first =>
      intro hrest
      have hrest_ := Aside0.mk hrest
      clear hrest
      go_wp2_with (refine goesIL_ (some 15) rfl rfl rfl rfl (hmL.out _) hfL.out.1 hfL.out.2.1 hfL.out.2.2 ?_; refine (hL.out _ ?sL).mono ?_; (case sL => repeat (first | (with_reducible first | exact HB.out | apply below_alloc | apply pw_below_drewN | apply below_drew1) | exact HB.out)); rintro e w ⟨A0_1, c0_1, rfl, hlc, hLr, hb⟩; refine ⟨_, rfl, ?_⟩; have HR0_1 := Aside0.mk hLr; have HC0_1 := Aside0.mk hlc; have n0_ := Aside0.mk (blk_below (g := gb116) (o := .cells #[.slice none 0 0, .slice none 0 0, .slice none 0 0] 88 (0, 0)) BK116.out hb); have HBO := Aside0.mk (below_step HB.out hb); have GE116O := GE116; clear BK116 HB GE116 GW116 hlc hLr hb; have BK116 := n0_; have HB := Aside0.mk (Below.refl w.heap.size w); clear n0_)
      replace BK116 := Aside0.mk (blk_drew BK116.out)
      replace HB := Aside0.mk (below_drew1 HB.out)
      refine start_ (n := 13) (S := fun w' => True) (ds := []) #[false, false, false, false, false, false, false, false, false, false, false, false, false] (by kernel_rfl) rfl rfl trivial (fun hHeld => ?_); refine with_tabW diffs_grow.tab2 diffs_grow.bits2 (fun HT_ HW_ => ?_)
      generalize w.drew = w12 at BK116 HB hHeld ⊢
      refine pure_ (i := 0) (N := some 16) (v := ?_) (a' := ?_) #[true, false, false, false, false, false, false, false, false, false, false, false, false] rfl rfl (any_of HT_.out (by kernel_rfl)) (fun _ _ _ h => h) (Or.inl ⟨by rfl, ?_⟩) ?_ ?_
      rotate_left
      ·intro w'; go_simp; with_reducible rfl
      rotate_left
      ·simp only [Act.put, List.setIfInBounds_toArray, List.set_cons_zero, List.set_cons_succ, i64_w]; rfl
      refine pure_ (i := 3) (N := some 19) (v := ?_) (a' := ?_) #[true, false, false, true, false, false, false, false, false, false, false, false, false] rfl rfl (any_of HT_.out (by kernel_rfl)) (fun _ _ _ h => h) (Or.inl ⟨by rfl, ?_⟩) ?_ ?_
      rotate_left
      ·intro w'; go_simp; with_reducible rfl
      rotate_left
      ·simp only [Act.put, List.setIfInBounds_toArray, List.set_cons_zero, List.set_cons_succ, i64_w]; rfl
      refine pure_ (i := 7) (N := some 23) (v := ?_) (a' := ?_) #[true, false, false, true, false, false, false, true, false, false, false, false, false] rfl rfl (any_of HT_.out (by kernel_rfl)) (fun _ _ _ h => h) (Or.inl ⟨by rfl, ?_⟩) ?_ ?_
      rotate_left
      ·intro w'; go_simp; with_reducible rfl
      rotate_left
      ·simp only [Act.put, List.setIfInBounds_toArray, List.set_cons_zero, List.set_cons_succ, i64_w]; rfl
      refine inv_at [1, 2, 4, 5, 6, 8, 9, 10, 11, 12] (fun a0_ b a w' => ∃ (v119 : Value) (v123 : Value) (v126 : Value) (v130 : Value) (gb132 : Nat) (m10_ : Value) (m11_ : Value), a = putSel a0_ b [(1, 17, .int .i64 t117), (2, 18, v119), (4, 20, .int .i64 t121), (5, 21, v123), (6, 22, v126), (8, 24, .int .i64 t128), (9, 25, v130), (10, 26, m10_), (11, 7, m11_)] ∧ (w'.heap[gb116]? = some (.cells #[.slice none 0 0, .slice none 0 0, .slice none 0 0] 88 (0, 0))) ∧ (Below w.heap.size w w') ∧ (b 2 = true → Kd.R (Kd.int .i64) 3 w' w.heap.size (fun _ => True) v119 y118) ∧ (b 5 = true → Kd.R Kd.bool 4 w' w.heap.size (fun _ => True) v123 y122) ∧ (b 6 = true → Kd.R (Kd.int .i64) 3 w' w.heap.size (fun _ => True) v126 y125) ∧ (b 9 = true → Kd.R (Kd.int .i64) 3 w' w.heap.size (fun _ => True) v130 t129) ∧ (b 11 = true → b 12 = false → w'.heap[gb132]? = some (.cells #[.slice none 0 0, .slice none 0 0, .slice none 0 0] 88 (0, 0))) ∧ (b 11 = true → w.heap.size ≤ gb132) ∧ (b 11 = true → w.heap.size ≤ gb132) ∧ (b 11 = true → gb116 ≠ gb132) ∧ (b 11 = true → gb132 ≠ gb116) ∧ (b 12 = true → w'.heap[gb132]? = some (.cells #[v119, v123, v130] 88 (0, 0))) ∧ (b 10 = true → (m10_ : Value) = .agg #[v119, v123, v130]) ∧ (b 11 = true → (m11_ : Value) = .pointer (some ⟨gb132, 0, none⟩)) ∧ (b 2 = true → b 9 = true → ∀ k_, some k_ = v119.ownBlock → some k_ ≠ v130.ownBlock)) HT_.out HW_.out (by kernel_rfl) (by kernel_rfl) ?_ ?_ ?_
      ·exact ⟨.bool false, .bool false, .bool false, .bool false, 0, .bool false, .bool false, by simp only [putSel, Bool.false_eq_true, if_false], BK116.out, HB.out, fun h_ => absurd h_ (by decide), fun h_ => absurd h_ (by decide), fun h_ => absurd h_ (by decide), fun h_ => absurd h_ (by decide), fun h_ => absurd h_ (by decide), fun h_ => absurd h_ (by decide), fun h_ => absurd h_ (by decide), fun h_ => absurd h_ (by decide), fun h_ => absurd h_ (by decide), fun h_ => absurd h_ (by decide), fun h_ => absurd h_ (by decide), fun h_ => absurd h_ (by decide), fun h_ => absurd h_ (by decide)⟩
      ·skip
       clear BK116 HB
       refine steps_cons ?_ ?_
       ·rintro b a w' ⟨v119, v123, v126, v130, gb132, m10_, m11_, ha, Q_BK116, Q_HB, Q_HO120, Q_HO124, Q_HO127, Q_HO131, Q_BK132, Q_GW132, Q_GE132, Q_NB116_132, Q_NB132_116, Q_BK132_e12, Q_X10_, Q_X11_, Q_NA⟩ hb_ hon hoff
        refine ⟨_, rfl, fun K hK => ?_⟩
        have e16 : a.tmps[16]? = some (.iface T gv) := by rw [ha]; exact (putSel_off rfl).trans rfl
        replace ha := Aside0.mk ha
        have BK116 := Aside0.mk Q_BK116
        have HB := Aside0.mk Q_HB
        refine goesI_ hfN.out.1 hfN.out.2.1 hfN.out.2.2 (by rfl) rfl rfl (T := T) (v := gv) (by simp only [Act.eval, Array.getD_eq_getD_getElem?, e16, Option.getD_some]) (hmN.out _) ?_
        have et_ : a0_0 = t117 := Option.some.inj A3.out
        refine (hN.out _ (below_then HBO.out HBO.out.size HB.out)).mono ?_
        rintro e w13 ⟨rfl, hb⟩
        rw [et_]
        clear et_
        refine ⟨_, rfl, ?_⟩
        have n0_ := Aside0.mk (blk_below (g := gb116) (o := .cells #[.slice none 0 0, .slice none 0 0, .slice none 0 0] 88 (0, 0)) BK116.out hb)
        have n1_ := Aside0.mk (below_step (by repeat (first | (with_reducible first | exact HB.out | apply below_alloc | apply pw_below_drewN | apply below_drew1) | exact HB.out)) hb)
        have z_HO127 := fun (h0_ : b 6 = true) => (show Kd.R (Kd.int .i64) 3 w13 w.heap.size (fun _ => True) v126 y125 from by first | exact (Kd.R_below (by (with_reducible repeat (first | apply Kd.R_alloc | apply Kd.R_drewN | apply Kd.R_drew)); exact (Q_HO127 h0_)) hb) | exact Kd.R_mono (Kd.R_below (by (with_reducible repeat (first | apply Kd.R_alloc | apply Kd.R_drewN | apply Kd.R_drew)); exact (Q_HO127 h0_)) hb) (fun _ h_ => by first | trivial | exact h_ | exact h_.1))
        have z_BK132 := fun (h0_ : b 11 = true) (h1_ : b 12 = false) => (show w13.heap[gb132]? = some (.cells #[.slice none 0 0, .slice none 0 0, .slice none 0 0] 88 (0, 0)) from by first | exact (blk_below (g := gb132) (o := .cells #[.slice none 0 0, .slice none 0 0, .slice none 0 0] 88 (0, 0)) (by (with_reducible repeat (first | refine blk_drewN ?_ _ | refine blk_drew ?_ | refine blk_alloc ?_ _)); exact (Q_BK132 h0_ h1_)) hb))
        clear BK116
        clear HB
        have BK116 := n0_
        have HB := n1_
        clear n0_ n1_
        (try clear hb)
        (try clear hb2)
        (try clear hk)
        (try clear hi)
        refine hK.out _ _ ⟨v119, v123, v126, v130, gb132, m10_, m11_, (by rw [ha.out]; exact putSel_upk 0 hb_ rfl rfl rfl), BK116.out, (by repeat (first | (with_reducible first | exact HB.out | apply below_alloc | apply pw_below_drewN | apply below_drew1) | exact HB.out)), fun h0_ => absurd ((hoff 2 (by kernel_rfl)).symm.trans h0_) (by decide), fun h0_ => absurd ((hoff 5 (by kernel_rfl)).symm.trans h0_) (by decide), z_HO127, fun h0_ => absurd ((hoff 9 (by kernel_rfl)).symm.trans h0_) (by decide), z_BK132, Q_GW132, Q_GE132, Q_NB116_132, Q_NB132_116, fun h0_ => absurd ((hoff 12 (by kernel_rfl)).symm.trans h0_) (by decide), fun h0_ => absurd ((hoff 10 (by kernel_rfl)).symm.trans h0_) (by decide), Q_X11_, Q_NA⟩
       refine steps_cons ?_ ?_
       ·rintro b a w' ⟨v119, v123, v126, v130, gb132, m10_, m11_, ha, Q_BK116, Q_HB, Q_HO120, Q_HO124, Q_HO127, Q_HO131, Q_BK132, Q_GW132, Q_GE132, Q_NB116_132, Q_NB132_116, Q_BK132_e12, Q_X10_, Q_X11_, Q_NA⟩ hb_ hon hoff
        refine ⟨_, rfl, fun K hK => ?_⟩
        have e17 : a.tmps[17]? = some (.int .i64 t117) := by rw [ha]; exact putSel_on (e := (1, 17, .int .i64 t117)) 0 rfl rfl (hon 1 (by kernel_rfl)) rfl
        replace ha := Aside0.mk ha
        have BK116 := Aside0.mk Q_BK116
        have HB := Aside0.mk Q_HB
        refine Kd.R_make_step (Kd.int .i64) _ 3 (by rfl) (N := 18) rfl 29 _ _ rfl t117 (by simp only [Act.eval, Array.getD_eq_getD_getElem?, e17, Option.getD_some]) (by simp only [Act.eval, Array.getD_eq_getD_getElem?, e17, Option.getD_some]) Try.underlying29 (.int .i64 0) 8 info3 rfl (by decide) (by omega) 0 (ok := fun _ => True) (okp := fun _ => True) rfl (fun _ hk => hk) trivial (of_decide_eq_true (by first | (with_reducible assumption) | assumption)) (Nat.le_trans (Nat.mul_le_mul_right _ (of_decide_eq_true (by first | (with_reducible assumption) | assumption) : t117.toNat ≤ 35184372088832)) (by omega)) (Below.refl _ _) (Nat.le_refl _) ?_
        intro v119 w15 ho16 hb hg_ hnew_
        have NA_ : b 9 = true → ∀ k_, some k_ = v119.ownBlock → some k_ ≠ v130.ownBlock := fun h9_ k_ hk_ e_ => by have h1 := Kd.R_base ho16 k_ hk_.symm; have h3 := Kd.R_lt (Q_HO131 h9_) k_ e_.symm; omega
        clear hg_ hnew_
        (first | rw [← Ny118.out] at ho16 | (simp only [Int.reduceToNat] at ho16; rw [← Ny118.out] at ho16))
        have n0_ := Aside0.mk (Kd.R_lower ho16 (below_size (by repeat (first | (with_reducible first | exact HB.out | apply below_alloc | apply pw_below_drewN | apply below_drew1) | exact HB.out))))
        have n1_ := Aside0.mk (blk_below (g := gb116) (o := .cells #[.slice none 0 0, .slice none 0 0, .slice none 0 0] 88 (0, 0)) BK116.out hb)
        have n2_ := Aside0.mk (below_step (by repeat (first | (with_reducible first | exact HB.out | apply below_alloc | apply pw_below_drewN | apply below_drew1) | exact HB.out)) hb)
        have z_HO124 := fun (h0_ : b 5 = true) => (show Kd.R Kd.bool 4 w15 w.heap.size (fun _ => True) v123 y122 from by first | exact (Kd.R_below (by (with_reducible repeat (first | apply Kd.R_alloc | apply Kd.R_drewN | apply Kd.R_drew)); exact (Q_HO124 h0_)) hb) | exact Kd.R_mono (Kd.R_below (by (with_reducible repeat (first | apply Kd.R_alloc | apply Kd.R_drewN | apply Kd.R_drew)); exact (Q_HO124 h0_)) hb) (fun _ h_ => by first | trivial | exact h_ | exact h_.1))
        have z_HO127 := fun (h0_ : b 6 = true) => (show Kd.R (Kd.int .i64) 3 w15 w.heap.size (fun _ => True) v126 y125 from by first | exact (Kd.R_elder' (by (with_reducible repeat (first | apply Kd.R_alloc | apply Kd.R_drewN | apply Kd.R_drew)); exact (Q_HO127 h0_)) (Kd.R_base ho16) hb) | exact Kd.R_mono (Kd.R_elder' (by (with_reducible repeat (first | apply Kd.R_alloc | apply Kd.R_drewN | apply Kd.R_drew)); exact (Q_HO127 h0_)) (Kd.R_base ho16) hb) (fun _ h_ => by first | trivial | exact h_ | exact h_.1))
        have z_HO131 := fun (h0_ : b 9 = true) => (show Kd.R (Kd.int .i64) 3 w15 w.heap.size (fun _ => True) v130 t129 from by first | exact (Kd.R_elder' (by (with_reducible repeat (first | apply Kd.R_alloc | apply Kd.R_drewN | apply Kd.R_drew)); exact (Q_HO131 h0_)) (Kd.R_base ho16) hb) | exact Kd.R_mono (Kd.R_elder' (by (with_reducible repeat (first | apply Kd.R_alloc | apply Kd.R_drewN | apply Kd.R_drew)); exact (Q_HO131 h0_)) (Kd.R_base ho16) hb) (fun _ h_ => by first | trivial | exact h_ | exact h_.1))
        have z_BK132 := fun (h0_ : b 11 = true) (h1_ : b 12 = false) => (show w15.heap[gb132]? = some (.cells #[.slice none 0 0, .slice none 0 0, .slice none 0 0] 88 (0, 0)) from by first | exact (blk_below (g := gb132) (o := .cells #[.slice none 0 0, .slice none 0 0, .slice none 0 0] 88 (0, 0)) (by (with_reducible repeat (first | refine blk_drewN ?_ _ | refine blk_drew ?_ | refine blk_alloc ?_ _)); exact (Q_BK132 h0_ h1_)) hb))
        clear BK116
        clear HB
        have HO120 := n0_
        have BK116 := n1_
        have HB := n2_
        clear n0_ n1_ n2_
        clear hb ho16
        refine hK.out _ _ ⟨v119, v123, v126, v130, gb132, m10_, m11_, (by rw [ha.out]; exact putSel_upk 1 hb_ rfl rfl rfl), BK116.out, (by repeat (first | (with_reducible first | exact HB.out | apply below_alloc | apply pw_below_drewN | apply below_drew1) | exact HB.out)), fun _ => HO120.out, z_HO124, z_HO127, z_HO131, z_BK132, Q_GW132, Q_GE132, Q_NB116_132, Q_NB132_116, fun h0_ => absurd ((hoff 12 (by kernel_rfl)).symm.trans h0_) (by decide), fun h0_ => absurd ((hoff 10 (by kernel_rfl)).symm.trans h0_) (by decide), Q_X11_, fun _ h9_ => NA_ h9_⟩
       refine steps_cons ?_ ?_
       ·rintro b a w' ⟨v119, v123, v126, v130, gb132, m10_, m11_, ha, Q_BK116, Q_HB, Q_HO120, Q_HO124, Q_HO127, Q_HO131, Q_BK132, Q_GW132, Q_GE132, Q_NB116_132, Q_NB132_116, Q_BK132_e12, Q_X10_, Q_X11_, Q_NA⟩ hb_ hon hoff
        refine ⟨_, rfl, fun K hK => ?_⟩
        have e19 : a.tmps[19]? = some (.iface T gv) := by rw [ha]; exact (putSel_off rfl).trans rfl
        replace ha := Aside0.mk ha
        have BK116 := Aside0.mk Q_BK116
        have HB := Aside0.mk Q_HB
        refine goesI_ hfN.out.1 hfN.out.2.1 hfN.out.2.2 (by rfl) rfl rfl (T := T) (v := gv) (by simp only [Act.eval, Array.getD_eq_getD_getElem?, e19, Option.getD_some]) (hmN.out _) ?_
        have et_ : a0_0 = t121 := Option.some.inj A6.out
        refine (hN.out _ (below_then HBO.out HBO.out.size HB.out)).mono ?_
        rintro e w15 ⟨rfl, hb⟩
        rw [et_]
        clear et_
        refine ⟨_, rfl, ?_⟩
        have n0_ := Aside0.mk (blk_below (g := gb116) (o := .cells #[.slice none 0 0, .slice none 0 0, .slice none 0 0] 88 (0, 0)) BK116.out hb)
        have n1_ := Aside0.mk (below_step (by repeat (first | (with_reducible first | exact HB.out | apply below_alloc | apply pw_below_drewN | apply below_drew1) | exact HB.out)) hb)
        have z_HO120 := fun (h0_ : b 2 = true) => (show Kd.R (Kd.int .i64) 3 w15 w.heap.size (fun _ => True) v119 y118 from by first | exact (Kd.R_below (by (with_reducible repeat (first | apply Kd.R_alloc | apply Kd.R_drewN | apply Kd.R_drew)); exact (Q_HO120 h0_)) hb) | exact Kd.R_mono (Kd.R_below (by (with_reducible repeat (first | apply Kd.R_alloc | apply Kd.R_drewN | apply Kd.R_drew)); exact (Q_HO120 h0_)) hb) (fun _ h_ => by first | trivial | exact h_ | exact h_.1))
        have z_HO127 := fun (h0_ : b 6 = true) => (show Kd.R (Kd.int .i64) 3 w15 w.heap.size (fun _ => True) v126 y125 from by first | exact (Kd.R_below (by (with_reducible repeat (first | apply Kd.R_alloc | apply Kd.R_drewN | apply Kd.R_drew)); exact (Q_HO127 h0_)) hb) | exact Kd.R_mono (Kd.R_below (by (with_reducible repeat (first | apply Kd.R_alloc | apply Kd.R_drewN | apply Kd.R_drew)); exact (Q_HO127 h0_)) hb) (fun _ h_ => by first | trivial | exact h_ | exact h_.1))
        have z_BK132 := fun (h0_ : b 11 = true) (h1_ : b 12 = false) => (show w15.heap[gb132]? = some (.cells #[.slice none 0 0, .slice none 0 0, .slice none 0 0] 88 (0, 0)) from by first | exact (blk_below (g := gb132) (o := .cells #[.slice none 0 0, .slice none 0 0, .slice none 0 0] 88 (0, 0)) (by (with_reducible repeat (first | refine blk_drewN ?_ _ | refine blk_drew ?_ | refine blk_alloc ?_ _)); exact (Q_BK132 h0_ h1_)) hb))
        clear BK116
        clear HB
        have BK116 := n0_
        have HB := n1_
        clear n0_ n1_
        (try clear hb)
        (try clear hb2)
        (try clear hk)
        (try clear hi)
        refine hK.out _ _ ⟨v119, v123, v126, v130, gb132, m10_, m11_, (by rw [ha.out]; exact putSel_upk 2 hb_ rfl rfl rfl), BK116.out, (by repeat (first | (with_reducible first | exact HB.out | apply below_alloc | apply pw_below_drewN | apply below_drew1) | exact HB.out)), z_HO120, fun h0_ => absurd ((hoff 5 (by kernel_rfl)).symm.trans h0_) (by decide), z_HO127, fun h0_ => absurd ((hoff 9 (by kernel_rfl)).symm.trans h0_) (by decide), z_BK132, Q_GW132, Q_GE132, Q_NB116_132, Q_NB132_116, fun h0_ => absurd ((hoff 12 (by kernel_rfl)).symm.trans h0_) (by decide), fun h0_ => absurd ((hoff 10 (by kernel_rfl)).symm.trans h0_) (by decide), Q_X11_, Q_NA⟩
       refine steps_cons ?_ ?_
       ·rintro b a w' ⟨v119, v123, v126, v130, gb132, m10_, m11_, ha, Q_BK116, Q_HB, Q_HO120, Q_HO124, Q_HO127, Q_HO131, Q_BK132, Q_GW132, Q_GE132, Q_NB116_132, Q_NB132_116, Q_BK132_e12, Q_X10_, Q_X11_, Q_NA⟩ hb_ hon hoff
        refine ⟨_, rfl, fun K hK => ?_⟩
        have e20 : a.tmps[20]? = some (.int .i64 t121) := by rw [ha]; exact putSel_on (e := (4, 20, .int .i64 t121)) 2 rfl rfl (hon 4 (by kernel_rfl)) rfl
        replace ha := Aside0.mk ha
        have BK116 := Aside0.mk Q_BK116
        have HB := Aside0.mk Q_HB
        refine Kd.R_make_step Kd.bool _ 4 (by rfl) (N := 21) rfl 41 _ _ rfl t121 (by simp only [Act.eval, Array.getD_eq_getD_getElem?, e20, Option.getD_some]) (by simp only [Act.eval, Array.getD_eq_getD_getElem?, e20, Option.getD_some]) Try.underlying41 (.bool false) 1 info4 rfl (by decide) (by omega) false (ok := fun _ => True) (okp := fun _ => True) rfl (fun _ hk => hk) trivial (of_decide_eq_true (by first | (with_reducible assumption) | assumption)) (Nat.le_trans (Nat.mul_le_mul_right _ (of_decide_eq_true (by first | (with_reducible assumption) | assumption) : t121.toNat ≤ 281474976710656)) (by omega)) (Below.refl _ _) (Nat.le_refl _) ?_
        intro v123 w16 ho17 hb hg_ hnew_
        clear hg_ hnew_
        (first | rw [← Ny122.out] at ho17 | (simp only [Int.reduceToNat] at ho17; rw [← Ny122.out] at ho17))
        have n0_ := Aside0.mk (Kd.R_lower ho17 (below_size (by repeat (first | (with_reducible first | exact HB.out | apply below_alloc | apply pw_below_drewN | apply below_drew1) | exact HB.out))))
        have n1_ := Aside0.mk (blk_below (g := gb116) (o := .cells #[.slice none 0 0, .slice none 0 0, .slice none 0 0] 88 (0, 0)) BK116.out hb)
        have n2_ := Aside0.mk (below_step (by repeat (first | (with_reducible first | exact HB.out | apply below_alloc | apply pw_below_drewN | apply below_drew1) | exact HB.out)) hb)
        have z_HO120 := fun (h0_ : b 2 = true) => (show Kd.R (Kd.int .i64) 3 w16 w.heap.size (fun _ => True) v119 y118 from by first | exact (Kd.R_below (by (with_reducible repeat (first | apply Kd.R_alloc | apply Kd.R_drewN | apply Kd.R_drew)); exact (Q_HO120 h0_)) hb) | exact Kd.R_mono (Kd.R_below (by (with_reducible repeat (first | apply Kd.R_alloc | apply Kd.R_drewN | apply Kd.R_drew)); exact (Q_HO120 h0_)) hb) (fun _ h_ => by first | trivial | exact h_ | exact h_.1))
        have z_HO127 := fun (h0_ : b 6 = true) => (show Kd.R (Kd.int .i64) 3 w16 w.heap.size (fun _ => True) v126 y125 from by first | exact (Kd.R_below (by (with_reducible repeat (first | apply Kd.R_alloc | apply Kd.R_drewN | apply Kd.R_drew)); exact (Q_HO127 h0_)) hb) | exact Kd.R_mono (Kd.R_below (by (with_reducible repeat (first | apply Kd.R_alloc | apply Kd.R_drewN | apply Kd.R_drew)); exact (Q_HO127 h0_)) hb) (fun _ h_ => by first | trivial | exact h_ | exact h_.1))
        have z_HO131 := fun (h0_ : b 9 = true) => (show Kd.R (Kd.int .i64) 3 w16 w.heap.size (fun _ => True) v130 t129 from by first | exact (Kd.R_below (by (with_reducible repeat (first | apply Kd.R_alloc | apply Kd.R_drewN | apply Kd.R_drew)); exact (Q_HO131 h0_)) hb) | exact Kd.R_mono (Kd.R_below (by (with_reducible repeat (first | apply Kd.R_alloc | apply Kd.R_drewN | apply Kd.R_drew)); exact (Q_HO131 h0_)) hb) (fun _ h_ => by first | trivial | exact h_ | exact h_.1))
        have z_BK132 := fun (h0_ : b 11 = true) (h1_ : b 12 = false) => (show w16.heap[gb132]? = some (.cells #[.slice none 0 0, .slice none 0 0, .slice none 0 0] 88 (0, 0)) from by first | exact (blk_below (g := gb132) (o := .cells #[.slice none 0 0, .slice none 0 0, .slice none 0 0] 88 (0, 0)) (by (with_reducible repeat (first | refine blk_drewN ?_ _ | refine blk_drew ?_ | refine blk_alloc ?_ _)); exact (Q_BK132 h0_ h1_)) hb))
        clear BK116
        clear HB
        have HO124 := n0_
        have BK116 := n1_
        have HB := n2_
        clear n0_ n1_ n2_
        clear hb ho17
        refine hK.out _ _ ⟨v119, v123, v126, v130, gb132, m10_, m11_, (by rw [ha.out]; exact putSel_upk 3 hb_ rfl rfl rfl), BK116.out, (by repeat (first | (with_reducible first | exact HB.out | apply below_alloc | apply pw_below_drewN | apply below_drew1) | exact HB.out)), z_HO120, fun _ => HO124.out, z_HO127, z_HO131, z_BK132, Q_GW132, Q_GE132, Q_NB116_132, Q_NB132_116, fun h0_ => absurd ((hoff 12 (by kernel_rfl)).symm.trans h0_) (by decide), fun h0_ => absurd ((hoff 10 (by kernel_rfl)).symm.trans h0_) (by decide), Q_X11_, Q_NA⟩
       refine steps_cons ?_ ?_
       ·rintro b a w' ⟨v119, v123, v126, v130, gb132, m10_, m11_, ha, Q_BK116, Q_HB, Q_HO120, Q_HO124, Q_HO127, Q_HO131, Q_BK132, Q_GW132, Q_GE132, Q_NB116_132, Q_NB132_116, Q_BK132_e12, Q_X10_, Q_X11_, Q_NA⟩ hb_ hon hoff
        refine ⟨_, rfl, fun K hK => ?_⟩
        replace ha := Aside0.mk ha
        have BK116 := Aside0.mk Q_BK116
        have HB := Aside0.mk Q_HB
        refine Kd.R_lit_step (Kd.int .i64) _ 3 ?hg (N := 22) ?hd (xs := ([(-1)] : List Int)) (inner := [.int .i64 (-1)]) (ok := fun _ => True) (okp := fun _ => True) ?hr ?hp (fun _ hk => hk) trivial (Below.refl _ _) (Nat.le_refl _) (by simp) ?_; (case hd => rfl); (case hg => rfl); (case hr => first | (go_simp; done) | (go_simp; rfl)); (case hp => exact (Reps.one (show Kd.M (Kd.int .i64) _ _ _ (-1) [.int .i64 (-1)] from rfl) (Reps.none _ _)))
        intro v126 w13 ho14 hb hg_ hnew_
        clear hg_ hnew_
        (first | rw [← Ny125.out] at ho14 | (simp only [Int.reduceToNat] at ho14; rw [← Ny125.out] at ho14))
        have n0_ := Aside0.mk (Kd.R_lower ho14 (below_size (by repeat (first | (with_reducible first | exact HB.out | apply below_alloc | apply pw_below_drewN | apply below_drew1) | exact HB.out))))
        have n1_ := Aside0.mk (blk_below (g := gb116) (o := .cells #[.slice none 0 0, .slice none 0 0, .slice none 0 0] 88 (0, 0)) BK116.out hb)
        have n2_ := Aside0.mk (below_step (by repeat (first | (with_reducible first | exact HB.out | apply below_alloc | apply pw_below_drewN | apply below_drew1) | exact HB.out)) hb)
        have z_HO120 := fun (h0_ : b 2 = true) => (show Kd.R (Kd.int .i64) 3 w13 w.heap.size (fun _ => True) v119 y118 from by first | exact (Kd.R_elder' (by (with_reducible repeat (first | apply Kd.R_alloc | apply Kd.R_drewN | apply Kd.R_drew)); exact (Q_HO120 h0_)) (Kd.R_base ho14) hb) | exact Kd.R_mono (Kd.R_elder' (by (with_reducible repeat (first | apply Kd.R_alloc | apply Kd.R_drewN | apply Kd.R_drew)); exact (Q_HO120 h0_)) (Kd.R_base ho14) hb) (fun _ h_ => by first | trivial | exact h_ | exact h_.1))
        have z_HO124 := fun (h0_ : b 5 = true) => (show Kd.R Kd.bool 4 w13 w.heap.size (fun _ => True) v123 y122 from by first | exact (Kd.R_below (by (with_reducible repeat (first | apply Kd.R_alloc | apply Kd.R_drewN | apply Kd.R_drew)); exact (Q_HO124 h0_)) hb) | exact Kd.R_mono (Kd.R_below (by (with_reducible repeat (first | apply Kd.R_alloc | apply Kd.R_drewN | apply Kd.R_drew)); exact (Q_HO124 h0_)) hb) (fun _ h_ => by first | trivial | exact h_ | exact h_.1))
        have z_BK132 := fun (h0_ : b 11 = true) (h1_ : b 12 = false) => (show w13.heap[gb132]? = some (.cells #[.slice none 0 0, .slice none 0 0, .slice none 0 0] 88 (0, 0)) from by first | exact (blk_below (g := gb132) (o := .cells #[.slice none 0 0, .slice none 0 0, .slice none 0 0] 88 (0, 0)) (by (with_reducible repeat (first | refine blk_drewN ?_ _ | refine blk_drew ?_ | refine blk_alloc ?_ _)); exact (Q_BK132 h0_ h1_)) hb))
        clear BK116
        clear HB
        have HO127 := n0_
        have BK116 := n1_
        have HB := n2_
        clear n0_ n1_ n2_
        clear hb ho14
        refine hK.out _ _ ⟨v119, v123, v126, v130, gb132, m10_, m11_, (by rw [ha.out]; exact putSel_upk 4 hb_ rfl rfl rfl), BK116.out, (by repeat (first | (with_reducible first | exact HB.out | apply below_alloc | apply pw_below_drewN | apply below_drew1) | exact HB.out)), z_HO120, z_HO124, fun _ => HO127.out, fun h0_ => absurd ((hoff 9 (by kernel_rfl)).symm.trans h0_) (by decide), z_BK132, Q_GW132, Q_GE132, Q_NB116_132, Q_NB132_116, fun h0_ => absurd ((hoff 12 (by kernel_rfl)).symm.trans h0_) (by decide), fun h0_ => absurd ((hoff 10 (by kernel_rfl)).symm.trans h0_) (by decide), Q_X11_, Q_NA⟩
       refine steps_cons ?_ ?_
       ·rintro b a w' ⟨v119, v123, v126, v130, gb132, m10_, m11_, ha, Q_BK116, Q_HB, Q_HO120, Q_HO124, Q_HO127, Q_HO131, Q_BK132, Q_GW132, Q_GE132, Q_NB116_132, Q_NB132_116, Q_BK132_e12, Q_X10_, Q_X11_, Q_NA⟩ hb_ hon hoff
        refine ⟨_, rfl, fun K hK => ?_⟩
        have e23 : a.tmps[23]? = some (.iface T gv) := by rw [ha]; exact (putSel_off rfl).trans rfl
        replace ha := Aside0.mk ha
        have BK116 := Aside0.mk Q_BK116
        have HB := Aside0.mk Q_HB
        refine goesI_ hfN.out.1 hfN.out.2.1 hfN.out.2.2 (by rfl) rfl rfl (T := T) (v := gv) (by simp only [Act.eval, Array.getD_eq_getD_getElem?, e23, Option.getD_some]) (hmN.out _) ?_
        have et_ : a0_0 = t128 := Option.some.inj A9.out
        refine (hN.out _ (below_then HBO.out HBO.out.size HB.out)).mono ?_
        rintro e w16 ⟨rfl, hb⟩
        rw [et_]
        clear et_
        refine ⟨_, rfl, ?_⟩
        have n0_ := Aside0.mk (blk_below (g := gb116) (o := .cells #[.slice none 0 0, .slice none 0 0, .slice none 0 0] 88 (0, 0)) BK116.out hb)
        have n1_ := Aside0.mk (below_step (by repeat (first | (with_reducible first | exact HB.out | apply below_alloc | apply pw_below_drewN | apply below_drew1) | exact HB.out)) hb)
        have z_HO120 := fun (h0_ : b 2 = true) => (show Kd.R (Kd.int .i64) 3 w16 w.heap.size (fun _ => True) v119 y118 from by first | exact (Kd.R_below (by (with_reducible repeat (first | apply Kd.R_alloc | apply Kd.R_drewN | apply Kd.R_drew)); exact (Q_HO120 h0_)) hb) | exact Kd.R_mono (Kd.R_below (by (with_reducible repeat (first | apply Kd.R_alloc | apply Kd.R_drewN | apply Kd.R_drew)); exact (Q_HO120 h0_)) hb) (fun _ h_ => by first | trivial | exact h_ | exact h_.1))
        have z_HO124 := fun (h0_ : b 5 = true) => (show Kd.R Kd.bool 4 w16 w.heap.size (fun _ => True) v123 y122 from by first | exact (Kd.R_below (by (with_reducible repeat (first | apply Kd.R_alloc | apply Kd.R_drewN | apply Kd.R_drew)); exact (Q_HO124 h0_)) hb) | exact Kd.R_mono (Kd.R_below (by (with_reducible repeat (first | apply Kd.R_alloc | apply Kd.R_drewN | apply Kd.R_drew)); exact (Q_HO124 h0_)) hb) (fun _ h_ => by first | trivial | exact h_ | exact h_.1))
        have z_HO127 := fun (h0_ : b 6 = true) => (show Kd.R (Kd.int .i64) 3 w16 w.heap.size (fun _ => True) v126 y125 from by first | exact (Kd.R_below (by (with_reducible repeat (first | apply Kd.R_alloc | apply Kd.R_drewN | apply Kd.R_drew)); exact (Q_HO127 h0_)) hb) | exact Kd.R_mono (Kd.R_below (by (with_reducible repeat (first | apply Kd.R_alloc | apply Kd.R_drewN | apply Kd.R_drew)); exact (Q_HO127 h0_)) hb) (fun _ h_ => by first | trivial | exact h_ | exact h_.1))
        have z_BK132 := fun (h0_ : b 11 = true) (h1_ : b 12 = false) => (show w16.heap[gb132]? = some (.cells #[.slice none 0 0, .slice none 0 0, .slice none 0 0] 88 (0, 0)) from by first | exact (blk_below (g := gb132) (o := .cells #[.slice none 0 0, .slice none 0 0, .slice none 0 0] 88 (0, 0)) (by (with_reducible repeat (first | refine blk_drewN ?_ _ | refine blk_drew ?_ | refine blk_alloc ?_ _)); exact (Q_BK132 h0_ h1_)) hb))
        clear BK116
        clear HB
        have BK116 := n0_
        have HB := n1_
        clear n0_ n1_
        (try clear hb)
        (try clear hb2)
        (try clear hk)
        (try clear hi)
        refine hK.out _ _ ⟨v119, v123, v126, v130, gb132, m10_, m11_, (by rw [ha.out]; exact putSel_upk 5 hb_ rfl rfl rfl), BK116.out, (by repeat (first | (with_reducible first | exact HB.out | apply below_alloc | apply pw_below_drewN | apply below_drew1) | exact HB.out)), z_HO120, z_HO124, z_HO127, fun h0_ => absurd ((hoff 9 (by kernel_rfl)).symm.trans h0_) (by decide), z_BK132, Q_GW132, Q_GE132, Q_NB116_132, Q_NB132_116, fun h0_ => absurd ((hoff 12 (by kernel_rfl)).symm.trans h0_) (by decide), fun h0_ => absurd ((hoff 10 (by kernel_rfl)).symm.trans h0_) (by decide), Q_X11_, Q_NA⟩
       refine steps_cons ?_ ?_
       ·rintro b a w' ⟨v119, v123, v126, v130, gb132, m10_, m11_, ha, Q_BK116, Q_HB, Q_HO120, Q_HO124, Q_HO127, Q_HO131, Q_BK132, Q_GW132, Q_GE132, Q_NB116_132, Q_NB132_116, Q_BK132_e12, Q_X10_, Q_X11_, Q_NA⟩ hb_ hon hoff
        refine ⟨_, rfl, fun K hK => ?_⟩
        have e22 : a.tmps[22]? = some (v126) := by rw [ha]; exact putSel_on (e := (6, 22, v126)) 4 rfl rfl (hon 6 (by kernel_rfl)) rfl
        have e24 : a.tmps[24]? = some (.int .i64 t128) := by rw [ha]; exact putSel_on (e := (8, 24, .int .i64 t128)) 5 rfl rfl (hon 8 (by kernel_rfl)) rfl
        replace ha := Aside0.mk ha
        have BK116 := Aside0.mk Q_BK116
        have HB := Aside0.mk Q_HB
        have HO127 := Aside0.mk (Q_HO127 (hon 6 (by kernel_rfl)))
        obtain ⟨Ao19, co19, eo19⟩ := Kd.R_slice HO127.out
        (first | subst eo19 | (injection eo19 with f1_ f2_ f3_; have f4_ := f1_.symm; have f5_ := f3_.symm; clear f1_ f2_ f3_; subst f4_; subst f5_))
        refine goes_ Try.func112 (by kernel_rfl) rfl #[.slice Ao19 y125.length co19, .int .i64 t128] (by rfl) rfl rfl (by first | (simp only [List.map_toArray, List.map_cons, List.map_nil, Act.eval, Array.getD_eq_getD_getElem?, Option.getD_some, e22, e24]; done) | (simp only [List.map_toArray, List.map_cons, List.map_nil, Act.eval, Array.getD_eq_getD_getElem?, Option.getD_some, e22, e24]; rfl)) ?_
        with_reducible refine (slices_Repeat_int_int.calls _ _ y125 t128 t129 _ ?side1 ?side2 A10.out).mono ?_
        (case side1 => repeat (first | exact (Kd.R_reads' HO127.out).2.2 | (with_reducible refine Kd.C_alloc ?_ _) | (with_reducible refine Kd.C_drewN ?_ _) | (with_reducible refine Kd.C_drew ?_)))
        (case side2 => exact (Kd.R_reads' HO127.out).2.1)
        rintro e w20 ⟨v130, rfl, ho0, hb⟩
        have NA_ : b 2 = true → ∀ k_, some k_ = v119.ownBlock → some k_ ≠ v130.ownBlock := fun h2_ k_ hk_ e_ => by have h1 := Kd.R_lt (Q_HO120 h2_) k_ hk_.symm; have h3 := Kd.R_base ho0 k_ e_.symm; omega
        refine ⟨_, rfl, ?_⟩
        have n0_ := Aside0.mk (Kd.R_elder' HO127.out (Kd.R_base ho0) hb)
        have n1_ := Aside0.mk (Kd.R_lower (Kd.R_new' ho0 (Kd.R_lt HO127.out)) (below_size (by repeat (first | (with_reducible first | exact HB.out | apply below_alloc | apply pw_below_drewN | apply below_drew1) | exact HB.out))))
        have n2_ := Aside0.mk (blk_below (g := gb116) (o := .cells #[.slice none 0 0, .slice none 0 0, .slice none 0 0] 88 (0, 0)) BK116.out hb)
        have n3_ := Aside0.mk (below_step (by repeat (first | (with_reducible first | exact HB.out | apply below_alloc | apply pw_below_drewN | apply below_drew1) | exact HB.out)) hb)
        have z_HO120 := fun (h0_ : b 2 = true) => (show Kd.R (Kd.int .i64) 3 w20 w.heap.size (fun _ => True) v119 y118 from by first | exact (Kd.R_elder' (by (with_reducible repeat (first | apply Kd.R_alloc | apply Kd.R_drewN | apply Kd.R_drew)); exact (Q_HO120 h0_)) (Kd.R_base ho0) hb) | exact Kd.R_mono (Kd.R_elder' (by (with_reducible repeat (first | apply Kd.R_alloc | apply Kd.R_drewN | apply Kd.R_drew)); exact (Q_HO120 h0_)) (Kd.R_base ho0) hb) (fun _ h_ => by first | trivial | exact h_ | exact h_.1))
        have z_HO124 := fun (h0_ : b 5 = true) => (show Kd.R Kd.bool 4 w20 w.heap.size (fun _ => True) v123 y122 from by first | exact (Kd.R_below (by (with_reducible repeat (first | apply Kd.R_alloc | apply Kd.R_drewN | apply Kd.R_drew)); exact (Q_HO124 h0_)) hb) | exact Kd.R_mono (Kd.R_below (by (with_reducible repeat (first | apply Kd.R_alloc | apply Kd.R_drewN | apply Kd.R_drew)); exact (Q_HO124 h0_)) hb) (fun _ h_ => by first | trivial | exact h_ | exact h_.1))
        have z_BK132 := fun (h0_ : b 11 = true) (h1_ : b 12 = false) => (show w20.heap[gb132]? = some (.cells #[.slice none 0 0, .slice none 0 0, .slice none 0 0] 88 (0, 0)) from by first | exact (blk_below (g := gb132) (o := .cells #[.slice none 0 0, .slice none 0 0, .slice none 0 0] 88 (0, 0)) (by (with_reducible repeat (first | refine blk_drewN ?_ _ | refine blk_drew ?_ | refine blk_alloc ?_ _)); exact (Q_BK132 h0_ h1_)) hb))
        clear HO127
        clear BK116
        clear HB
        have HO127 := n0_
        have HO131 := n1_
        have BK116 := n2_
        have HB := n3_
        clear n0_ n1_ n2_ n3_
        (try clear hb)
        (try clear hb2)
        (try clear hk)
        (try clear hi)
        (try clear ho0)
        refine hK.out _ _ ⟨v119, v123, .slice Ao19 y125.length co19, v130, gb132, m10_, m11_, (by rw [ha.out]; exact putSel_upk 6 hb_ rfl rfl rfl), BK116.out, (by repeat (first | (with_reducible first | exact HB.out | apply below_alloc | apply pw_below_drewN | apply below_drew1) | exact HB.out)), z_HO120, z_HO124, fun _ => (by (with_reducible repeat (first | apply Kd.R_alloc | apply Kd.R_drewN | apply Kd.R_drew)); exact Kd.R_mono HO127.out (fun _ hk => trivial)), fun _ => (by (with_reducible repeat (first | apply Kd.R_alloc | apply Kd.R_drewN | apply Kd.R_drew)); exact Kd.R_mono HO131.out (fun _ hk => trivial)), z_BK132, Q_GW132, Q_GE132, Q_NB116_132, Q_NB132_116, fun h0_ => absurd ((hoff 12 (by kernel_rfl)).symm.trans h0_) (by decide), fun h0_ => absurd ((hoff 10 (by kernel_rfl)).symm.trans h0_) (by decide), Q_X11_, fun h2_ _ => NA_ h2_⟩
       refine steps_cons ?_ ?_
       ·rintro b a w' ⟨v119, v123, v126, v130, gb132, m10_, m11_, ha, Q_BK116, Q_HB, Q_HO120, Q_HO124, Q_HO127, Q_HO131, Q_BK132, Q_GW132, Q_GE132, Q_NB116_132, Q_NB132_116, Q_BK132_e12, Q_X10_, Q_X11_, Q_NA⟩ hb_ hon hoff
        refine ⟨_, rfl, fun K hK => ?_⟩
        have e18 : a.tmps[18]? = some (v119) := by rw [ha]; exact putSel_on (e := (2, 18, v119)) 1 rfl rfl (hon 2 (by kernel_rfl)) rfl
        have e21 : a.tmps[21]? = some (v123) := by rw [ha]; exact putSel_on (e := (5, 21, v123)) 3 rfl rfl (hon 5 (by kernel_rfl)) rfl
        have e25 : a.tmps[25]? = some (v130) := by rw [ha]; exact putSel_on (e := (9, 25, v130)) 6 rfl rfl (hon 9 (by kernel_rfl)) rfl
        replace ha := Aside0.mk ha
        have BK116 := Aside0.mk Q_BK116
        have HB := Aside0.mk Q_HB
        have HO120 := Aside0.mk (Q_HO120 (hon 2 (by kernel_rfl)))
        have HO124 := Aside0.mk (Q_HO124 (hon 5 (by kernel_rfl)))
        have HO127 := Aside0.mk (Q_HO127 (hon 6 (by kernel_rfl)))
        have HO131 := Aside0.mk (Q_HO131 (hon 9 (by kernel_rfl)))
        obtain ⟨Ao10_0, co10_0, eo_⟩ := Kd.R_slice HO120.out
        subst eo_
        obtain ⟨Ao10_1, co10_1, eo_⟩ := Kd.R_slice HO124.out
        subst eo_
        obtain ⟨Ao10_2, co10_2, eo_⟩ := Kd.R_slice HO131.out
        subst eo_
        refine value_ (w1 := w') (v := .agg #[.slice Ao10_0 y118.length co10_0, .slice Ao10_1 y122.length co10_1, .slice Ao10_2 t129.length co10_2]) (by rfl) rfl ?_ ?_
        ·go_simp
         (try simp only [i64_w])
         try rfl
        refine hK.out _ _ ⟨.slice Ao10_0 y118.length co10_0, .slice Ao10_1 y122.length co10_1, v126, .slice Ao10_2 t129.length co10_2, gb132, (.agg #[.slice Ao10_0 y118.length co10_0, .slice Ao10_1 y122.length co10_1, .slice Ao10_2 t129.length co10_2]), m11_, (by rw [ha.out]; exact putSel_upk 7 hb_ rfl rfl rfl), Q_BK116, Q_HB, Q_HO120, Q_HO124, Q_HO127, Q_HO131, Q_BK132, Q_GW132, Q_GE132, Q_NB116_132, Q_NB132_116, fun h0_ => absurd ((hoff 12 (by kernel_rfl)).symm.trans h0_) (by decide), fun _ => rfl, Q_X11_, Q_NA⟩
       refine steps_cons ?_ ?_
       ·rintro b a w' ⟨v119, v123, v126, v130, gb132, m10_, m11_, ha, Q_BK116, Q_HB, Q_HO120, Q_HO124, Q_HO127, Q_HO131, Q_BK132, Q_GW132, Q_GE132, Q_NB116_132, Q_NB132_116, Q_BK132_e12, Q_X10_, Q_X11_, Q_NA⟩ hb_ hon hoff
        refine ⟨_, rfl, fun K hK => ?_⟩
        replace ha := Aside0.mk ha
        have BK116 := Aside0.mk Q_BK116
        have HB := Aside0.mk Q_HB
        refine box_step ?hg (N := 7) ?hd (cs := #[.slice none 0 0, .slice none 0 0, .slice none 0 0]) (t := 88) ?hr ?_; (case hd => rfl); (case hg => rfl); (case hr => first | (go_simp; done) | (go_simp; rfl))
        intro gb132 hg w13 hbox hb
        have n0_ := Aside0.mk (blk_below (g := gb116) (o := .cells #[.slice none 0 0, .slice none 0 0, .slice none 0 0] 88 (0, 0)) BK116.out hb)
        have n1_ := Aside0.mk (below_step (by repeat (first | (with_reducible first | exact HB.out | apply below_alloc | apply pw_below_drewN | apply below_drew1) | exact HB.out)) hb)
        have n2_ := Aside0.mk (hbox)
        have n3_ := Aside0.mk ((by rw [hg]; exact (below_size (by repeat (first | (with_reducible first | exact HB.out | apply below_alloc | apply pw_below_drewN | apply below_drew1) | exact HB.out))) : w.heap.size ≤ gb132))
        have n4_ := Aside0.mk ((by rw [hg]; exact (below_size (by repeat (first | (with_reducible first | exact HB.out | apply below_alloc | apply pw_below_drewN | apply below_drew1) | exact HB.out))) : w.heap.size ≤ gb132))
        have n5_ := Aside0.mk ((by rw [hg]; exact Nat.ne_of_lt (blk_lt (g := gb116) (o := .cells #[.slice none 0 0, .slice none 0 0, .slice none 0 0] 88 (0, 0)) BK116.out) : gb116 ≠ gb132))
        have n6_ := Aside0.mk ((by rw [hg]; exact Nat.ne_of_gt (blk_lt (g := gb116) (o := .cells #[.slice none 0 0, .slice none 0 0, .slice none 0 0] 88 (0, 0)) BK116.out) : gb132 ≠ gb116))
        have z_HO120 := fun (h0_ : b 2 = true) => (show Kd.R (Kd.int .i64) 3 w13 w.heap.size (fun _ => True) v119 y118 from by first | exact (Kd.R_below (by (with_reducible repeat (first | apply Kd.R_alloc | apply Kd.R_drewN | apply Kd.R_drew)); exact (Q_HO120 h0_)) hb) | exact Kd.R_mono (Kd.R_below (by (with_reducible repeat (first | apply Kd.R_alloc | apply Kd.R_drewN | apply Kd.R_drew)); exact (Q_HO120 h0_)) hb) (fun _ h_ => by first | trivial | exact h_ | exact h_.1))
        have z_HO124 := fun (h0_ : b 5 = true) => (show Kd.R Kd.bool 4 w13 w.heap.size (fun _ => True) v123 y122 from by first | exact (Kd.R_below (by (with_reducible repeat (first | apply Kd.R_alloc | apply Kd.R_drewN | apply Kd.R_drew)); exact (Q_HO124 h0_)) hb) | exact Kd.R_mono (Kd.R_below (by (with_reducible repeat (first | apply Kd.R_alloc | apply Kd.R_drewN | apply Kd.R_drew)); exact (Q_HO124 h0_)) hb) (fun _ h_ => by first | trivial | exact h_ | exact h_.1))
        have z_HO127 := fun (h0_ : b 6 = true) => (show Kd.R (Kd.int .i64) 3 w13 w.heap.size (fun _ => True) v126 y125 from by first | exact (Kd.R_below (by (with_reducible repeat (first | apply Kd.R_alloc | apply Kd.R_drewN | apply Kd.R_drew)); exact (Q_HO127 h0_)) hb) | exact Kd.R_mono (Kd.R_below (by (with_reducible repeat (first | apply Kd.R_alloc | apply Kd.R_drewN | apply Kd.R_drew)); exact (Q_HO127 h0_)) hb) (fun _ h_ => by first | trivial | exact h_ | exact h_.1))
        have z_HO131 := fun (h0_ : b 9 = true) => (show Kd.R (Kd.int .i64) 3 w13 w.heap.size (fun _ => True) v130 t129 from by first | exact (Kd.R_below (by (with_reducible repeat (first | apply Kd.R_alloc | apply Kd.R_drewN | apply Kd.R_drew)); exact (Q_HO131 h0_)) hb) | exact Kd.R_mono (Kd.R_below (by (with_reducible repeat (first | apply Kd.R_alloc | apply Kd.R_drewN | apply Kd.R_drew)); exact (Q_HO131 h0_)) hb) (fun _ h_ => by first | trivial | exact h_ | exact h_.1))
        clear BK116
        clear HB
        have BK116 := n0_
        have HB := n1_
        have BK132 := n2_
        have GW132 := n3_
        have GE132 := n4_
        have NB116_132 := n5_
        have NB132_116 := n6_
        clear n0_ n1_ n2_ n3_ n4_ n5_ n6_
        clear hb hbox hg
        refine hK.out _ _ ⟨v119, v123, v126, v130, gb132, m10_, (.pointer (some ⟨gb132, 0, none⟩)), (by rw [ha.out]; exact putSel_upk 8 hb_ rfl rfl rfl), BK116.out, (by repeat (first | (with_reducible first | exact HB.out | apply below_alloc | apply pw_below_drewN | apply below_drew1 | refine below_set ?_ GE132.out) | exact HB.out)), z_HO120, z_HO124, z_HO127, z_HO131, fun _ _ => BK132.out, fun _ => GW132.out, fun _ => GE132.out, fun _ => NB116_132.out, fun _ => NB132_116.out, fun h0_ => absurd ((hoff 12 (by kernel_rfl)).symm.trans h0_) (by decide), Q_X10_, fun _ => rfl, Q_NA⟩
       refine steps_cons ?_ ?_
       ·rintro b a w' ⟨v119, v123, v126, v130, gb132, m10_, m11_, ha, Q_BK116, Q_HB, Q_HO120, Q_HO124, Q_HO127, Q_HO131, Q_BK132, Q_GW132, Q_GE132, Q_NB116_132, Q_NB132_116, Q_BK132_e12, Q_X10_, Q_X11_, Q_NA⟩ hb_ hon hoff
        refine ⟨_, rfl, fun K hK => ?_⟩
        have e7 : a.tmps[7]? = some (m11_) := by rw [ha]; exact putSel_on (e := (11, 7, m11_)) 8 rfl rfl (hon 11 (by kernel_rfl)) rfl
        rw [Q_X11_ (hon 11 (by kernel_rfl))] at e7
        have e26 : a.tmps[26]? = some (m10_) := by rw [ha]; exact putSel_on (e := (10, 26, m10_)) 7 rfl rfl (hon 10 (by kernel_rfl)) rfl
        rw [Q_X10_ (hon 10 (by kernel_rfl))] at e26
        replace ha := Aside0.mk ha
        have BK116 := Aside0.mk Q_BK116
        have HB := Aside0.mk Q_HB
        have HO120 := Aside0.mk (Q_HO120 (hon 2 (by kernel_rfl)))
        have HO124 := Aside0.mk (Q_HO124 (hon 5 (by kernel_rfl)))
        have HO127 := Aside0.mk (Q_HO127 (hon 6 (by kernel_rfl)))
        have HO131 := Aside0.mk (Q_HO131 (hon 9 (by kernel_rfl)))
        have BK132 := Aside0.mk (Q_BK132 (hon 11 (by kernel_rfl)) hb_)
        have GW132 := Aside0.mk (Q_GW132 (hon 11 (by kernel_rfl)))
        have GE132 := Aside0.mk (Q_GE132 (hon 11 (by kernel_rfl)))
        have NB116_132 := Aside0.mk (Q_NB116_132 (hon 11 (by kernel_rfl)))
        have NB132_116 := Aside0.mk (Q_NB132_116 (hon 11 (by kernel_rfl)))
        obtain ⟨Ao29, co29, eo29⟩ := Kd.R_slice HO131.out
        (first | subst eo29 | (injection eo29 with f1_ f2_ f3_; have f4_ := f1_.symm; have f5_ := f3_.symm; clear f1_ f2_ f3_; subst f4_; subst f5_))
        obtain ⟨Ao30, co30, eo30⟩ := Kd.R_slice HO124.out
        (first | subst eo30 | (injection eo30 with f1_ f2_ f3_; have f4_ := f1_.symm; have f5_ := f3_.symm; clear f1_ f2_ f3_; subst f4_; subst f5_))
        obtain ⟨Ao31, co31, eo31⟩ := Kd.R_slice HO120.out
        (first | subst eo31 | (injection eo31 with f1_ f2_ f3_; have f4_ := f1_.symm; have f5_ := f3_.symm; clear f1_ f2_ f3_; subst f4_; subst f5_))
        have hs32 : w'.cell? ⟨gb132, 0, none⟩ = some (.slice none 0 0) := (blk_cell BK132.out 0).trans rfl
        have hfs32 := blk_frozen BK132.out 0
        have hns32_0 := NB116_132.out
        have hms32_0 := NB132_116.out
        have hs33 : w'.cell? ⟨gb132, 1, none⟩ = some (.slice none 0 0) := (blk_cell BK132.out 1).trans rfl
        have hfs33 := blk_frozen BK132.out 1
        have hns33_0 := NB116_132.out
        have hms33_0 := NB132_116.out
        have hs34 : w'.cell? ⟨gb132, 2, none⟩ = some (.slice none 0 0) := (blk_cell BK132.out 2).trans rfl
        have hfs34 := blk_frozen BK132.out 2
        have hns34_0 := NB116_132.out
        have hms34_0 := NB132_116.out
        refine skip_ (w1 := ?_) (by rfl) rfl ?_ ?_
        rotate_left
        ·go_simp
         rfl
        refine hK.out _ _ ⟨.slice Ao31 y118.length co31, .slice Ao30 y122.length co30, v126, .slice Ao29 t129.length co29, gb132, m10_, m11_, (by rw [ha.out]; exact putSel_none (v := undef) rfl), (by (with_reducible repeat (first | refine blk_drewN ?_ _ | refine blk_drew ?_ | refine blk_alloc ?_ _)); refine blk_far ?_ NB116_132.out _; (with_reducible repeat (first | refine blk_drewN ?_ _ | refine blk_drew ?_ | refine blk_alloc ?_ _)); refine blk_far ?_ NB116_132.out _; (with_reducible repeat (first | refine blk_drewN ?_ _ | refine blk_drew ?_ | refine blk_alloc ?_ _)); refine blk_far ?_ NB116_132.out _; (with_reducible repeat (first | refine blk_drewN ?_ _ | refine blk_drew ?_ | refine blk_alloc ?_ _)); exact BK116.out), (by repeat (first | (with_reducible first | exact HB.out | apply below_alloc | apply pw_below_drewN | apply below_drew1 | refine below_set ?_ GE132.out) | exact HB.out)), fun _ => (by (with_reducible repeat (first | apply Kd.R_alloc | apply Kd.R_drewN | apply Kd.R_drew)); exact Kd.R_mono (Kd.R_far (p := ⟨gb132, 2, none⟩) (Kd.R_far (p := ⟨gb132, 1, none⟩) (Kd.R_far (p := ⟨gb132, 0, none⟩) (Kd.R_types HO120.out BK132.out (by decide)) (fun _ hk => hk.2) (.slice Ao31 y118.length co31)) (fun _ hk => hk.2) (.slice Ao30 y122.length co30)) (fun _ hk => hk.2) (.slice Ao29 t129.length co29)) (fun _ hk => trivial)), fun _ => (by (with_reducible repeat (first | apply Kd.R_alloc | apply Kd.R_drewN | apply Kd.R_drew)); exact Kd.R_mono (Kd.R_far (p := ⟨gb132, 2, none⟩) (Kd.R_far (p := ⟨gb132, 1, none⟩) (Kd.R_far (p := ⟨gb132, 0, none⟩) (Kd.R_types HO124.out BK132.out (by decide)) (fun _ hk => hk.2) (.slice Ao31 y118.length co31)) (fun _ hk => hk.2) (.slice Ao30 y122.length co30)) (fun _ hk => hk.2) (.slice Ao29 t129.length co29)) (fun _ hk => trivial)), fun _ => (by (with_reducible repeat (first | apply Kd.R_alloc | apply Kd.R_drewN | apply Kd.R_drew)); exact Kd.R_mono (Kd.R_far (p := ⟨gb132, 2, none⟩) (Kd.R_far (p := ⟨gb132, 1, none⟩) (Kd.R_far (p := ⟨gb132, 0, none⟩) (Kd.R_types HO127.out BK132.out (by decide)) (fun _ hk => hk.2) (.slice Ao31 y118.length co31)) (fun _ hk => hk.2) (.slice Ao30 y122.length co30)) (fun _ hk => hk.2) (.slice Ao29 t129.length co29)) (fun _ hk => trivial)), fun _ => (by (with_reducible repeat (first | apply Kd.R_alloc | apply Kd.R_drewN | apply Kd.R_drew)); exact Kd.R_mono (Kd.R_far (p := ⟨gb132, 2, none⟩) (Kd.R_far (p := ⟨gb132, 1, none⟩) (Kd.R_far (p := ⟨gb132, 0, none⟩) (Kd.R_types HO131.out BK132.out (by decide)) (fun _ hk => hk.2) (.slice Ao31 y118.length co31)) (fun _ hk => hk.2) (.slice Ao30 y122.length co30)) (fun _ hk => hk.2) (.slice Ao29 t129.length co29)) (fun _ hk => trivial)), fun _ h1_ => absurd ((up_self b 12).symm.trans h1_) (by decide), fun _ => GW132.out, fun _ => GE132.out, fun _ => NB116_132.out, fun _ => NB132_116.out, fun _ => (by (with_reducible repeat (first | refine blk_drewN ?_ _ | refine blk_drew ?_ | refine blk_alloc ?_ _)); refine blk_put (cs := #[.slice Ao31 y118.length co31, .slice Ao30 y122.length co30, .slice none 0 0]) ?_ 2 _ rfl; (with_reducible repeat (first | refine blk_drewN ?_ _ | refine blk_drew ?_ | refine blk_alloc ?_ _)); refine blk_put (cs := #[.slice Ao31 y118.length co31, .slice none 0 0, .slice none 0 0]) ?_ 1 _ rfl; (with_reducible repeat (first | refine blk_drewN ?_ _ | refine blk_drew ?_ | refine blk_alloc ?_ _)); refine blk_put (cs := #[.slice none 0 0, .slice none 0 0, .slice none 0 0]) ?_ 0 _ rfl; (with_reducible repeat (first | refine blk_drewN ?_ _ | refine blk_drew ?_ | refine blk_alloc ?_ _)); exact BK132.out), Q_X10_, Q_X11_, Q_NA⟩
       exact steps_nil
      rintro b a w31 hall ⟨v119, v123, v126, v130, gb132, m10_, m11_, ha, Q_BK116, Q_HB, Q_HO120, Q_HO124, Q_HO127, Q_HO131, Q_BK132, Q_GW132, Q_GE132, Q_NB116_132, Q_NB132_116, Q_BK132_e12, Q_X10_, Q_X11_, Q_NA⟩
      clear BK116 HB
      have hb1_ := hall 1 (by kernel_rfl)
      have hb2_ := hall 2 (by kernel_rfl)
      have hb4_ := hall 4 (by kernel_rfl)
      have hb5_ := hall 5 (by kernel_rfl)
      have hb6_ := hall 6 (by kernel_rfl)
      have hb8_ := hall 8 (by kernel_rfl)
      have hb9_ := hall 9 (by kernel_rfl)
      have hb10_ := hall 10 (by kernel_rfl)
      have hb11_ := hall 11 (by kernel_rfl)
      have hb12_ := hall 12 (by kernel_rfl)
      subst ha
      obtain rfl := Q_X10_ hb10_
      obtain rfl := Q_X11_ hb11_
      simp only [putSel, hb1_, hb2_, hb4_, hb5_, hb6_, hb8_, hb9_, hb10_, hb11_, hb12_, if_true, Act.put, List.setIfInBounds_toArray, List.set_cons_zero, List.set_cons_succ]
      have BK116 := Aside0.mk Q_BK116
      clear Q_BK116
      have HB := Aside0.mk Q_HB
      clear Q_HB
      have HO120 := Aside0.mk (Q_HO120 hb2_)
      clear Q_HO120
      have HO124 := Aside0.mk (Q_HO124 hb5_)
      clear Q_HO124
      have HO127 := Aside0.mk (Q_HO127 hb6_)
      clear Q_HO127
      have HO131 := Aside0.mk (Q_HO131 hb9_)
      clear Q_HO131
      clear Q_BK132
      have GW132 := Aside0.mk (Q_GW132 hb11_)
      clear Q_GW132
      have GE132 := Aside0.mk (Q_GE132 hb11_)
      clear Q_GE132
      have NB116_132 := Aside0.mk (Q_NB116_132 hb11_)
      clear Q_NB116_132
      have NB132_116 := Aside0.mk (Q_NB132_116 hb11_)
      clear Q_NB132_116
      have BK132 := Aside0.mk (Q_BK132_e12 hb12_)
      clear Q_BK132_e12
      have NA := Aside0.mk (Q_NA hb2_ hb9_)
      clear Q_NA
      clear hall hb1_ hb2_ hb4_ hb5_ hb6_ hb8_ hb9_ hb10_ hb11_ hb12_
      obtain ⟨Ao32, co32, eo32⟩ := Kd.R_slice HO131.out
      (first | subst eo32 | (injection eo32 with f1_ f2_ f3_; have f4_ := f1_.symm; have f5_ := f3_.symm; clear f1_ f2_ f3_; subst f4_; subst f5_))
      obtain ⟨Ao33, co33, eo33⟩ := Kd.R_slice HO124.out
      (first | subst eo33 | (injection eo33 with f1_ f2_ f3_; have f4_ := f1_.symm; have f5_ := f3_.symm; clear f1_ f2_ f3_; subst f4_; subst f5_))
      obtain ⟨Ao34, co34, eo34⟩ := Kd.R_slice HO120.out
      (first | subst eo34 | (injection eo34 with f1_ f2_ f3_; have f4_ := f1_.symm; have f5_ := f3_.symm; clear f1_ f2_ f3_; subst f4_; subst f5_))
      try go_wp2
      go_loopg [29] k (fun kq v29 w' => ∃ (x29_1 : Int) (x133001_1 : List Bool) (u133001 : Value), v29 = .int .i64 x29_1 ∧ Aside0 (diffs_grow.l0 kq l0_1 l1 (l1.length : Int) x29_1 y118 x133001_1 t129 = some (r1, r2, r3, r4)) ∧ Aside0 (kq ≤ k) ∧ Aside0 (Kd.R (Kd.int .i64) 3 w' w.heap.size (fun k_ => some k_ ≠ ((.slice Ao32 t129.length co32) : Value).ownBlock) (.slice Ao34 y118.length co34) y118) ∧ Aside0 (Kd.R Kd.bool 4 w' w.heap.size (fun _ => True) u133001 x133001_1) ∧ Aside0 (Kd.R (Kd.int .i64) 3 w' w.heap.size (fun k_ => some k_ ≠ ((.slice Ao34 y118.length co34) : Value).ownBlock) (.slice Ao32 t129.length co32) t129) ∧ Aside0 (w'.heap[gb116]? = some (.cells #[(.slice none 0 0), (.slice none 0 0), (.slice none 0 0)] 88 (0, 0))) ∧ Aside0 (w'.heap[gb132]? = some (.cells #[(.slice Ao34 y118.length co34), u133001, (.slice Ao32 t129.length co32)] 88 (0, 0))) ∧ Aside0 (Below w.heap.size w w'))
      case atStart => exact ⟨(0), (y122), (.slice Ao33 y122.length co33), (by first | rfl | (simp; done) | (simp [*]; done)), H', ⟨Nat.le_refl _⟩, ⟨by (with_reducible repeat (first | apply Kd.R_alloc | apply Kd.R_drewN | apply Kd.R_drew)); exact ⟨fun k_ hk_ => NA.out k_ hk_.symm, HO120.out.2⟩⟩, ⟨HO124.out⟩, ⟨by (with_reducible repeat (first | apply Kd.R_alloc | apply Kd.R_drewN | apply Kd.R_drew)); exact ⟨fun k_ hk_ e_ => NA.out k_ e_ hk_.symm, HO131.out.2⟩⟩, ⟨BK116.out⟩, ⟨BK132.out⟩, ⟨by repeat (first | (with_reducible first | exact HB.out | apply below_alloc | apply pw_below_drewN | apply below_drew1 | refine below_set ?_ GE132.out) | exact HB.out)⟩⟩
      case round =>
       clear H'
       (try clear c1); (try clear p2); (try clear c4); (try clear c4b0); (try clear c4b1); (try clear c5); (try clear c5b0); (try clear c5b1); (try clear c7); (try clear c7b0); (try clear c7b1); (try clear c8); (try clear c8b0); (try clear c8b1); (try clear c11); (try clear c15)
       obtain ⟨x29_1, x133001_1, u133001, rfl, HA, HK1, HO_133000, HO_133001, HO_133002, BK116, BK132, HB⟩ := hrel
       cases gk with
       | zero => exact absurd HA.out (by simp [diffs_grow.l0])
       | succ k1 =>
        have H := HA.out
        clear HA
        simp only [diffs_grow.l0] at H
        by_cases c35 : x29_1 < (l1.length : Int)
        ·rw [if_pos c35] at H
         have c35b0 : decide (x29_1 < (l1.length : Int)) = true := decide_eq_true c35
         clear c35
         by_cases c36 : 0 ≤ x29_1
         ·rw [if_pos c36] at H
          have c36b0 : decide (0 ≤ x29_1) = true := decide_eq_true c36
          clear c36
          by_cases c37 : x29_1 < (l1.length : Int)
          ·rw [if_pos c37] at H
           have c37b0 : decide (x29_1 < (l1.length : Int)) = true := decide_eq_true c37
           clear c37
           by_cases c38 : 0 ≤ (rd l1 x29_1)
           ·rw [if_pos c38] at H
            have c38b0 : decide (0 ≤ (rd l1 x29_1)) = true := decide_eq_true c38
            clear c38
            by_cases c39 : (rd l1 x29_1) < (x133001_1.length : Int)
            ·rw [if_pos c39] at H
             have c39b0 : decide ((rd l1 x29_1) < (x133001_1.length : Int)) = true := decide_eq_true c39
             clear c39
             obtain ⟨y134, hy134⟩ : ∃ y_ : List Bool, y_ = (x133001_1.set ((rd l1 x29_1) : Int).toNat true) := ⟨_, rfl⟩
             replace H : (diffs_grow.l0 k1 l0_1 l1 (l1.length : Int) (wrap64 (x29_1 + 1)) y118 y134 t129) = some (r1, r2, r3, r4) := by first | (rw [hy134]; with_reducible exact H) | (have H2_ := (Option.bind_some _ _).symm.trans H; rw [hy134]; with_reducible exact H2_) | (have H2_ := (Option.bind_some _ _).symm.trans H; with_reducible exact H2_) | with_reducible exact H | (rw [hy134]; exact H) | exact H
             have Ny134 := Aside0.mk hy134
             clear hy134
             have H' := Aside0.mk H
             clear H
             have p133 : 0 ≤ (x29_1 : Int) := of_decide_eq_true (by first | (with_reducible assumption) | assumption)
             have q133 : x29_1 < (l1.length : Int) := of_decide_eq_true (by first | (with_reducible assumption) | assumption)
             obtain ⟨ad133, e133, hx133_0⟩ := Kd.at_int (Kd.C_below HRO.out HBO.out) x29_1 p133 q133
             cases e133
             replace hx133_0 := (HB.out.cell (World.block_lt_of_cell? w _ hx133_0)).trans hx133_0
             replace p133 := eq_true p133
             replace q133 := eq_true q133
             have hnb41 := NB132_116.out
             have hnc41 := NB116_132.out
             have hcz42_0 : wr.cell? ⟨gb132, 0, none⟩ = some (.slice Ao34 y118.length co34) := (blk_cell BK132.out 0).trans rfl
             have hcz42_1 : wr.cell? ⟨gb132, 1, none⟩ = some (u133001) := (blk_cell BK132.out 1).trans rfl
             have hcz42_2 : wr.cell? ⟨gb132, 2, none⟩ = some (.slice Ao32 t129.length co32) := (blk_cell BK132.out 2).trans rfl
             have hfz42_0 := blk_frozen BK132.out 0
             have hfz42_1 := blk_frozen BK132.out 1
             have hfz42_2 := blk_frozen BK132.out 2
             have p40 : 0 ≤ ((rd l1 x29_1) : Int) := of_decide_eq_true (by first | (with_reducible assumption) | assumption)
             have q40 : ((rd l1 x29_1) : Int) < ((x133001_1.length : Int) : Int) := of_decide_eq_true (by first | (with_reducible assumption) | assumption)
             obtain ⟨go40, co40, eo40, gb40, gl40, cl40, HG40⟩ := Kd.R_form HO_133001.out (by omega)
             (first | cases eo40 | (injection eo40 with ea_ en_ ec_; (first | subst ea_ | (injection ea_ with ea_; subst ea_)); subst ec_; clear en_))
             have GB40 := Aside0.mk gb40
             have GG40 := Aside0.mk HG40
             clear gb40 gl40 HG40
             obtain ⟨hx40_0, hf40_0⟩ := Kd.R_celln false HO_133001.out ((rd l1 x29_1) : Int) p40 q40
             replace p40 := eq_true p40
             replace q40 := eq_true q40
             have HP43 := Kd.R_putg HO_133001.out ((rd l1 x29_1) : Int) true
             go_wp2_with (first | ((with_reducible refine gate_store (t := 4) (p := 36) rfl ?_); refine store_event (t := 4) (p := 36) (v := ?vo_w44) (w1 := (wr.setCell ⟨go40, ((rd l1 x29_1) : Int).toNat, none⟩ (.bool true))) ?hg ?ho ?hn ?hr ?_; (case ho => rfl); (case hg => rfl); (case hn => rfl); (case hr => first | (go_simp; done) | (go_simp; rfl)); intro w44 hw; have hg : wr.grownBy w44 (some go40) := (by rw [hw]; exact HP43.2); have hp_ : Kd.R Kd.bool 4 w44 w.heap.size (fun _ => True) (.slice (some ⟨go40, 0, none⟩) x133001_1.length co40) y134 := (by rw [hw, Ny134.out]; exact HP43.1); clear HP43; replace HO_133000 := Aside0.mk (Kd.R_over' (v := (.slice (some ⟨go40, 0, none⟩) x133001_1.length co40)) HO_133000.out (Kd.R_typed HO_133001.out) (by decide) hg); replace HO_133002 := Aside0.mk (Kd.R_over' (v := (.slice (some ⟨go40, 0, none⟩) x133001_1.length co40)) HO_133002.out (Kd.R_typed HO_133001.out) (by decide) hg); replace BK116 := Aside0.mk (blk_grown (g := gb116) (o := .cells #[.slice none 0 0, .slice none 0 0, .slice none 0 0] 88 (0, 0)) BK116.out hg (Kd.R_ne HO_133001.out BK116.out (by decide))); replace BK132 := Aside0.mk (blk_grown (g := gb132) (o := .cells #[.slice Ao34 y118.length co34, .slice (some ⟨go40, 0, none⟩) x133001_1.length co40, .slice Ao32 t129.length co32] 88 (0, 0)) BK132.out hg (Kd.R_ne HO_133001.out BK132.out (by decide))); replace HO_133001 := Aside0.mk (hp_); replace HB := Aside0.mk ((by rw [hw]; exact below_set (HB.out) GB40.out : Below w.heap.size w w44)); clear hg hw hp_))
             go_roundg k1
             case measure => have := HK1.out; omega
             case rel => exact ⟨(wrap64 (x29_1 + 1)), (y134), (.slice (some ⟨go40, 0, none⟩) x133001_1.length co40), (by first | rfl | (simp; done) | (simp [*]; done)), H', ⟨by have := HK1.out; omega⟩, ⟨HO_133000.out⟩, ⟨HO_133001.out⟩, ⟨HO_133002.out⟩, ⟨BK116.out⟩, ⟨BK132.out⟩, ⟨by repeat (first | (with_reducible first | exact HB.out | apply below_alloc | apply pw_below_drewN | apply below_drew1 | refine below_set ?_ GE132.out) | exact HB.out)⟩⟩
            ·rw [if_neg c39] at H
             exact absurd H (by simp)
           ·rw [if_neg c38] at H
            exact absurd H (by simp)
          ·rw [if_neg c37] at H
           exact absurd H (by simp)
         ·rw [if_neg c36] at H
          exact absurd H (by simp)
        ·rw [if_neg c35] at H
         have c35b0 : decide (x29_1 < (l1.length : Int)) = false := decide_eq_false c35
         clear c35
         have H' := Aside0.mk H
         clear H
         go_wp2
         go_step3
         go_step
         go_step
         exact hrest_.out k1 _ _ ⟨w, A0_1, c0_1, gb116, gb132, y118, x133001_1, t129, .slice Ao34 y118.length co34, u133001, .slice Ao32 t129.length co32, _, _, _, _, _, _, _, _, _, _, _, _, _, _, _, _, _, _, _, _, _, _, _, _, _, _, _, _, _, _, _, _, _, _, _, _, _, _, _, _, _, _, _, _, _, _, _, _, _, _, _, _, _, _, _, _, _, _, _, _, _, _, _, _, _, _, _, _, _, _, _, _, _, _, _, _, _, _, _, _, _, _, _, _, _, _, _, _, _, _, _, _, _, _, _, _, _, _, _, _, _, _, _, _, _, _, _, _, _, _, _, _, rfl, H', HBO, HR0_1, HC0_1, GE116O, GE132, NB116_132, NB132_116, HO_133000, HO_133001, HO_133002, BK116, BK132, HB⟩
    ·rw [if_neg c8] at H
     exact absurd H (by simp)
   ·rw [if_neg c7] at H
    exact absurd H (by simp)
  ·rw [if_neg c5] at H
   exact absurd H (by simp)
 ·rw [if_neg c4] at H
  exact absurd H (by simp)
end Go.Proofs.Ytpolojoeabmhdaa.A
