/- step: as much as possible along one shortest walk. -/
import Derived.Test.YtpolojoeabmhdaaHUse
import Derived.StillTailTactics
namespace Go.Proofs.Ytpolojoeabmhdaa.A
open Go.RowKit Go.Proofs.YtpolojoeabmhdaaW.PrintWords Go.Proofs.YtpolojoeabmhdaaW.PrintLast Go.Proofs.YtpolojoeabmhdaaW.PrintMore
attribute [local go_sem] max2_int min2_int max_two min_two max_three min_three max_four min_four
set_option linter.unusedVariables false
set_option linter.unusedSimpArgs false
section
variable {P : Program} {ops : Array Oper} {Q : Exit → Act → World → Prop}
/-- A struct is stored into its own block. -/
theorem store_box {rest : List Oper} {o : Oper} {a : Act} {W : World} (hgd : o.guard = none) (hd : o.dst = none) (t : TypeId) (p x : Operand) (ho : o.op = .store t p x) (seg : List Value) (hinfo : (P.info? t).map (·.size) = some seg.length)
  (g : Nat) (haddr : a.eval p = .pointer (some ⟨g, 0, none⟩)) (u : Value) (hx : a.eval x = u) (hu : u.cells.toList = seg) (h1 : ∀ q ∈ seg, q.oneCell' = true) (cs : Array Value) (hb : W.heap[g]? = some (.cells cs t (0, 0))) (hcs : cs.size = seg.length)
  (h : ∀ w1, w1.heap[g]? = some (.cells seg.toArray t (0, 0)) → W.grownBy w1 (some g) → wpList P ops Q rest a w1) : wpList P ops Q (o :: rest) a W := by
 have hrun := run_store_run (P := P) (w := W) (g := g) (o := 0) (e := t) (cur := cs) t u seg hb hu hinfo (by omega) h1
 obtain ⟨cur', h3, h4, h5⟩ := setCells_row seg 0 W cs hb (by omega)
 obtain ⟨s1, s2, s3, s4⟩ := setCells_same g seg 0 W
 have e : cur' = seg.toArray := by
  apply Array.ext'
  rw [h5]
  have : cs.toList.drop seg.length = [] := List.drop_eq_nil_of_le (by simp [hcs])
  simp [this]
 subst e
 refine wpList_plain hgd fun K hK => ?_
 unfold Oper.wp execOp
 simp only [ho, Sem.run_bind, haddr, hx, hrun, Result.andThen_ok, Sem.run_pure, List.map_toArray, List.map_cons, List.map_nil]
 have h' := h _ h3 ⟨s1, s2, s3, by rw [s4]; exact Nat.le_refl _, fun k _ hk => setCells_far _ _ k (fun he => hk (by rw [he]))⟩
 refine hK _ _ ?_
 simpa [hd, Act.put] using h'
end
/-- Two values lie in blocks of their own. -/
def Dj (u v : Value) : Prop := ∀ k, u.ownBlock = some k → v.ownBlock ≠ some k
theorem Dj.symm {u v : Value} (h : Dj u v) : Dj v u := fun k hk e => h k e hk
theorem Dj.ne {u v : Value} (h : Dj u v) : ∀ k, u.ownBlock = some k → some k ≠ v.ownBlock := fun k hk e => h k hk e.symm
theorem Dj.fresh {α β : Type} {d : Kd α} {d' : Kd β} {e e' base base' : Nat} {ok ok' : Nat → Prop} {w w1 : World} {u v : Value} {xs : List α} {ys : List β} (hu : d.R e w base ok u xs) (hv : d'.R e' w1 base' ok' v ys) (hb : w.heap.size ≤ base') : Dj u v := fun k hk hv2 => by
 have := Kd.R_lt hu k hk
 have := Kd.R_base hv k hv2
 omega
def pathL (L : List S39) (last : List Int) : Nat → Int → List Int → Option (List Int × Int)
 | 0, _, _ => none
 | k + 1, v, acc => if 0 ≤ v ∧ v < last.length then
   (if rd last v ≥ 0 then (if rd last v < L.length ∧ acc.length < 65536 then pathL L last k (rd_T39 L (rd last v)).f0 (acc ++ [rd last v]) else none) else some (acc, v)) else none
def muchL (nd : Int) (flow U : List Int) : List Int → Int → Option Int
 | [], m => some m
 | k :: ks, m => if k ≥ nd then (if (0 ≤ wrap64 (k - nd) ∧ wrap64 (k - nd) < U.length) ∧ 0 ≤ rd U (wrap64 (k - nd)) ∧ rd U (wrap64 (k - nd)) < flow.length then muchL nd flow U ks (min m (rd flow (rd U (wrap64 (k - nd))))) else none) else muchL nd flow U ks m
def applyL (nd : Int) (U : List Int) (much : Int) : List Int → List Int → Option (List Int)
 | [], flow => some flow
 | k :: ks, flow => if k ≥ nd then (if (0 ≤ wrap64 (k - nd) ∧ wrap64 (k - nd) < U.length) ∧ 0 ≤ rd U (wrap64 (k - nd)) ∧ rd U (wrap64 (k - nd)) < flow.length then applyL nd U much ks (flow.set (rd U (wrap64 (k - nd))).toNat (wrap64 (rd flow (rd U (wrap64 (k - nd))) - much))) else none)
   else (if 0 ≤ k ∧ k < flow.length then applyL nd U much ks (flow.set k.toNat (wrap64 (rd flow k + much))) else none)
def much1 (want : List Int) (tg : Int) : Int := if tg = 0 then 1152921504606846976 else rd want tg
def much2 (want : List Int) (tg v : Int) : Int := if v = 0 then much1 want tg else min (much1 want tg) (wrap64 (-(rd want v)))
def want1 (want : List Int) (tg m : Int) : List Int := if tg = 0 then want else want.set tg.toNat (wrap64 (rd want tg - m))
def want2 (want : List Int) (tg v m : Int) : List Int := if v = 0 then want1 want tg m else (want1 want tg m).set v.toNat (wrap64 (rd (want1 want tg m) v + m))
def stepL (k : Nat) (n0 : Int) (diffs : List S39) (flow want : List Int) (tg : Int) (givers : List Int) : Option (Bool × List Int × List Int) :=
 (diffs_grow.f k n0 (linesL diffs flow) givers).bind fun t =>
  if 0 ≤ tg ∧ tg < t.2.1.length ∧ tg < want.length then
   (if rdOf false t.2.1 tg = false then some (false, flow, want)
   else (pathL (linesL diffs flow) t.2.2.1 k tg []).bind fun p =>
    if p.2 < want.length then
     (muchL (diffs.length : Int) flow (usedL flow 0) p.1 (much2 want tg p.2)).bind fun m =>
      (applyL (diffs.length : Int) (usedL flow 0) m p.1 flow).bind fun flow' => some (true, flow', want2 want tg p.2 m)
    else none)
  else none
/-- What step holds in the memory, behind the growing. -/
structure St (g g9 : Nat) (C1 C9 : Array Value) (vF vW vL vU vA : Value) (L : List S39) (U la : List Int) (w0 : World) (flow want : List Int) (W : World) : Prop where
 bu : W.heap[g]? = some (.cells C1 96 (0, 0))
 bt : W.heap[g9]? = some (.cells C9 88 (0, 0))
 rf : Kd.R (Kd.int .i64) 3 W w0.heap.size (fun _ => True) vF flow
 rw : Kd.R (Kd.int .i64) 3 W w0.heap.size (fun _ => True) vW want
 rl : Kd.R k39 39 W w0.heap.size (fun _ => True) vL L
 ru : Kd.R (Kd.int .i64) 3 W w0.heap.size (fun _ => True) vU U
 ra : Kd.R (Kd.int .i64) 3 W w0.heap.size (fun _ => True) vA la
 hb : Below w0.heap.size w0 W
/-- A block that is none of these. -/
structure Away (g g9 : Nat) (vF vW vL vU vA : Value) (w0 : World) (k : Nat) : Prop where
 g : k ≠ g
 g9 : k ≠ g9
 f : vF.ownBlock ≠ some k
 w : vW.ownBlock ≠ some k
 l : vL.ownBlock ≠ some k
 u : vU.ownBlock ≠ some k
 a : vA.ownBlock ≠ some k
 b : w0.heap.size ≤ k
section
variable {g g9 : Nat} {C1 C9 : Array Value} {vF vW vL vU vA : Value} {L : List S39} {U la flow want : List Int} {w0 W W1 : World}
theorem St.away (h : St g g9 C1 C9 vF vW vL vU vA L U la w0 flow want W) {k : Nat} (hk : W.heap.size ≤ k) : Away g g9 vF vW vL vU vA w0 k :=
 ⟨fun e => by have := blk_lt h.bu; omega, fun e => by have := blk_lt h.bt; omega, fun e => by have := Kd.R_lt h.rf k e; omega, fun e => by have := Kd.R_lt h.rw k e; omega, fun e => by have := Kd.R_lt h.rl k e; omega, fun e => by have := Kd.R_lt h.ru k e; omega, fun e => by have := Kd.R_lt h.ra k e; omega, Nat.le_trans h.hb.size hk⟩
theorem St.grown (h : St g g9 C1 C9 vF vW vL vU vA L U la w0 flow want W) {row : Option Nat} (hg : W.grownBy W1 row) (ha : ∀ k, row = some k → Away g g9 vF vW vL vU vA w0 k) : St g g9 C1 C9 vF vW vL vU vA L U la w0 flow want W1 :=
 ⟨blk_grown h.bu hg (fun e => (ha _ e.symm).g rfl), blk_grown h.bt hg (fun e => (ha _ e.symm).g9 rfl), Kd.R_grown2 h.rf rfl hg (fun k e e2 => (ha k e).f e2.symm), Kd.R_grown2 h.rw rfl hg (fun k e e2 => (ha k e).w e2.symm), Kd.R_grown2 h.rl rfl hg (fun k e e2 => (ha k e).l e2.symm), Kd.R_grown2 h.ru rfl hg (fun k e e2 => (ha k e).u e2.symm), Kd.R_grown2 h.ra rfl hg (fun k e e2 => (ha k e).a e2.symm), h.hb.grown hg h.hb.size (fun k e => (ha k e).b)⟩
theorem St.below (h : St g g9 C1 C9 vF vW vL vU vA L U la w0 flow want W) (hb : Below W.heap.size W W1) : St g g9 C1 C9 vF vW vL vU vA L U la w0 flow want W1 := h.grown (grown_of_below hb none) (fun _ e => by cases e)
/-- The flow is written in place. -/
theorem St.setF (h : St g g9 C1 C9 vF vW vL vU vA L U la w0 flow want W) {flow' : List Int} {k : Nat} (hk : vF.ownBlock = some k) (hg : W.grownBy W1 (some k)) (hr : Kd.R (Kd.int .i64) 3 W1 w0.heap.size (fun _ => True) vF flow') (h1 : k ≠ g) (h2 : k ≠ g9) (h3 : vW.ownBlock ≠ some k) (h4 : vL.ownBlock ≠ some k) (h5 : vU.ownBlock ≠ some k) (h6 : vA.ownBlock ≠ some k) : St g g9 C1 C9 vF vW vL vU vA L U la w0 flow' want W1 :=
 ⟨blk_grown h.bu hg (fun e => h1 (Option.some.inj e).symm), blk_grown h.bt hg (fun e => h2 (Option.some.inj e).symm), hr, Kd.R_grown2 h.rw rfl hg (fun k' e e2 => h3 (by rw [← e2, e])), Kd.R_grown2 h.rl rfl hg (fun k' e e2 => h4 (by rw [← e2, e])), Kd.R_grown2 h.ru rfl hg (fun k' e e2 => h5 (by rw [← e2, e])), Kd.R_grown2 h.ra rfl hg (fun k' e e2 => h6 (by rw [← e2, e])), h.hb.grown hg h.hb.size (fun k' e => by cases e; exact Kd.R_base h.rf k hk)⟩
theorem St.setW (h : St g g9 C1 C9 vF vW vL vU vA L U la w0 flow want W) {want' : List Int} {k : Nat} (hk : vW.ownBlock = some k) (hg : W.grownBy W1 (some k)) (hr : Kd.R (Kd.int .i64) 3 W1 w0.heap.size (fun _ => True) vW want') (h1 : k ≠ g) (h2 : k ≠ g9) (h3 : vF.ownBlock ≠ some k) (h4 : vL.ownBlock ≠ some k) (h5 : vU.ownBlock ≠ some k) (h6 : vA.ownBlock ≠ some k) : St g g9 C1 C9 vF vW vL vU vA L U la w0 flow want' W1 :=
 ⟨blk_grown h.bu hg (fun e => h1 (Option.some.inj e).symm), blk_grown h.bt hg (fun e => h2 (Option.some.inj e).symm), Kd.R_grown2 h.rf rfl hg (fun k' e e2 => h3 (by rw [← e2, e])), hr, Kd.R_grown2 h.rl rfl hg (fun k' e e2 => h4 (by rw [← e2, e])), Kd.R_grown2 h.ru rfl hg (fun k' e e2 => h5 (by rw [← e2, e])), Kd.R_grown2 h.ra rfl hg (fun k' e e2 => h6 (by rw [← e2, e])), h.hb.grown hg h.hb.size (fun k' e => by cases e; exact Kd.R_base h.rw k hk)⟩
theorem grown_set (w : World) (a : Addr) (u : Value) : w.grownBy (w.setCell a u) (some a.block) :=
 ⟨rfl, rfl, rfl, Nat.le_of_eq (by simp), fun k _ h => Below.heap_setCell w a u k (fun e => h (by rw [e]))⟩
/-- One element of the flow is written. -/
theorem St.putF {gF n c : Nat} (h : St g g9 C1 C9 (.slice (some ⟨gF, 0, none⟩) n c) vW vL vU vA L U la w0 flow want W) (i x : Int) (d1 : Dj (.slice (some ⟨gF, 0, none⟩) n c) vW) (d2 : Dj (.slice (some ⟨gF, 0, none⟩) n c) vU) (d3 : Dj (.slice (some ⟨gF, 0, none⟩) n c) vA) : St g g9 C1 C9 (.slice (some ⟨gF, 0, none⟩) n c) vW vL vU vA L U la w0 (flow.set i.toNat x) want (W.setCell ⟨gF, i.toNat, none⟩ (.int .i64 x)) := by
 obtain ⟨rfl, _⟩ := Kd.R_reads' h.rf
 have hp := Kd.R_put h.rf i x
 refine h.setF rfl hp.2 ?_ (fun e => Kd.R_ne h.rf h.bu (by decide) (by rw [← e]; rfl)) (fun e => Kd.R_ne h.rf h.bt (by decide) (by rw [← e]; rfl)) (d1 _ rfl) (fun e => ?_) (d2 _ rfl) (d3 _ rfl)
 ·exact hp.1
 ·obtain ⟨cells, hc⟩ := Kd.R_typed h.rf gF rfl
  obtain ⟨cells', hc'⟩ := Kd.R_typed h.rl gF e
  rw [hc] at hc'
  simp at hc'
/-- One element of what is wanted is written. -/
theorem St.putW {gF n c : Nat} (h : St g g9 C1 C9 vF (.slice (some ⟨gF, 0, none⟩) n c) vL vU vA L U la w0 flow want W) (i x : Int) (d1 : Dj vF (.slice (some ⟨gF, 0, none⟩) n c)) (d2 : Dj (.slice (some ⟨gF, 0, none⟩) n c) vU) (d3 : Dj (.slice (some ⟨gF, 0, none⟩) n c) vA) : St g g9 C1 C9 vF (.slice (some ⟨gF, 0, none⟩) n c) vL vU vA L U la w0 flow (want.set i.toNat x) (W.setCell ⟨gF, i.toNat, none⟩ (.int .i64 x)) := by
 obtain ⟨rfl, _⟩ := Kd.R_reads' h.rw
 have hp := Kd.R_put h.rw i x
 refine h.setW rfl hp.2 ?_ (fun e => Kd.R_ne h.rw h.bu (by decide) (by rw [← e]; rfl)) (fun e => Kd.R_ne h.rw h.bt (by decide) (by rw [← e]; rfl)) (d1.symm _ rfl) (fun e => ?_) (d2 _ rfl) (d3 _ rfl)
 ·exact hp.1
 ·obtain ⟨cells, hc⟩ := Kd.R_typed h.rw gF rfl
  obtain ⟨cells', hc'⟩ := Kd.R_typed h.rl gF e
  rw [hc] at hc'
  simp at hc'
end
set_option maxHeartbeats 8000000 in
set_option maxRecDepth 100000 in
theorem use_step.calls (k : Nat) (g : Nat) (n0 : Int) (AD : Option Addr) (cD : Nat) (diffs : List S39) (vF vW : Value) (flow want : List Int) (tg : Int) (AG : Option Addr) (cG : Nat) (givers : List Int) (r1 : Bool) (r2 r3 : List Int) (w0 w : World)
  (hB : Below w0.heap.size w0 w) (hg : w0.heap.size ≤ g) (hb : w.heap[g]? = some (.cells #[.int .i64 n0, .slice AD diffs.length cD, vF, vW] 96 (0, 0)))
  (hD : Kd.C k39 w0 AD diffs.length diffs) (hcD : diffs.length ≤ cD) (hF : Kd.R (Kd.int .i64) 3 w w0.heap.size (fun _ => True) vF flow) (hW : Kd.R (Kd.int .i64) 3 w w0.heap.size (fun _ => True) vW want) (hne : Dj vF vW)
  (hG : Kd.C (Kd.int .i64) w AG givers.length givers) (hcG : givers.length ≤ cG) (hfd : flow.length = diffs.length) (hl : diffs.length ≤ 65536) (hm : ∀ d ∈ diffs, -4611686018427387904 ≤ d.f2 ∧ d.f2 ≤ 4611686018427387904)
  (h : stepL k n0 diffs flow want tg givers = some (r1, r2, r3)) :
  Calls Try.prog 126 #[.pointer (some ⟨g, 0, none⟩), .int .i64 tg, .slice AG givers.length cG] w fun e w' => e = .returned (.bool r1) ∧ w'.heap[g]? = some (.cells #[.int .i64 n0, .slice AD diffs.length cD, vF, vW] 96 (0, 0)) ∧ Kd.R (Kd.int .i64) 3 w' w0.heap.size (fun _ => True) vF r2 ∧ Kd.R (Kd.int .i64) 3 w' w0.heap.size (fun _ => True) vW r3 ∧ Below w0.heap.size w0 w' := by
 unfold stepL at h
 obtain ⟨⟨lo, ha, la, bad⟩, hgr, h⟩ := Option.bind_eq_some_iff.mp h
 simp only at h
 by_cases hto : 0 ≤ tg ∧ tg < (ha.length : Int) ∧ tg < (want.length : Int)
 case neg => rw [if_neg hto] at h; exact absurd h (by simp)
 rw [if_pos hto] at h
 obtain ⟨AF, cF, rfl⟩ := own_slice (Kd.own_of_R hF)
 obtain ⟨AW, cW, rfl⟩ := own_slice (Kd.own_of_R hW)
 have HD := Aside0.mk hD
 have HCD := Aside0.mk hcD
 have HF := Aside0.mk hF
 have HW := Aside0.mk hW
 have DFW := Aside0.mk hne
 have HG := Aside0.mk hG
 have HCG := Aside0.mk hcG
 have HFD := Aside0.mk hfd
 have HL := Aside0.mk hl
 have HM := Aside0.mk hm
 have HGR := Aside0.mk hgr
 have HTO := Aside0.mk hto
 have HB := Aside0.mk hB
 have HGE := Aside0.mk hg
 have BU := Aside0.mk hb
 have HX := Aside0.mk (Below.refl w.heap.size w)
 clear hB hg hb hD hcD hF hW hne hG hcG hfd hl hm hgr
 by_cases hv : rdOf false ha tg = false
 ·rw [if_pos hv] at h
  simp only [Option.some.injEq, Prod.mk.injEq] at h
  obtain ⟨rfl, rfl, rfl⟩ := h
  have HV := Aside0.mk hv
  clear hv hto
  go_enter Try.func126, Try.ntmps126
  go_wp2_with (first
   | ((with_reducible refine gate_callee (f := 130) rfl ?_); refine goesL_ (some 19) rfl rfl Try.func130 (by kernel_rfl) rfl #[.pointer (some ⟨g, 0, none⟩)] rfl (by (try simp only [List.map_toArray, List.map_cons, List.map_nil]); first | done | rfl) ?_; (refine (use_lines.calls g _ AD cD diffs _ AF cF flow _ BU.out (Kd.C_below HD.out HB.out) HCD.out (Kd.R_reads' HF.out).2.2 HFD.out HL.out HM.out).mono ?_); rintro e w1 ⟨vL, rfl, ho, hb⟩; refine ⟨_, rfl, ?_⟩; have HLI := Aside0.mk ho; clear HX; have HX := Aside0.mk hb; clear ho hb; (obtain ⟨AL, cL, rfl⟩ := (show ∃ A c, vL = .slice A (linesL diffs flow).length c from (by obtain ⟨A, c, e, _⟩ := Kd.R_reads HLI.out; exact ⟨A, c, e⟩))))
   | ((with_reducible refine gate_callee (f := 131) rfl ?_); refine goesL_ (some 21) rfl rfl Try.func131 (by kernel_rfl) rfl #[.pointer (some ⟨g, 0, none⟩)] rfl (by (try simp only [List.map_toArray, List.map_cons, List.map_nil]); first | done | rfl) ?_; (refine (use_used.calls g _ _ _ AF cF flow _ (blk_below BU.out HX.out) (Kd.C_below (Kd.R_reads' HF.out).2.2 HX.out) (by have := HL.out; have := HFD.out; omega)).mono ?_); rintro e w2 ⟨vU, rfl, ho2, hb2⟩; refine ⟨_, rfl, ?_⟩; have n0_ := Aside0.mk (Kd.R_below HLI.out hb2); have HU := Aside0.mk (Kd.R_lower ho2 HX.out.size); have DFU := Aside0.mk (Dj.fresh HF.out ho2 HX.out.size); have DWU := Aside0.mk (Dj.fresh HW.out ho2 HX.out.size); have n1_ := Aside0.mk (below_step HX.out hb2); clear HX HLI ho2 hb2; have HX := n1_; have HLI := n0_; clear n0_ n1_; (obtain ⟨AU, cU, rfl⟩ := own_slice (Kd.own_of_R HU.out)))
   | ((with_reducible refine gate_callee (f := 82) rfl ?_); refine goesL_ (some 26) rfl rfl Try.func82 (by kernel_rfl) rfl #[.iface 91 (.pointer (some ⟨g, 0, none⟩)), .slice AG givers.length cG] rfl (by (try simp only [List.map_toArray, List.map_cons, List.map_nil]); first | done | rfl) ?_; (refine (diffs_grow.any k 91 _ n0 (linesL diffs flow) AG cG givers lo ha la bad _ (graph_use (blk_below BU.out HX.out) (Kd.C_below (Kd.C_below HD.out HB.out) HX.out) HCD.out (Kd.C_below (Kd.R_reads' HF.out).2.2 HX.out) HFD.out HL.out HM.out) (Kd.C_below HG.out HX.out) HCG.out HGR.out).mono ?_); rintro e w3 ⟨vlo, vha, vla, rfl, ho1, ho2, ho3, hb3⟩; refine ⟨_, rfl, ?_⟩; have VLO := Aside0.mk (show ∃ A n c, vlo = Value.slice A n c from (by obtain ⟨A, c, e, _⟩ := Kd.R_reads ho1; exact ⟨A, _, c, e⟩)); have DFA := Aside0.mk (Dj.fresh HF.out ho3 HX.out.size); have DWA := Aside0.mk (Dj.fresh HW.out ho3 HX.out.size); have DUA := Aside0.mk (Dj.fresh HU.out ho3 (Nat.le_refl _)); have n0_ := Aside0.mk (Kd.R_below HLI.out hb3); have n1_ := Aside0.mk (Kd.R_below HU.out hb3); have HHA := Aside0.mk (Kd.R_lower (Kd.R_mono ho2 (fun _ _ => trivial)) HX.out.size); have HLA := Aside0.mk (Kd.R_lower (Kd.R_mono ho3 (fun _ _ => trivial)) HX.out.size); have n2_ := Aside0.mk (below_step HX.out hb3); clear HX HLI HU ho1 ho2 ho3 hb3; have HX := n2_; have HLI := n0_; have HU := n1_; clear n0_ n1_ n2_; (obtain ⟨AH, cH, rfl⟩ := (show ∃ A c, vha = .slice A ha.length c from (by obtain ⟨A, c, e, _⟩ := Kd.R_reads HHA.out; exact ⟨A, c, e⟩))); (obtain ⟨AA, cA, rfl⟩ := (show ∃ A c, vla = .slice A la.length c from (by obtain ⟨A, c, e, _⟩ := Kd.R_reads HLA.out; exact ⟨A, c, e⟩))))
   | ((with_reducible refine gate_dst (N := 9) rfl ?_); refine box_event ?hg (N := 9) ?hd (cs := #[.slice none 0 0, .slice none 0 0, .slice none 0 0]) (t := 88) ?hr ?_; (case hd => rfl); (case hg => rfl); (case hr => first | (go_simp; done) | (go_simp; rfl)); intro g9 hg9 w4 hbox hb4; have n0_ := Aside0.mk (Kd.R_below HLI.out hb4); have n1_ := Aside0.mk (Kd.R_below HU.out hb4); have n3_ := Aside0.mk (Kd.R_below HLA.out hb4); have n4_ := Aside0.mk (Kd.R_below HHA.out hb4); have n2_ := Aside0.mk (below_step HX.out hb4); have BT := Aside0.mk hbox; have NG := Aside0.mk (show w.heap.size ≤ g9 ∧ (∀ k, (Value.slice AL (linesL diffs flow).length cL).ownBlock = some k → k ≠ g9) ∧ (∀ k, (Value.slice AU (usedL flow 0).length cU).ownBlock = some k → k ≠ g9) ∧ (∀ k, (Value.slice AA la.length cA).ownBlock = some k → k ≠ g9) ∧ (∀ k, (Value.slice AH ha.length cH).ownBlock = some k → k ≠ g9) from ⟨by rw [hg9]; exact HX.out.size, fun k e => by have := Kd.R_lt HLI.out k e; omega, fun k e => by have := Kd.R_lt HU.out k e; omega, fun k e => by have := Kd.R_lt HLA.out k e; omega, fun k e => by have := Kd.R_lt HHA.out k e; omega⟩); clear HX HLI HU HLA HHA hb4 hbox hg9; have HX := n2_; have HLI := n0_; have HU := n1_; have HLA := n3_; have HHA := n4_; clear n0_ n1_ n2_ n3_ n4_)
   | (refine gate_store (t := 88) (p := 9) (v := .tmp 27) rfl ?_; refine store_box rfl rfl 88 (.tmp 9) (.tmp 27) rfl [vlo, .slice AH ha.length cH, .slice AA la.length cA] (by rfl) g9 rfl _ rfl (by have := VLO.out; obtain ⟨Ao, no, co, rfl⟩ := this; rfl) (by intro q hq; simp only [List.mem_cons, List.not_mem_nil, or_false] at hq; obtain ⟨Ao, no, co, e⟩ := VLO.out; rcases hq with rfl | rfl | rfl; (subst e; rfl); rfl; rfl) _ BT.out rfl ?_; intro w5 hb5 hg5; have HS := Aside0.mk (St.mk (vF := .slice AF flow.length cF) (vW := .slice AW want.length cW) (blk_grown (blk_below BU.out HX.out) hg5 (fun e => by have := blk_lt BU.out; have := NG.out.1; have := Option.some.inj e; omega)) hb5 (Kd.R_grown2 (Kd.R_below HF.out HX.out) rfl hg5 (fun k e e2 => by have := Kd.R_lt HF.out k e2.symm; have := NG.out.1; have := Option.some.inj e; omega)) (Kd.R_grown2 (Kd.R_below HW.out HX.out) rfl hg5 (fun k e e2 => by have := Kd.R_lt HW.out k e2.symm; have := NG.out.1; have := Option.some.inj e; omega)) (Kd.R_lower (Kd.R_grown2 HLI.out rfl hg5 (fun k e e2 => NG.out.2.1 k e2.symm (Option.some.inj e).symm)) HB.out.size) (Kd.R_lower (Kd.R_grown2 HU.out rfl hg5 (fun k e e2 => NG.out.2.2.1 k e2.symm (Option.some.inj e).symm)) HB.out.size) (Kd.R_lower (Kd.R_grown2 HLA.out rfl hg5 (fun k e e2 => NG.out.2.2.2.1 k e2.symm (Option.some.inj e).symm)) HB.out.size) ((below_step HB.out HX.out).grown hg5 (Nat.le_trans HB.out.size HX.out.size) (fun k e => by have := NG.out.1; have := HB.out.size; have := Option.some.inj e; omega))); have HA5 := Aside0.mk (Kd.R_grown2 HHA.out rfl hg5 (fun k e e2 => NG.out.2.2.2.2 k e2.symm (Option.some.inj e).symm)); have hz0 : w5.cell? ⟨g9, 1, none⟩ = some (.slice AH ha.length cH) := (blk_cell hb5 1).trans rfl; clear BT hb5 hg5; (obtain ⟨adh, eh, hx0⟩ := Kd.at_bool (Kd.R_reads' HA5.out).2.2 tg HTO.out.1 HTO.out.2.1); cases eh; rw [HV.out] at hx0; have p0 := HTO.out.1; have p1 := HTO.out.2.1))
  go_ret
  exact ⟨rfl, HS.out.bu, HS.out.rf, HS.out.rw, HS.out.hb⟩
 ·rw [if_neg hv] at h
  replace hv : rdOf false ha tg = true := by simpa using hv
  have HV := Aside0.mk hv
  obtain ⟨⟨pl, pv⟩, hp, h⟩ := Option.bind_eq_some_iff.mp h
  simp only at h
  have HP := Aside0.mk hp
  have HH := Aside0.mk h
  clear hv hto h hp
  go_enter Try.func126, Try.ntmps126
  go_wp2_with (first
   | ((with_reducible refine gate_callee (f := 130) rfl ?_); refine goesL_ (some 19) rfl rfl Try.func130 (by kernel_rfl) rfl #[.pointer (some ⟨g, 0, none⟩)] rfl (by (try simp only [List.map_toArray, List.map_cons, List.map_nil]); first | done | rfl) ?_; (refine (use_lines.calls g _ AD cD diffs _ AF cF flow _ BU.out (Kd.C_below HD.out HB.out) HCD.out (Kd.R_reads' HF.out).2.2 HFD.out HL.out HM.out).mono ?_); rintro e w1 ⟨vL, rfl, ho, hb⟩; refine ⟨_, rfl, ?_⟩; have HLI := Aside0.mk ho; clear HX; have HX := Aside0.mk hb; clear ho hb; (obtain ⟨AL, cL, rfl⟩ := (show ∃ A c, vL = .slice A (linesL diffs flow).length c from (by obtain ⟨A, c, e, _⟩ := Kd.R_reads HLI.out; exact ⟨A, c, e⟩))))
   | ((with_reducible refine gate_callee (f := 131) rfl ?_); refine goesL_ (some 21) rfl rfl Try.func131 (by kernel_rfl) rfl #[.pointer (some ⟨g, 0, none⟩)] rfl (by (try simp only [List.map_toArray, List.map_cons, List.map_nil]); first | done | rfl) ?_; (refine (use_used.calls g _ _ _ AF cF flow _ (blk_below BU.out HX.out) (Kd.C_below (Kd.R_reads' HF.out).2.2 HX.out) (by have := HL.out; have := HFD.out; omega)).mono ?_); rintro e w2 ⟨vU, rfl, ho2, hb2⟩; refine ⟨_, rfl, ?_⟩; have n0_ := Aside0.mk (Kd.R_below HLI.out hb2); have HU := Aside0.mk (Kd.R_lower ho2 HX.out.size); have DFU := Aside0.mk (Dj.fresh HF.out ho2 HX.out.size); have DWU := Aside0.mk (Dj.fresh HW.out ho2 HX.out.size); have n1_ := Aside0.mk (below_step HX.out hb2); clear HX HLI ho2 hb2; have HX := n1_; have HLI := n0_; clear n0_ n1_; (obtain ⟨AU, cU, rfl⟩ := own_slice (Kd.own_of_R HU.out)))
   | ((with_reducible refine gate_callee (f := 82) rfl ?_); refine goesL_ (some 26) rfl rfl Try.func82 (by kernel_rfl) rfl #[.iface 91 (.pointer (some ⟨g, 0, none⟩)), .slice AG givers.length cG] rfl (by (try simp only [List.map_toArray, List.map_cons, List.map_nil]); first | done | rfl) ?_; (refine (diffs_grow.any k 91 _ n0 (linesL diffs flow) AG cG givers lo ha la bad _ (graph_use (blk_below BU.out HX.out) (Kd.C_below (Kd.C_below HD.out HB.out) HX.out) HCD.out (Kd.C_below (Kd.R_reads' HF.out).2.2 HX.out) HFD.out HL.out HM.out) (Kd.C_below HG.out HX.out) HCG.out HGR.out).mono ?_); rintro e w3 ⟨vlo, vha, vla, rfl, ho1, ho2, ho3, hb3⟩; refine ⟨_, rfl, ?_⟩; have VLO := Aside0.mk (show ∃ A n c, vlo = Value.slice A n c from (by obtain ⟨A, c, e, _⟩ := Kd.R_reads ho1; exact ⟨A, _, c, e⟩)); have DFA := Aside0.mk (Dj.fresh HF.out ho3 HX.out.size); have DWA := Aside0.mk (Dj.fresh HW.out ho3 HX.out.size); have DUA := Aside0.mk (Dj.fresh HU.out ho3 (Nat.le_refl _)); have n0_ := Aside0.mk (Kd.R_below HLI.out hb3); have n1_ := Aside0.mk (Kd.R_below HU.out hb3); have HHA := Aside0.mk (Kd.R_lower (Kd.R_mono ho2 (fun _ _ => trivial)) HX.out.size); have HLA := Aside0.mk (Kd.R_lower (Kd.R_mono ho3 (fun _ _ => trivial)) HX.out.size); have n2_ := Aside0.mk (below_step HX.out hb3); clear HX HLI HU ho1 ho2 ho3 hb3; have HX := n2_; have HLI := n0_; have HU := n1_; clear n0_ n1_ n2_; (obtain ⟨AH, cH, rfl⟩ := (show ∃ A c, vha = .slice A ha.length c from (by obtain ⟨A, c, e, _⟩ := Kd.R_reads HHA.out; exact ⟨A, c, e⟩))); (obtain ⟨AA, cA, rfl⟩ := (show ∃ A c, vla = .slice A la.length c from (by obtain ⟨A, c, e, _⟩ := Kd.R_reads HLA.out; exact ⟨A, c, e⟩))))
   | ((with_reducible refine gate_dst (N := 9) rfl ?_); refine box_event ?hg (N := 9) ?hd (cs := #[.slice none 0 0, .slice none 0 0, .slice none 0 0]) (t := 88) ?hr ?_; (case hd => rfl); (case hg => rfl); (case hr => first | (go_simp; done) | (go_simp; rfl)); intro g9 hg9 w4 hbox hb4; have n0_ := Aside0.mk (Kd.R_below HLI.out hb4); have n1_ := Aside0.mk (Kd.R_below HU.out hb4); have n3_ := Aside0.mk (Kd.R_below HLA.out hb4); have n4_ := Aside0.mk (Kd.R_below HHA.out hb4); have n2_ := Aside0.mk (below_step HX.out hb4); have BT := Aside0.mk hbox; have NG := Aside0.mk (show w.heap.size ≤ g9 ∧ (∀ k, (Value.slice AL (linesL diffs flow).length cL).ownBlock = some k → k ≠ g9) ∧ (∀ k, (Value.slice AU (usedL flow 0).length cU).ownBlock = some k → k ≠ g9) ∧ (∀ k, (Value.slice AA la.length cA).ownBlock = some k → k ≠ g9) ∧ (∀ k, (Value.slice AH ha.length cH).ownBlock = some k → k ≠ g9) from ⟨by rw [hg9]; exact HX.out.size, fun k e => by have := Kd.R_lt HLI.out k e; omega, fun k e => by have := Kd.R_lt HU.out k e; omega, fun k e => by have := Kd.R_lt HLA.out k e; omega, fun k e => by have := Kd.R_lt HHA.out k e; omega⟩); clear HX HLI HU HLA HHA hb4 hbox hg9; have HX := n2_; have HLI := n0_; have HU := n1_; have HLA := n3_; have HHA := n4_; clear n0_ n1_ n2_ n3_ n4_)
   | (refine gate_store (t := 88) (p := 9) (v := .tmp 27) rfl ?_; refine store_box rfl rfl 88 (.tmp 9) (.tmp 27) rfl [vlo, .slice AH ha.length cH, .slice AA la.length cA] (by rfl) g9 rfl _ rfl (by have := VLO.out; obtain ⟨Ao, no, co, rfl⟩ := this; rfl) (by intro q hq; simp only [List.mem_cons, List.not_mem_nil, or_false] at hq; obtain ⟨Ao, no, co, e⟩ := VLO.out; rcases hq with rfl | rfl | rfl; (subst e; rfl); rfl; rfl) _ BT.out rfl ?_; intro w5 hb5 hg5; have HS := Aside0.mk (St.mk (vF := .slice AF flow.length cF) (vW := .slice AW want.length cW) (blk_grown (blk_below BU.out HX.out) hg5 (fun e => by have := blk_lt BU.out; have := NG.out.1; have := Option.some.inj e; omega)) hb5 (Kd.R_grown2 (Kd.R_below HF.out HX.out) rfl hg5 (fun k e e2 => by have := Kd.R_lt HF.out k e2.symm; have := NG.out.1; have := Option.some.inj e; omega)) (Kd.R_grown2 (Kd.R_below HW.out HX.out) rfl hg5 (fun k e e2 => by have := Kd.R_lt HW.out k e2.symm; have := NG.out.1; have := Option.some.inj e; omega)) (Kd.R_lower (Kd.R_grown2 HLI.out rfl hg5 (fun k e e2 => NG.out.2.1 k e2.symm (Option.some.inj e).symm)) HB.out.size) (Kd.R_lower (Kd.R_grown2 HU.out rfl hg5 (fun k e e2 => NG.out.2.2.1 k e2.symm (Option.some.inj e).symm)) HB.out.size) (Kd.R_lower (Kd.R_grown2 HLA.out rfl hg5 (fun k e e2 => NG.out.2.2.2.1 k e2.symm (Option.some.inj e).symm)) HB.out.size) ((below_step HB.out HX.out).grown hg5 (Nat.le_trans HB.out.size HX.out.size) (fun k e => by have := NG.out.1; have := HB.out.size; have := Option.some.inj e; omega))); have HA5 := Aside0.mk (Kd.R_grown2 HHA.out rfl hg5 (fun k e e2 => NG.out.2.2.2.2 k e2.symm (Option.some.inj e).symm)); have hz0 : w5.cell? ⟨g9, 1, none⟩ = some (.slice AH ha.length cH) := (blk_cell hb5 1).trans rfl; clear BT hb5 hg5; (obtain ⟨adh, eh, hx0⟩ := Kd.at_bool (Kd.R_reads' HA5.out).2.2 tg HTO.out.1 HTO.out.2.1); cases eh; rw [HV.out] at hx0; have p0 := HTO.out.1; have p1 := HTO.out.2.1))
  go_loopg [11, 12] k (fun kq v11 v12 w' => ∃ (acc : List Int) (v : Int), v12 = .int .i64 v ∧ Aside0 (pathL (linesL diffs flow) la kq v acc = some (pl, pv)) ∧ Aside0 (Kd.R (Kd.int .i64) 3 w' w0.heap.size (fun _ => True) v11 acc) ∧ Aside0 (∀ k, v11.ownBlock = some k → Away g g9 (Value.slice AF flow.length cF) (Value.slice AW want.length cW) (Value.slice AL (linesL diffs flow).length cL) (Value.slice AU (usedL flow 0).length cU) (Value.slice AA la.length cA) w0 k) ∧ Aside0 (St g g9 #[Value.int IntKind.i64 n0, Value.slice AD diffs.length cD, Value.slice AF flow.length cF, Value.slice AW want.length cW] #[vlo, Value.slice (some adh) ha.length cH, Value.slice AA la.length cA] (Value.slice AF flow.length cF) (Value.slice AW want.length cW) (Value.slice AL (linesL diffs flow).length cL) (Value.slice AU (usedL flow 0).length cU) (Value.slice AA la.length cA) (linesL diffs flow) (usedL flow 0) la w0 flow want w'))
  case atStart => exact ⟨[], tg, rfl, HP, ⟨Kd.R_nil _ _ _ _ _⟩, ⟨fun k e => by simp [Value.ownBlock] at e⟩, HS⟩
  case round =>
   clear HS hx0 hz0
   obtain ⟨acc, v, rfl, HP, HO, HA, HS⟩ := hrel
   cases gk with
   | zero => exact absurd HP.out (by simp [pathL])
   | succ k1 =>
    have hP := HP.out
    clear HP
    unfold pathL at hP
    by_cases c1 : 0 ≤ v ∧ v < (la.length : Int)
    case neg => rw [if_neg c1] at hP; exact absurd hP (by simp)
    rw [if_pos c1] at hP
    have q0 := c1.1
    have q1 := c1.2
    obtain ⟨ada, e1, hx1⟩ := Kd.at_int (Kd.R_reads' HS.out.ra).2.2 v q0 q1
    cases e1
    have hz1 : wr.cell? ⟨g9, 2, none⟩ = some (.slice (some ada) la.length cA) := (blk_cell HS.out.bt 2).trans rfl
    by_cases c2 : rd la v ≥ 0
    ·rw [if_pos c2] at hP
     have c2b : decide (rd la v ≥ 0) = true := decide_eq_true c2
     by_cases c3 : rd la v < ((linesL diffs flow).length : Int) ∧ acc.length < 65536
     case neg => rw [if_neg c3] at hP; exact absurd hP (by simp)
     rw [if_pos c3] at hP
     have HP := Aside0.mk hP
     have q2 : 0 ≤ rd la v := c2
     have q3 := c3.1
     have q4 := c3.2
     clear hP c1 c2 c3
     go_wp2_with (first | ((with_reducible refine gate_builtin (b := .append) (xs := #[.tmp 51, .tmp 57]) rfl ?_); at_builtin; go_must (refine Kd.R_append (Kd.int .i64) (w0 := w0) w0.heap.size rfl (.tmp 51) (.tmp 57) 29 3 (.int .i64 0) 8 rfl Try.underlying29 info3 rfl (by decide) (by omega) u11 acc (rd la v) [.int .i64 (rd la v)] (fun _ => True) (fun _ => False) rfl rfl ?aP (fun _ hk => hk.elim) ?aF ?aO ?aB ?aS ?aL ?_; (case aP => exact rfl); (case aB => exact HS.out.hb); (case aF => exact (fun _ _ => trivial)); (case aO => exact HO.out); (case aS => exact (below_size HS.out.hb)); (case aL => omega); intro v118 w8 ho hb hg hat; have HS1 := HS.out; have n0_ := Aside0.mk (HS1.grown hg HA.out); have n1_ := Aside0.mk (show ∀ k, v118.ownBlock = some k → Away g g9 (Value.slice AF flow.length cF) (Value.slice AW want.length cW) (Value.slice AL (linesL diffs flow).length cL) (Value.slice AU (usedL flow 0).length cU) (Value.slice (some ada) la.length cA) w0 k from fun k e => (by rcases hat with e2 | ⟨b, e2, hb2⟩; exact HA.out k (e2.symm.trans e); exact HS1.away (by rw [e2] at e; cases e; exact hb2))); clear HS HA HO HS1 hg hat; have HS := n0_; have HA := n1_; have HO := Aside0.mk ho; clear n0_ n1_ ho hb; have hz2 : w8.cell? ⟨g9, 2, none⟩ = some (.slice (some ada) la.length cA) := (blk_cell HS.out.bt 2).trans rfl; (obtain ⟨ada2, e2, hx2⟩ := Kd.at_int (Kd.R_reads' HS.out.ra).2.2 v q0 q1); cases e2; (obtain ⟨adl, e3, hy0, _⟩ := at_T39 (Kd.R_reads' HS.out.rl).2.2 (rd la v) q2 q3); cases e3)))
     go_roundg k1
     case measure => omega
     case rel => exact ⟨acc ++ [rd la v], (rd_T39 (linesL diffs flow) (rd la v)).f0, rfl, HP, HO, HA, HS⟩
    ·rw [if_neg c2] at hP
     have c2b : decide (rd la v ≥ 0) = false := decide_eq_false c2
     simp only [Option.some.injEq, Prod.mk.injEq] at hP
     obtain ⟨rfl, rfl⟩ := hP
     have hh := HH.out
     clear HH
     by_cases cw : v < (want.length : Int)
     case neg => rw [if_neg cw] at hh; exact absurd hh (by simp)
     rw [if_pos cw] at hh
     obtain ⟨m, hmu, hh⟩ := Option.bind_eq_some_iff.mp hh
     obtain ⟨flow', hap, hh⟩ := Option.bind_eq_some_iff.mp hh
     simp only [Option.some.injEq, Prod.mk.injEq] at hh
     obtain ⟨rfl, rfl, rfl⟩ := hh
     have HMU := Aside0.mk hmu
     have HAP := Aside0.mk hap
     have HCW := Aside0.mk (show 0 ≤ v ∧ v < (want.length : Int) from ⟨q0, cw⟩)
     have HT0 := Aside0.mk (show 0 ≤ tg ∧ tg < (want.length : Int) from ⟨HTO.out.1, HTO.out.2.2⟩)
     clear hmu hap cw c1 p0 p1
     obtain ⟨Al, cl, rfl⟩ := own_slice (Kd.own_of_R HO.out)
     go_upto_if 60 with (fail)
     go_cut [13] (fun v13 wc => v13 = .int .i64 (much1 want tg) ∧ Aside0 (Kd.R (Kd.int .i64) 3 wc w0.heap.size (fun _ => True) (Value.slice Al acc.length cl) acc) ∧ Aside0 (St g g9 #[Value.int IntKind.i64 n0, Value.slice AD diffs.length cD, Value.slice AF flow.length cF, Value.slice AW want.length cW] #[vlo, Value.slice (some adh) ha.length cH, Value.slice (some ada) la.length cA] (Value.slice AF flow.length cF) (Value.slice AW want.length cW) (Value.slice AL (linesL diffs flow).length cL) (Value.slice AU (usedL flow 0).length cU) (Value.slice (some ada) la.length cA) (linesL diffs flow) (usedL flow 0) la w0 flow want wc))
     case first =>
      by_cases ct : tg = 0
      ·have ctb : (tg != 0) = false := bne_eq_false_iff_eq.mpr ct
       have e1 := Aside0.mk (show much1 want tg = 1152921504606846976 from if_pos ct)
       clear ct
       go_wp2
       go_meet
       case rel => exact ⟨by rw [e1.out], HO, HS⟩
      ·have ctb : (tg != 0) = true := bne_iff_ne.mpr ct
       have e1 := Aside0.mk (show much1 want tg = rd want tg from if_neg ct)
       clear ct
       obtain ⟨adw, ew, hw⟩ := Kd.at_int (Kd.R_reads' HS.out.rw).2.2 tg HT0.out.1 HT0.out.2
       cases ew
       have hg3 : wr.cell? ⟨g, 3, none⟩ = some (.slice (some adw) want.length cW) := (blk_cell HS.out.bu 3).trans rfl
       have p0 := HT0.out.1
       have p1 := HT0.out.2
       go_wp2
       go_meet
       case rel => exact ⟨by rw [e1.out], HO, HS⟩
     case rest =>
      obtain ⟨rfl, HO, HS⟩ := hcut
      go_upto_if 69 with (fail)
      go_cut [13] (fun v13 wd => v13 = .int .i64 (much2 want tg v) ∧ Aside0 (Kd.R (Kd.int .i64) 3 wd w0.heap.size (fun _ => True) (Value.slice Al acc.length cl) acc) ∧ Aside0 (St g g9 #[Value.int IntKind.i64 n0, Value.slice AD diffs.length cD, Value.slice AF flow.length cF, Value.slice AW want.length cW] #[vlo, Value.slice (some adh) ha.length cH, Value.slice (some ada) la.length cA] (Value.slice AF flow.length cF) (Value.slice AW want.length cW) (Value.slice AL (linesL diffs flow).length cL) (Value.slice AU (usedL flow 0).length cU) (Value.slice (some ada) la.length cA) (linesL diffs flow) (usedL flow 0) la w0 flow want wd))
      case first =>
       by_cases ct : v = 0
       ·have ctb : (v != 0) = false := bne_eq_false_iff_eq.mpr ct
        have e1 := Aside0.mk (show much2 want tg v = much1 want tg from if_pos ct)
        clear ct
        go_wp2
        go_meet
        case rel => exact ⟨by rw [e1.out], HO, HS⟩
       ·have ctb : (v != 0) = true := bne_iff_ne.mpr ct
        have e1 := Aside0.mk (show much2 want tg v = min (much1 want tg) (wrap64 (-(rd want v))) from if_neg ct)
        clear ct
        obtain ⟨adw, ew, hw⟩ := Kd.at_int (Kd.R_reads' HS.out.rw).2.2 v HCW.out.1 HCW.out.2
        cases ew
        have hg3 : wc.cell? ⟨g, 3, none⟩ = some (.slice (some adw) want.length cW) := (blk_cell HS.out.bu 3).trans rfl
        have p0 := HCW.out.1
        have p1 := HCW.out.2
        go_wp2
        ·go_meet
         case rel => exact ⟨by rw [e1.out, Int.min_eq_right (by omega)], HO, HS⟩
        ·go_meet
         case rel => exact ⟨by rw [e1.out, Int.min_eq_left (by omega)], HO, HS⟩
      case rest =>
       obtain ⟨rfl, HO, HS⟩ := hcut
       go_wp2
       go_loopg [13, 82] acc.length (fun kq v13 v82 w' => ∃ (mm i : Int), v13 = .int .i64 mm ∧ v82 = .int .i64 i ∧ Aside0 (0 ≤ i ∧ (kq : Int) + i = acc.length ∧ muchL (diffs.length : Int) flow (usedL flow 0) (acc.drop i.toNat) mm = some m) ∧ Aside0 (Kd.R (Kd.int .i64) 3 w' w0.heap.size (fun _ => True) (Value.slice Al acc.length cl) acc) ∧ Aside0 (St g g9 #[Value.int IntKind.i64 n0, Value.slice AD diffs.length cD, Value.slice AF flow.length cF, Value.slice AW want.length cW] #[vlo, Value.slice (some adh) ha.length cH, Value.slice (some ada) la.length cA] (Value.slice AF flow.length cF) (Value.slice AW want.length cW) (Value.slice AL (linesL diffs flow).length cL) (Value.slice AU (usedL flow 0).length cU) (Value.slice (some ada) la.length cA) (linesL diffs flow) (usedL flow 0) la w0 flow want w'))
       case atStart => exact ⟨_, 0, rfl, rfl, ⟨by omega, by omega, HMU.out⟩, HO, HS⟩
       case round =>
        obtain ⟨mm, i, rfl, rfl, HI, HO, HS⟩ := hrel
        have h0 := HI.out.1
        have hk := HI.out.2.1
        have hM := HI.out.2.2
        have hN := HL.out
        by_cases hlt : i < (acc.length : Int)
        ·obtain ⟨adk, ek, hxk⟩ := Kd.at_int (Kd.R_reads' HO.out).2.2 i h0 hlt
         cases ek
         rw [drop_rd acc i h0 hlt] at hM
         unfold muchL at hM
         have hz1 : wr.cell? ⟨g, 1, none⟩ = some (.slice AD diffs.length cD) := (blk_cell HS.out.bu 1).trans rfl
         have hz2 : wr.cell? ⟨g, 2, none⟩ = some (.slice AF flow.length cF) := (blk_cell HS.out.bu 2).trans rfl
         have hmx := (Kd.R_reads' HO.out).2.2.2.1
         have hw64 : i + 1 ≤ 9223372036854775807 := by omega
         clear hmx
         by_cases ck : rd acc i ≥ (diffs.length : Int)
         ·rw [if_pos ck] at hM
          have ckb : decide (rd acc i ≥ (diffs.length : Int)) = true := decide_eq_true ck
          by_cases cc : (0 ≤ wrap64 (rd acc i - (diffs.length : Int)) ∧ wrap64 (rd acc i - (diffs.length : Int)) < ((usedL flow 0).length : Int)) ∧ 0 ≤ rd (usedL flow 0) (wrap64 (rd acc i - (diffs.length : Int))) ∧ rd (usedL flow 0) (wrap64 (rd acc i - (diffs.length : Int))) < (flow.length : Int)
          case neg => rw [if_neg cc] at hM; exact absurd hM (by simp)
          rw [if_pos cc] at hM
          have HM2 := Aside0.mk hM
          obtain ⟨⟨s0, s1⟩, s2, s3⟩ := cc
          obtain ⟨adu, eu, hxu⟩ := Kd.at_int (Kd.R_reads' HS.out.ru).2.2 _ s0 s1
          cases eu
          obtain ⟨adf, ef, hxf⟩ := Kd.at_int (Kd.R_reads' HS.out.rf).2.2 _ s2 s3
          cases ef
          clear hM
          by_cases cm : rd flow (rd (usedL flow 0) (wrap64 (rd acc i - (diffs.length : Int)))) < mm
          ·have e1 := Aside0.mk (Int.min_eq_right (a := mm) (b := rd flow (rd (usedL flow 0) (wrap64 (rd acc i - (diffs.length : Int))))) (by omega))
           go_wp2
           go_quiet (fail)
           go_wp2
           go_roundg (gk - 1)
           case measure => omega
           case rel => exact ⟨_, i + 1, rfl, rfl, ⟨by omega, by omega, by rw [← e1.out]; exact HM2.out⟩, ⟨Kd.R_drewN HO.out _⟩, ⟨HS.out.below (pw_below_drewN (Below.refl _ _) _)⟩⟩
          ·have e1 := Aside0.mk (Int.min_eq_left (a := mm) (b := rd flow (rd (usedL flow 0) (wrap64 (rd acc i - (diffs.length : Int))))) (by omega))
           go_wp2
           go_quiet (fail)
           go_wp2
           go_roundg (gk - 1)
           case measure => omega
           case rel => exact ⟨_, i + 1, rfl, rfl, ⟨by omega, by omega, by rw [← e1.out]; exact HM2.out⟩, ⟨Kd.R_drewN HO.out _⟩, ⟨HS.out.below (pw_below_drewN (Below.refl _ _) _)⟩⟩
         ·rw [if_neg ck] at hM
          have ckb : decide (rd acc i ≥ (diffs.length : Int)) = false := decide_eq_false ck
          have HM2 := Aside0.mk hM
          clear hM
          go_wp2
          go_roundg (gk - 1)
          case measure => omega
          case rel => exact ⟨mm, i + 1, rfl, rfl, ⟨by omega, by omega, HM2.out⟩, HO, HS⟩
        ·have e0 := Aside0.mk (show mm = m from by rw [List.drop_eq_nil_of_le (by omega)] at hM; exact Option.some.inj hM)
         clear hM HMU
         go_wp2
         go_loopg [116] acc.length (fun kq v116 w' => ∃ (fl : List Int) (i : Int), v116 = .int .i64 i ∧ Aside0 (0 ≤ i ∧ (kq : Int) + i = acc.length ∧ fl.length = flow.length ∧ applyL (diffs.length : Int) (usedL flow 0) m (acc.drop i.toNat) fl = some flow') ∧ Aside0 (Kd.R (Kd.int .i64) 3 w' w0.heap.size (fun _ => True) (Value.slice Al acc.length cl) acc) ∧ Aside0 (St g g9 #[Value.int IntKind.i64 n0, Value.slice AD diffs.length cD, Value.slice AF flow.length cF, Value.slice AW want.length cW] #[vlo, Value.slice (some adh) ha.length cH, Value.slice (some ada) la.length cA] (Value.slice AF flow.length cF) (Value.slice AW want.length cW) (Value.slice AL (linesL diffs flow).length cL) (Value.slice AU (usedL flow 0).length cU) (Value.slice (some ada) la.length cA) (linesL diffs flow) (usedL flow 0) la w0 fl want w'))
         case atStart => exact ⟨flow, 0, rfl, ⟨by omega, by omega, rfl, HAP.out⟩, HO, HS⟩
         case round =>
          clear HO HS HI
          obtain ⟨fl, i, rfl, HI, HO, HS⟩ := hrel
          have h0 := HI.out.1
          have hk := HI.out.2.1
          have hfl := HI.out.2.2.1
          have hM := HI.out.2.2.2
          by_cases hlt : i < (acc.length : Int)
          ·obtain ⟨adk, ek, hxk⟩ := Kd.at_int (Kd.R_reads' HO.out).2.2 i h0 hlt
           cases ek
           rw [drop_rd acc i h0 hlt] at hM
           unfold applyL at hM
           have hz1 : wr.cell? ⟨g, 1, none⟩ = some (.slice AD diffs.length cD) := (blk_cell HS.out.bu 1).trans rfl
           have hw64 : i + 1 ≤ 9223372036854775807 := by have := (Kd.R_reads' HO.out).2.2.2.1; omega
           by_cases ck : rd acc i ≥ (diffs.length : Int)
           ·rw [if_pos ck] at hM
            have ckb : decide (rd acc i ≥ (diffs.length : Int)) = true := decide_eq_true ck
            obtain ⟨o1, ho1⟩ : ∃ o1, o1 = wrap64 (rd acc i - (diffs.length : Int)) := ⟨_, rfl⟩
            rw [← ho1] at hM
            obtain ⟨o2, ho2⟩ : ∃ o2, o2 = rd (usedL flow 0) o1 := ⟨_, rfl⟩
            rw [← ho2] at hM
            obtain ⟨o3, ho3⟩ : ∃ o3, o3 = wrap64 (rd fl o2 - m) := ⟨_, rfl⟩
            rw [← ho3] at hM
            by_cases cc : (0 ≤ o1 ∧ o1 < ((usedL flow 0).length : Int)) ∧ 0 ≤ o2 ∧ o2 < (fl.length : Int)
            case neg => rw [if_neg cc] at hM; exact absurd hM (by simp)
            rw [if_pos cc] at hM
            have HM2 := Aside0.mk hM
            obtain ⟨⟨s0, s1⟩, s2, s3'⟩ := cc
            have s3 : o2 < (flow.length : Int) := by rw [← hfl]; exact s3'
            obtain ⟨adu, eu, hxu⟩ := Kd.at_int (Kd.R_reads' HS.out.ru).2.2 o1 s0 s1
            cases eu
            rw [← ho2] at hxu
            obtain ⟨gF, cF', eF, _, _, _⟩ := Kd.R_form HS.out.rf (by omega)
            injection eF with e1 e2 e3
            subst e1
            clear e2 e3
            have hz2 : wr.cell? ⟨g, 2, none⟩ = some (.slice (some ⟨gF, 0, none⟩) flow.length cF) := (blk_cell HS.out.bu 2).trans rfl
            have hxf : wr.cell? ⟨gF, o2.toNat, none⟩ = some (.int .i64 (rd fl o2)) := (Kd.R_celln 0 HS.out.rf o2 s2 s3).1
            have hff := (Kd.R_celln 0 HS.out.rf o2 s2 s3).2
            have hwr : IntKind.i64.wrap (rd acc i - (diffs.length : Int)) = o1 := by rw [ho1]; exact i64_w _
            have hwv : IntKind.i64.wrap (rd fl o2 - mm) = o3 := by rw [ho3, e0.out]; exact i64_w _
            have N0 := Aside0.mk (HS.out.below (pw_below_drewN (Below.refl _ _) 1))
            have N1 := Aside0.mk (Kd.R_drewN HO.out 1)
            clear hM ho1 ho2 ho3
            go_wp2
            go_still_tail 20, (by kernel_rfl)
            change wpList _ _ _ _ _ (wr.drewN 1)
            have hff1 : (wr.drewN 1).frozen? ⟨gF, o2.toNat, none⟩ = false := hff
            have hxf1 : (wr.drewN 1).cell? ⟨gF, o2.toNat, none⟩ = some (.int .i64 (rd fl o2)) := hxf
            generalize wr.drewN 1 = wq at N0 N1 hff1 hxf1 ⊢
            go_wp2
            have N2 := Aside0.mk (N0.out.putF o2 o3 DFW.out DFU.out DFA.out)
            have N3 := Aside0.mk (Kd.R_grown2 N1.out rfl (grown_set wq ⟨gF, o2.toNat, none⟩ (.int .i64 o3)) (fun k e e2 => (HA.out k e2.symm).f e))
            go_roundg (gk - 1)
            case measure => omega
            case rel => exact ⟨fl.set o2.toNat o3, i + 1, rfl, ⟨by omega, by omega, by rw [List.length_set]; exact hfl, HM2.out⟩, N3, N2⟩
           ·rw [if_neg ck] at hM
            have ckb : decide (rd acc i ≥ (diffs.length : Int)) = false := decide_eq_false ck
            obtain ⟨o3, ho3⟩ : ∃ o3, o3 = wrap64 (rd fl (rd acc i) + m) := ⟨_, rfl⟩
            rw [← ho3] at hM
            by_cases cc : 0 ≤ rd acc i ∧ rd acc i < (fl.length : Int)
            case neg => rw [if_neg cc] at hM; exact absurd hM (by simp)
            rw [if_pos cc] at hM
            have HM2 := Aside0.mk hM
            obtain ⟨s2, s3'⟩ := cc
            have s3 : rd acc i < (flow.length : Int) := by rw [← hfl]; exact s3'
            obtain ⟨gF, cF', eF, _, _, _⟩ := Kd.R_form HS.out.rf (by omega)
            injection eF with e1 e2 e3
            subst e1
            clear e2 e3
            have hz2 : wr.cell? ⟨g, 2, none⟩ = some (.slice (some ⟨gF, 0, none⟩) flow.length cF) := (blk_cell HS.out.bu 2).trans rfl
            have hxf : wr.cell? ⟨gF, (rd acc i).toNat, none⟩ = some (.int .i64 (rd fl (rd acc i))) := (Kd.R_celln 0 HS.out.rf _ s2 s3).1
            have hff := (Kd.R_celln 0 HS.out.rf _ s2 s3).2
            have hwv : IntKind.i64.wrap (rd fl (rd acc i) + mm) = o3 := by rw [ho3, e0.out]; exact i64_w _
            have N2 := Aside0.mk (HS.out.putF (rd acc i) o3 DFW.out DFU.out DFA.out)
            have N3 := Aside0.mk (Kd.R_grown2 HO.out rfl (grown_set wr ⟨gF, (rd acc i).toNat, none⟩ (.int .i64 o3)) (fun k e e2 => (HA.out k e2.symm).f e))
            clear hM ho3
            go_wp2
            go_roundg (gk - 1)
            case measure => omega
            case rel => exact ⟨fl.set (rd acc i).toNat o3, i + 1, rfl, ⟨by omega, by omega, by rw [List.length_set]; exact hfl, HM2.out⟩, N3, N2⟩
          ·have e1 := Aside0.mk (show fl = flow' from by rw [List.drop_eq_nil_of_le (by omega)] at hM; exact Option.some.inj hM)
           clear hM HAP
           go_upto_if 160 with (fail)
           go_cut [13] (fun v13 wc => v13 = .int .i64 mm ∧ Aside0 (St g g9 #[Value.int IntKind.i64 n0, Value.slice AD diffs.length cD, Value.slice AF flow.length cF, Value.slice AW want.length cW] #[vlo, Value.slice (some adh) ha.length cH, Value.slice (some ada) la.length cA] (Value.slice AF flow.length cF) (Value.slice AW want.length cW) (Value.slice AL (linesL diffs flow).length cL) (Value.slice AU (usedL flow 0).length cU) (Value.slice (some ada) la.length cA) (linesL diffs flow) (usedL flow 0) la w0 fl (want1 want tg m) wc))
           case first =>
            by_cases ct : tg = 0
            ·have ctb : (tg != 0) = false := bne_eq_false_iff_eq.mpr ct
             have e2 := Aside0.mk (show want1 want tg m = want from if_pos ct)
             clear ct
             go_wp2
             go_meet
             case rel => exact ⟨rfl, by rw [e2.out]; exact HS⟩
            ·have ctb : (tg != 0) = true := bne_iff_ne.mpr ct
             obtain ⟨o3, ho3⟩ : ∃ o3, o3 = wrap64 (rd want tg - m) := ⟨_, rfl⟩
             have e2 := Aside0.mk (show want1 want tg m = want.set tg.toNat o3 from by rw [ho3]; exact if_neg ct)
             clear ct
             have p0 := HT0.out.1
             have p1 := HT0.out.2
             obtain ⟨gF, cF', eF, _, _, _⟩ := Kd.R_form HS.out.rw (by omega)
             injection eF with ea eb ec
             subst ea
             clear eb ec
             have hz3 : wr.cell? ⟨g, 3, none⟩ = some (.slice (some ⟨gF, 0, none⟩) want.length cW) := (blk_cell HS.out.bu 3).trans rfl
             have hxf : wr.cell? ⟨gF, tg.toNat, none⟩ = some (.int .i64 (rd want tg)) := (Kd.R_celln 0 HS.out.rw _ p0 p1).1
             have hff := (Kd.R_celln 0 HS.out.rw _ p0 p1).2
             have hwv : IntKind.i64.wrap (rd want tg - mm) = o3 := by rw [ho3, e0.out]; exact i64_w _
             have N2 := Aside0.mk (HS.out.putW tg o3 DFW.out DWU.out DWA.out)
             clear ho3
             go_wp2
             go_meet
             case rel => exact ⟨rfl, by rw [e2.out]; exact N2⟩
           case rest =>
            obtain ⟨rfl, HS⟩ := hcut
            have hlw : (want1 want tg m).length = want.length := by unfold want1; split; rfl; exact List.length_set ..
            have HLW := Aside0.mk hlw
            clear hlw
            obtain ⟨wt, hwt⟩ : ∃ wt, wt = want1 want tg m := ⟨_, rfl⟩
            rw [← hwt] at HS HLW
            have HWT := Aside0.mk hwt
            clear hwt
            go_upto_if 172 with (fail)
            go_cut [13] (fun v13 wd => v13 = .int .i64 mm ∧ Aside0 (St g g9 #[Value.int IntKind.i64 n0, Value.slice AD diffs.length cD, Value.slice AF flow.length cF, Value.slice AW want.length cW] #[vlo, Value.slice (some adh) ha.length cH, Value.slice (some ada) la.length cA] (Value.slice AF flow.length cF) (Value.slice AW want.length cW) (Value.slice AL (linesL diffs flow).length cL) (Value.slice AU (usedL flow 0).length cU) (Value.slice (some ada) la.length cA) (linesL diffs flow) (usedL flow 0) la w0 fl (want2 want tg v m) wd))
            case first =>
             by_cases ct : v = 0
             ·have ctb : (v != 0) = false := bne_eq_false_iff_eq.mpr ct
              have e2 := Aside0.mk (show want2 want tg v m = wt from (if_pos ct).trans HWT.out.symm)
              clear ct
              go_wp2
              go_meet
              case rel => exact ⟨rfl, by rw [e2.out]; exact HS⟩
             ·have ctb : (v != 0) = true := bne_iff_ne.mpr ct
              obtain ⟨o3, ho3⟩ : ∃ o3, o3 = wrap64 (rd wt v + m) := ⟨_, rfl⟩
              have e2 := Aside0.mk (show want2 want tg v m = wt.set v.toNat o3 from by rw [ho3, HWT.out]; exact if_neg ct)
              clear ct
              have p0 := HCW.out.1
              have p1 := HCW.out.2
              obtain ⟨gF, cF', eF, _, _, _⟩ := Kd.R_form HS.out.rw (by have := HLW.out; omega)
              injection eF with ea eb ec
              subst ea
              clear eb ec
              have hz3 : wc.cell? ⟨g, 3, none⟩ = some (.slice (some ⟨gF, 0, none⟩) want.length cW) := (blk_cell HS.out.bu 3).trans rfl
              have hxf : wc.cell? ⟨gF, v.toNat, none⟩ = some (.int .i64 (rd wt v)) := (Kd.R_celln 0 HS.out.rw _ p0 p1).1
              have hff := (Kd.R_celln 0 HS.out.rw _ p0 p1).2
              have hwv : IntKind.i64.wrap (rd wt v + mm) = o3 := by rw [ho3, e0.out]; exact i64_w _
              have N2 := Aside0.mk (HS.out.putW v o3 DFW.out DWU.out DWA.out)
              clear ho3
              go_wp2
              go_meet
              case rel => exact ⟨rfl, by rw [e2.out]; exact N2⟩
            case rest =>
             obtain ⟨rfl, HS⟩ := hcut
             go_wp2
             go_ret
             have e4 := e1.out
             subst e4
             exact ⟨rfl, HS.out.bu, HS.out.rf, HS.out.rw, HS.out.hb⟩
end Go.Proofs.Ytpolojoeabmhdaa.A
