import Derived.Test.YtpolojoeabmhdaaMTopSpecd
import Derived.Test.YtpolojoeabmhdaaMTopSpecf
import Derived.Test.YtpolojoeabmhdaaMTopSpeci
import Derived.StillTailTactics
set_option linter.unusedVariables false
set_option linter.unusedSimpArgs false
/- step: as much as possible along one shortest walk. -/
namespace Go.Proofs.Ytpolojoeabmhdaa.A
open Go.RowKit Go.Proofs.YtpolojoeabmhdaaW.PrintWords Go.Proofs.YtpolojoeabmhdaaW.PrintLast Go.Proofs.YtpolojoeabmhdaaW.PrintMore
attribute [local go_sem] max2_int min2_int max_two min_two max_three min_three max_four min_four
section
variable {P : Program} {ops : Array Oper} {Q : Exit → Act → World → Prop}
/-- A struct is stored into its own block. -/
theorem store_box {rest : List Oper} {o : Oper} {a : Act} {W : World} (hgd : o.guard = none) (hd : o.dst = none) (t : TypeId) (p x : Operand) (ho : o.op = .store t p x) (seg : List Value) (hinfo : (P.info? t).map (·.size) = some seg.length)
  (g : Nat) (haddr : a.eval p = .pointer (some ⟨g, 0, none⟩)) (u : Value) (hx : a.eval x = u) (hu : u.cells.toList = seg) (h1 : ∀ q ∈ seg, q.oneCell' = true) (cs : Array Value) (hb : W.heap[g]? = some (.cells cs t (0, 0))) (hcs : cs.size = seg.length)
  (h : ∀ w1, w1.heap[g]? = some (.cells seg.toArray t (0, 0)) → W.grownBy w1 (some g) → wpList P ops Q rest a w1) : wpList P ops Q (o :: rest) a W := by
 have hrun := run_store_run (P := P) (w := W) (g := g) (o := 0) (e := t) (cur := cs) t u seg hb hu hinfo (by omega) h1; obtain ⟨cur', h3, h4, h5⟩ := setCells_row seg 0 W cs hb (by omega); obtain ⟨s1, s2, s3, s4⟩ := setCells_same g seg 0 W
 have e : cur' = seg.toArray := by
  apply Array.ext'; rw [h5]; have : cs.toList.drop seg.length = [] := List.drop_eq_nil_of_le (by simp [hcs]); simp [this]
 subst e; refine wpList_plain hgd fun K hK => ?_
 unfold Oper.wp execOp; simp only [ho, Sem.run_bind, haddr, hx, hrun, Result.andThen_ok, Sem.run_pure, mT_, mC_, mN_]; have h' := h _ h3 ⟨s1, s2, s3, by rw [s4]; exact nR_ _, fun k _ hk => setCells_far _ _ k (fun he => hk (by rw [he]))⟩; refine hK _ _ ?_; simpa [hd, Act.put] using h'
end
/-- Two values lie in blocks of their own. -/
def Dj (u v : Value) : Prop := ∀ k, u.ownBlock = some k → v.ownBlock ≠ some k
theorem Dj.symm {u v : Value} (h : Dj u v) : Dj v u := fun k hk e => h k e hk
theorem Dj.ne {u v : Value} (h : Dj u v) : ∀ k, u.ownBlock = some k → some k ≠ v.ownBlock := fun k hk e => h k hk e.symm
theorem Dj.fresh {α β : Type} {d : Kd α} {d' : Kd β} {e e' base base' : Nat} {ok ok' : Nat → Prop} {w w1 : World} {u v : Value} {xs : List α} {ys : List β} (hu : d.R e w base ok u xs) (hv : d'.R e' w1 base' ok' v ys) (hb : w.heap.size ≤ base') : Dj u v := fun k hk hv2 => by
 have := Kd.R_lt hu k hk; have := Kd.R_base hv k hv2; omega
def pathL (L : List S39) (last : List Int) : Nat → Int → List Int → Option (List Int × Int)
 | 0, _, _ => none
 | k + 1, v, acc => if 0 ≤ v ∧ v < last.length then
   (if rd last v ≥ 0 then (if rd last v < L.length ∧ acc.length < 65536 then pathL L last k (rd_T39 L (rd last v)).f0 (acc ++ [rd last v]) else none) else some (acc, v)) else none
def muchL (nd : Int) (flow U : List Int) : List Int → Int → Option Int
 | [], m => some m
 | k :: ks, m => if k ≥ nd then (if (0 ≤ wrap64 (k - nd) ∧ wrap64 (k - nd) < U.length) ∧ 0 ≤ rd U (wrap64 (k - nd)) ∧ rd U (wrap64 (k - nd)) < flow.length then muchL nd flow U ks (min m (rd flow (rd U (wrap64 (k - nd))))) else none) else muchL nd flow U ks m
def applyL (nd : Int) (U : List Int) (much : Int) : List Int → List Int → Option (List Int)
 | [], flow => some flow
 | k :: ks, flow => if k ≥ nd then (if (0 ≤ wrap64 (k - nd) ∧ wrap64 (k - nd) < U.length) ∧ 0 ≤ rd U (wrap64 (k - nd)) ∧ rd U (wrap64 (k - nd)) < flow.length then applyL nd U much ks (flow.set (rd U (wrap64 (k - nd))).toNat (wrap64 (rd flow (rd U (wrap64 (k - nd))) - much))) else none)
   else (if 0 ≤ k ∧ k < flow.length then applyL nd U much ks (flow.set k.toNat (wrap64 (rd flow k + much))) else none)
def much1 (want : List Int) (tg : Int) : Int := if tg = 0 then 1152921504606846976 else rd want tg
def much2 (want : List Int) (tg v : Int) : Int := if v = 0 then much1 want tg else min (much1 want tg) (wrap64 (-(rd want v)))
def want1 (want : List Int) (tg m : Int) : List Int := if tg = 0 then want else want.set tg.toNat (wrap64 (rd want tg - m))
def want2 (want : List Int) (tg v m : Int) : List Int := if v = 0 then want1 want tg m else (want1 want tg m).set v.toNat (wrap64 (rd (want1 want tg m) v + m))
def stepL (k : Nat) (n0 : Int) (diffs : List S39) (flow want : List Int) (tg : Int) (givers : List Int) : Option (Bool × List Int × List Int) :=
 (diffs_grow.f k n0 (linesL diffs flow) givers).bind fun t =>
  if 0 ≤ tg ∧ tg < t.2.1.length ∧ tg < want.length then
   (if rdOf false t.2.1 tg = false then some (false, flow, want)
   else (pathL (linesL diffs flow) t.2.2.1 k tg []).bind fun p =>
    if p.2 < want.length then
     (muchL (diffs.length : Int) flow (usedL flow 0) p.1 (much2 want tg p.2)).bind fun m =>
      (applyL (diffs.length : Int) (usedL flow 0) m p.1 flow).bind fun flow' => some (true, flow', want2 want tg p.2 m)
    else none)
  else none
/-- What step holds in the memory, behind the growing. -/
structure St (g g9 : Nat) (C1 C9 : Array Value) (vF vW vL vU vA : Value) (L : List S39) (U la : List Int) (w0 : World) (flow want : List Int) (W : World) : Prop where
 bu : W.heap[g]? = some (.cells C1 96 (0, 0))
 bt : W.heap[g9]? = some (.cells C9 88 (0, 0))
 rf : Kd.R (Kd.int .i64) 3 W w0.heap.size (fun _ => True) vF flow
 rw : Kd.R (Kd.int .i64) 3 W w0.heap.size (fun _ => True) vW want
 rl : Kd.R k39 39 W w0.heap.size (fun _ => True) vL L
 ru : Kd.R (Kd.int .i64) 3 W w0.heap.size (fun _ => True) vU U
 ra : Kd.R (Kd.int .i64) 3 W w0.heap.size (fun _ => True) vA la
 hb : Below w0.heap.size w0 W
/-- A block that is none of these. -/
structure Away (g g9 : Nat) (vF vW vL vU vA : Value) (w0 : World) (k : Nat) : Prop where
 g : k ≠ g
 g9 : k ≠ g9
 f : vF.ownBlock ≠ some k
 w : vW.ownBlock ≠ some k
 l : vL.ownBlock ≠ some k
 u : vU.ownBlock ≠ some k
 a : vA.ownBlock ≠ some k
 b : w0.heap.size ≤ k
section
variable {g g9 : Nat} {C1 C9 : Array Value} {vF vW vL vU vA : Value} {L : List S39} {U la flow want : List Int} {w0 W W1 : World}
theorem St.away (h : St g g9 C1 C9 vF vW vL vU vA L U la w0 flow want W) {k : Nat} (hk : W.heap.size ≤ k) : Away g g9 vF vW vL vU vA w0 k :=
 ⟨fun e => by have := blk_lt h.bu; omega, fun e => by have := blk_lt h.bt; omega, fun e => by have := Kd.R_lt h.rf k e; omega, fun e => by have := Kd.R_lt h.rw k e; omega, fun e => by have := Kd.R_lt h.rl k e; omega, fun e => by have := Kd.R_lt h.ru k e; omega, fun e => by have := Kd.R_lt h.ra k e; omega, Nat.le_trans h.hb.size hk⟩
theorem St.grown (h : St g g9 C1 C9 vF vW vL vU vA L U la w0 flow want W) {row : Option Nat} (hg : W.grownBy W1 row) (ha : ∀ k, row = some k → Away g g9 vF vW vL vU vA w0 k) : St g g9 C1 C9 vF vW vL vU vA L U la w0 flow want W1 :=
 ⟨blk_grown h.bu hg (fun e => (ha _ e.symm).g rfl), blk_grown h.bt hg (fun e => (ha _ e.symm).g9 rfl), Kd.R_grown2 h.rf rfl hg (fun k e e2 => (ha k e).f e2.symm), Kd.R_grown2 h.rw rfl hg (fun k e e2 => (ha k e).w e2.symm), Kd.R_grown2 h.rl rfl hg (fun k e e2 => (ha k e).l e2.symm), Kd.R_grown2 h.ru rfl hg (fun k e e2 => (ha k e).u e2.symm), Kd.R_grown2 h.ra rfl hg (fun k e e2 => (ha k e).a e2.symm), h.hb.grown hg h.hb.size (fun k e => (ha k e).b)⟩
theorem St.below (h : St g g9 C1 C9 vF vW vL vU vA L U la w0 flow want W) (hb : Below W.heap.size W W1) : St g g9 C1 C9 vF vW vL vU vA L U la w0 flow want W1 := h.grown (grown_of_below hb none) (fun _ e => by cases e)
/-- The flow is written in place. -/
theorem St.setF (h : St g g9 C1 C9 vF vW vL vU vA L U la w0 flow want W) {flow' : List Int} {k : Nat} (hk : vF.ownBlock = some k) (hg : W.grownBy W1 (some k)) (hr : Kd.R (Kd.int .i64) 3 W1 w0.heap.size (fun _ => True) vF flow') (h1 : k ≠ g) (h2 : k ≠ g9) (h3 : vW.ownBlock ≠ some k) (h4 : vL.ownBlock ≠ some k) (h5 : vU.ownBlock ≠ some k) (h6 : vA.ownBlock ≠ some k) : St g g9 C1 C9 vF vW vL vU vA L U la w0 flow' want W1 :=
 ⟨blk_grown h.bu hg (fun e => h1 (oI_ e).symm), blk_grown h.bt hg (fun e => h2 (oI_ e).symm), hr, Kd.R_grown2 h.rw rfl hg (fun k' e e2 => h3 (by rw [← e2, e])), Kd.R_grown2 h.rl rfl hg (fun k' e e2 => h4 (by rw [← e2, e])), Kd.R_grown2 h.ru rfl hg (fun k' e e2 => h5 (by rw [← e2, e])), Kd.R_grown2 h.ra rfl hg (fun k' e e2 => h6 (by rw [← e2, e])), h.hb.grown hg h.hb.size (fun k' e => by cases e; exact Kd.R_base h.rf k hk)⟩
theorem St.setW (h : St g g9 C1 C9 vF vW vL vU vA L U la w0 flow want W) {want' : List Int} {k : Nat} (hk : vW.ownBlock = some k) (hg : W.grownBy W1 (some k)) (hr : Kd.R (Kd.int .i64) 3 W1 w0.heap.size (fun _ => True) vW want') (h1 : k ≠ g) (h2 : k ≠ g9) (h3 : vF.ownBlock ≠ some k) (h4 : vL.ownBlock ≠ some k) (h5 : vU.ownBlock ≠ some k) (h6 : vA.ownBlock ≠ some k) : St g g9 C1 C9 vF vW vL vU vA L U la w0 flow want' W1 :=
 ⟨blk_grown h.bu hg (fun e => h1 (oI_ e).symm), blk_grown h.bt hg (fun e => h2 (oI_ e).symm), Kd.R_grown2 h.rf rfl hg (fun k' e e2 => h3 (by rw [← e2, e])), hr, Kd.R_grown2 h.rl rfl hg (fun k' e e2 => h4 (by rw [← e2, e])), Kd.R_grown2 h.ru rfl hg (fun k' e e2 => h5 (by rw [← e2, e])), Kd.R_grown2 h.ra rfl hg (fun k' e e2 => h6 (by rw [← e2, e])), h.hb.grown hg h.hb.size (fun k' e => by cases e; exact Kd.R_base h.rw k hk)⟩
theorem grown_set (w : World) (a : Addr) (u : Value) : w.grownBy (w.setCell a u) (some a.block) :=
 ⟨rfl, rfl, rfl, Nat.le_of_eq (by simp), fun k _ h => Below.heap_setCell w a u k (fun e => h (by rw [e]))⟩
/-- One element of the flow is written. -/
theorem St.putF {gF n c : Nat} (h : St g g9 C1 C9 (.slice (some ⟨gF, 0, none⟩) n c) vW vL vU vA L U la w0 flow want W) (i x : Int) (d1 : Dj (.slice (some ⟨gF, 0, none⟩) n c) vW) (d2 : Dj (.slice (some ⟨gF, 0, none⟩) n c) vU) (d3 : Dj (.slice (some ⟨gF, 0, none⟩) n c) vA) : St g g9 C1 C9 (.slice (some ⟨gF, 0, none⟩) n c) vW vL vU vA L U la w0 (flow.set i.toNat x) want (W.setCell ⟨gF, i.toNat, none⟩ (.int .i64 x)) := by
 obtain ⟨rfl, _⟩ := rR_ h.rf; have hp := Kd.R_put h.rf i x; refine h.setF rfl hp.2 ?_ (fun e => Kd.R_ne h.rf h.bu (by decide) (by rw [← e]; rfl)) (fun e => Kd.R_ne h.rf h.bt (by decide) (by rw [← e]; rfl)) (d1 _ rfl) (fun e => ?_) (d2 _ rfl) (d3 _ rfl); ·exact hp.1
 obtain ⟨cells, hc⟩ := Kd.R_typed h.rf gF rfl; obtain ⟨cells', hc'⟩ := Kd.R_typed h.rl gF e; rw [hc] at hc'; simp at hc'
/-- One element of what is wanted is written. -/
theorem St.putW {gF n c : Nat} (h : St g g9 C1 C9 vF (.slice (some ⟨gF, 0, none⟩) n c) vL vU vA L U la w0 flow want W) (i x : Int) (d1 : Dj vF (.slice (some ⟨gF, 0, none⟩) n c)) (d2 : Dj (.slice (some ⟨gF, 0, none⟩) n c) vU) (d3 : Dj (.slice (some ⟨gF, 0, none⟩) n c) vA) : St g g9 C1 C9 vF (.slice (some ⟨gF, 0, none⟩) n c) vL vU vA L U la w0 flow (want.set i.toNat x) (W.setCell ⟨gF, i.toNat, none⟩ (.int .i64 x)) := by
 obtain ⟨rfl, _⟩ := rR_ h.rw; have hp := Kd.R_put h.rw i x; refine h.setW rfl hp.2 ?_ (fun e => Kd.R_ne h.rw h.bu (by decide) (by rw [← e]; rfl)) (fun e => Kd.R_ne h.rw h.bt (by decide) (by rw [← e]; rfl)) (d1.symm _ rfl) (fun e => ?_) (d2 _ rfl) (d3 _ rfl); ·exact hp.1
 obtain ⟨cells, hc⟩ := Kd.R_typed h.rw gF rfl; obtain ⟨cells', hc'⟩ := Kd.R_typed h.rl gF e; rw [hc] at hc'; simp at hc'
end
set_option maxHeartbeats 8000000 in
set_option maxRecDepth 100000 in
theorem use_step.calls (k : Nat) (g : Nat) (n0 : Int) (AD : Option Addr) (cD : Nat) (diffs : List S39) (vF vW : Value) (flow want : List Int) (tg : Int) (AG : Option Addr) (cG : Nat) (givers : List Int) (r1 : Bool) (r2 r3 : List Int) (w0 w : World)
  (hB : Below w0.heap.size w0 w) (hg : w0.heap.size ≤ g) (hb : w.heap[g]? = some (.cells #[.int .i64 n0, .slice AD diffs.length cD, vF, vW] 96 (0, 0)))
  (hD : Kd.C k39 w0 AD diffs.length diffs) (hcD : diffs.length ≤ cD) (hF : Kd.R (Kd.int .i64) 3 w w0.heap.size (fun _ => True) vF flow) (hW : Kd.R (Kd.int .i64) 3 w w0.heap.size (fun _ => True) vW want) (hne : Dj vF vW)
  (hG : Kd.C (Kd.int .i64) w AG givers.length givers) (hcG : givers.length ≤ cG) (hfd : flow.length = diffs.length) (hl : diffs.length ≤ 65536) (hm : ∀ d ∈ diffs, -4611686018427387904 ≤ d.f2 ∧ d.f2 ≤ 4611686018427387904)
  (h : stepL k n0 diffs flow want tg givers = some (r1, r2, r3)) :
  Calls Try.prog 126 #[.pointer (some ⟨g, 0, none⟩), .int .i64 tg, .slice AG givers.length cG] w fun e w' => e = .returned (.bool r1) ∧ w'.heap[g]? = some (.cells #[.int .i64 n0, .slice AD diffs.length cD, vF, vW] 96 (0, 0)) ∧ Kd.R (Kd.int .i64) 3 w' w0.heap.size (fun _ => True) vF r2 ∧ Kd.R (Kd.int .i64) 3 w' w0.heap.size (fun _ => True) vW r3 ∧ Below w0.heap.size w0 w' := by
 unfold stepL at h; obtain ⟨⟨lo, ha, la, bad⟩, hgr, h⟩ := oS_.mp h; simp only at h; by_cases hto : 0 ≤ tg ∧ tg < (ha.length : Int) ∧ tg < (want.length : Int)
 case neg => rw [if_neg hto] at h; exact absurd h (by simp)
 rw [if_pos hto] at h; obtain ⟨AF, cF, rfl⟩ := own_slice (Kd.own_of_R hF); obtain ⟨AW, cW, rfl⟩ := own_slice (Kd.own_of_R hW); have HD := Z_ hD; have HCD := Z_ hcD; have HF := Z_ hF; have HW := Z_ hW; have DFW := Z_ hne; have HG := Z_ hG; have HCG := Z_ hcG; have HFD := Z_ hfd; have HL := Z_ hl; have HM := Z_ hm; have HGR := Z_ hgr; have HTO := Z_ hto; have HB := Z_ hB; have HGE := Z_ hg; have BU := Z_ hb; have HX := Z_ (Below.refl w.heap.size w); clear hB hg hb hD hcD hF hW hne hG hcG hfd hl hm hgr; by_cases hv : rdOf false ha tg = false
 ·rw [if_pos hv] at h
  simp only [oJ_, pI_] at h; obtain ⟨rfl, rfl, rfl⟩ := h; have HV := Z_ hv; clear hv hto; go_enter Try.func126, Try.ntmps126
  go_wp2_with (first
   | ((with_reducible refine gate_callee (f := 130) rfl ?_); refine goesL_ (some 19) rfl rfl Try.func130 (by kernel_rfl) rfl #[.pointer (some ⟨g, 0, none⟩)] rfl (by (try simp only [mT_, mC_, mN_]); first | done | rfl) ?_; (refine (use_lines.calls g _ AD cD diffs _ AF cF flow _ BU.out (cB_ HD.out HB.out) HCD.out (rR_ HF.out).2.2 HFD.out HL.out HM.out).mono ?_); rintro e w1 ⟨vL, rfl, ho, hb⟩; refine ⟨_, rfl, ?_⟩; have HLI := Z_ ho; clear HX; have HX := Z_ hb; clear ho hb; (obtain ⟨AL, cL, rfl⟩ := (show ∃ A c, vL = .slice A (linesL diffs flow).length c from (by obtain ⟨A, c, e, _⟩ := Kd.R_reads HLI.out; exact ⟨A, c, e⟩))))
   | ((with_reducible refine gate_callee (f := 131) rfl ?_); refine goesL_ (some 21) rfl rfl Try.func131 (by kernel_rfl) rfl #[.pointer (some ⟨g, 0, none⟩)] rfl (by (try simp only [mT_, mC_, mN_]); first | done | rfl) ?_; (refine (use_used.calls g _ _ _ AF cF flow _ (bB_ BU.out HX.out) (cB_ (rR_ HF.out).2.2 HX.out) (by have := HL.out; have := HFD.out; omega)).mono ?_); rintro e w2 ⟨vU, rfl, ho2, hb2⟩; refine ⟨_, rfl, ?_⟩; have n0_ := Z_ (rB_ HLI.out hb2); have HU := Z_ (rL_ ho2 HX.out.size); have DFU := Z_ (Dj.fresh HF.out ho2 HX.out.size); have DWU := Z_ (Dj.fresh HW.out ho2 HX.out.size); have n1_ := Z_ (fS_ HX.out hb2); clear HX HLI ho2 hb2; have HX := n1_; have HLI := n0_; clear n0_ n1_; (obtain ⟨AU, cU, rfl⟩ := own_slice (Kd.own_of_R HU.out)))
   | ((with_reducible refine gate_callee (f := 82) rfl ?_); refine goesL_ (some 26) rfl rfl Try.func82 (by kernel_rfl) rfl #[.iface 91 (.pointer (some ⟨g, 0, none⟩)), .slice AG givers.length cG] rfl (by (try simp only [mT_, mC_, mN_]); first | done | rfl) ?_; (refine (diffs_grow.any k 91 _ n0 (linesL diffs flow) AG cG givers lo ha la bad _ (graph_use (bB_ BU.out HX.out) (cB_ (cB_ HD.out HB.out) HX.out) HCD.out (cB_ (rR_ HF.out).2.2 HX.out) HFD.out HL.out HM.out) (cB_ HG.out HX.out) HCG.out HGR.out).mono ?_); rintro e w3 ⟨vlo, vha, vla, rfl, ho1, ho2, ho3, hb3⟩; refine ⟨_, rfl, ?_⟩; have VLO := Z_ (show ∃ A n c, vlo = Value.slice A n c from (by obtain ⟨A, c, e, _⟩ := Kd.R_reads ho1; exact ⟨A, _, c, e⟩)); have DFA := Z_ (Dj.fresh HF.out ho3 HX.out.size); have DWA := Z_ (Dj.fresh HW.out ho3 HX.out.size); have DUA := Z_ (Dj.fresh HU.out ho3 (nR_ _)); have n0_ := Z_ (rB_ HLI.out hb3); have n1_ := Z_ (rB_ HU.out hb3); have HHA := Z_ (rL_ (rM_ ho2 (fun _ _ => trivial)) HX.out.size); have HLA := Z_ (rL_ (rM_ ho3 (fun _ _ => trivial)) HX.out.size); have n2_ := Z_ (fS_ HX.out hb3); clear HX HLI HU ho1 ho2 ho3 hb3; have HX := n2_; have HLI := n0_; have HU := n1_; clear n0_ n1_ n2_; (obtain ⟨AH, cH, rfl⟩ := (show ∃ A c, vha = .slice A ha.length c from (by obtain ⟨A, c, e, _⟩ := Kd.R_reads HHA.out; exact ⟨A, c, e⟩))); (obtain ⟨AA, cA, rfl⟩ := (show ∃ A c, vla = .slice A la.length c from (by obtain ⟨A, c, e, _⟩ := Kd.R_reads HLA.out; exact ⟨A, c, e⟩))))
   | ((with_reducible refine gate_dst (N := 9) rfl ?_); refine box_event ?hg (N := 9) ?hd (cs := #[.slice none 0 0, .slice none 0 0, .slice none 0 0]) (t := 88) ?hr ?_; (case hd => rfl); (case hg => rfl); (case hr => first | (go_simp; done) | (go_simp; rfl)); intro g9 hg9 w4 hbox hb4; have n0_ := Z_ (rB_ HLI.out hb4); have n1_ := Z_ (rB_ HU.out hb4); have n3_ := Z_ (rB_ HLA.out hb4); have n4_ := Z_ (rB_ HHA.out hb4); have n2_ := Z_ (fS_ HX.out hb4); have BT := Z_ hbox; have NG := Z_ (show w.heap.size ≤ g9 ∧ (∀ k, (Value.slice AL (linesL diffs flow).length cL).ownBlock = some k → k ≠ g9) ∧ (∀ k, (Value.slice AU (usedL flow 0).length cU).ownBlock = some k → k ≠ g9) ∧ (∀ k, (Value.slice AA la.length cA).ownBlock = some k → k ≠ g9) ∧ (∀ k, (Value.slice AH ha.length cH).ownBlock = some k → k ≠ g9) from ⟨by rw [hg9]; exact HX.out.size, fun k e => by have := Kd.R_lt HLI.out k e; omega, fun k e => by have := Kd.R_lt HU.out k e; omega, fun k e => by have := Kd.R_lt HLA.out k e; omega, fun k e => by have := Kd.R_lt HHA.out k e; omega⟩); clear HX HLI HU HLA HHA hb4 hbox hg9; have HX := n2_; have HLI := n0_; have HU := n1_; have HLA := n3_; have HHA := n4_; clear n0_ n1_ n2_ n3_ n4_)
   | (refine gate_store (t := 88) (p := 9) (v := .tmp 27) rfl ?_; refine store_box rfl rfl 88 (.tmp 9) (.tmp 27) rfl [vlo, .slice AH ha.length cH, .slice AA la.length cA] (by rfl) g9 rfl _ rfl (by have := VLO.out; obtain ⟨Ao, no, co, rfl⟩ := this; rfl) (by intro q hq; simp only [List.mem_cons, List.not_mem_nil, or_false] at hq; obtain ⟨Ao, no, co, e⟩ := VLO.out; rcases hq with rfl | rfl | rfl; (subst e; rfl); rfl; rfl) _ BT.out rfl ?_; intro w5 hb5 hg5; have HS := Z_ (St.mk (vF := .slice AF flow.length cF) (vW := .slice AW want.length cW) (blk_grown (bB_ BU.out HX.out) hg5 (fun e => by have := blk_lt BU.out; have := NG.out.1; have := oI_ e; omega)) hb5 (Kd.R_grown2 (rB_ HF.out HX.out) rfl hg5 (fun k e e2 => by have := Kd.R_lt HF.out k e2.symm; have := NG.out.1; have := oI_ e; omega)) (Kd.R_grown2 (rB_ HW.out HX.out) rfl hg5 (fun k e e2 => by have := Kd.R_lt HW.out k e2.symm; have := NG.out.1; have := oI_ e; omega)) (rL_ (Kd.R_grown2 HLI.out rfl hg5 (fun k e e2 => NG.out.2.1 k e2.symm (oI_ e).symm)) HB.out.size) (rL_ (Kd.R_grown2 HU.out rfl hg5 (fun k e e2 => NG.out.2.2.1 k e2.symm (oI_ e).symm)) HB.out.size) (rL_ (Kd.R_grown2 HLA.out rfl hg5 (fun k e e2 => NG.out.2.2.2.1 k e2.symm (oI_ e).symm)) HB.out.size) ((fS_ HB.out HX.out).grown hg5 (Nat.le_trans HB.out.size HX.out.size) (fun k e => by have := NG.out.1; have := HB.out.size; have := oI_ e; omega))); have HA5 := Z_ (Kd.R_grown2 HHA.out rfl hg5 (fun k e e2 => NG.out.2.2.2.2 k e2.symm (oI_ e).symm)); have hz0 : w5.cell? ⟨g9, 1, none⟩ = some (.slice AH ha.length cH) := (bC_ hb5 1).trans rfl; clear BT hb5 hg5; (obtain ⟨adh, eh, hx0⟩ := Kd.at_bool (rR_ HA5.out).2.2 tg HTO.out.1 HTO.out.2.1); cases eh; rw [HV.out] at hx0; have p0 := HTO.out.1; have p1 := HTO.out.2.1))
  go_ret; exact ⟨rfl, HS.out.bu, HS.out.rf, HS.out.rw, HS.out.hb⟩
 rw [if_neg hv] at h; replace hv : rdOf false ha tg = true := by simpa using hv
 have HV := Z_ hv; obtain ⟨⟨pl, pv⟩, hp, h⟩ := oS_.mp h; simp only at h; have HP := Z_ hp; have HH := Z_ h; clear hv hto h hp; go_enter Try.func126, Try.ntmps126
 go_wp2_with (first
  | ((with_reducible refine gate_callee (f := 130) rfl ?_); refine goesL_ (some 19) rfl rfl Try.func130 (by kernel_rfl) rfl #[.pointer (some ⟨g, 0, none⟩)] rfl (by (try simp only [mT_, mC_, mN_]); first | done | rfl) ?_; (refine (use_lines.calls g _ AD cD diffs _ AF cF flow _ BU.out (cB_ HD.out HB.out) HCD.out (rR_ HF.out).2.2 HFD.out HL.out HM.out).mono ?_); rintro e w1 ⟨vL, rfl, ho, hb⟩; refine ⟨_, rfl, ?_⟩; have HLI := Z_ ho; clear HX; have HX := Z_ hb; clear ho hb; (obtain ⟨AL, cL, rfl⟩ := (show ∃ A c, vL = .slice A (linesL diffs flow).length c from (by obtain ⟨A, c, e, _⟩ := Kd.R_reads HLI.out; exact ⟨A, c, e⟩))))
  | ((with_reducible refine gate_callee (f := 131) rfl ?_); refine goesL_ (some 21) rfl rfl Try.func131 (by kernel_rfl) rfl #[.pointer (some ⟨g, 0, none⟩)] rfl (by (try simp only [mT_, mC_, mN_]); first | done | rfl) ?_; (refine (use_used.calls g _ _ _ AF cF flow _ (bB_ BU.out HX.out) (cB_ (rR_ HF.out).2.2 HX.out) (by have := HL.out; have := HFD.out; omega)).mono ?_); rintro e w2 ⟨vU, rfl, ho2, hb2⟩; refine ⟨_, rfl, ?_⟩; have n0_ := Z_ (rB_ HLI.out hb2); have HU := Z_ (rL_ ho2 HX.out.size); have DFU := Z_ (Dj.fresh HF.out ho2 HX.out.size); have DWU := Z_ (Dj.fresh HW.out ho2 HX.out.size); have n1_ := Z_ (fS_ HX.out hb2); clear HX HLI ho2 hb2; have HX := n1_; have HLI := n0_; clear n0_ n1_; (obtain ⟨AU, cU, rfl⟩ := own_slice (Kd.own_of_R HU.out)))
  | ((with_reducible refine gate_callee (f := 82) rfl ?_); refine goesL_ (some 26) rfl rfl Try.func82 (by kernel_rfl) rfl #[.iface 91 (.pointer (some ⟨g, 0, none⟩)), .slice AG givers.length cG] rfl (by (try simp only [mT_, mC_, mN_]); first | done | rfl) ?_; (refine (diffs_grow.any k 91 _ n0 (linesL diffs flow) AG cG givers lo ha la bad _ (graph_use (bB_ BU.out HX.out) (cB_ (cB_ HD.out HB.out) HX.out) HCD.out (cB_ (rR_ HF.out).2.2 HX.out) HFD.out HL.out HM.out) (cB_ HG.out HX.out) HCG.out HGR.out).mono ?_); rintro e w3 ⟨vlo, vha, vla, rfl, ho1, ho2, ho3, hb3⟩; refine ⟨_, rfl, ?_⟩; have VLO := Z_ (show ∃ A n c, vlo = Value.slice A n c from (by obtain ⟨A, c, e, _⟩ := Kd.R_reads ho1; exact ⟨A, _, c, e⟩)); have DFA := Z_ (Dj.fresh HF.out ho3 HX.out.size); have DWA := Z_ (Dj.fresh HW.out ho3 HX.out.size); have DUA := Z_ (Dj.fresh HU.out ho3 (nR_ _)); have n0_ := Z_ (rB_ HLI.out hb3); have n1_ := Z_ (rB_ HU.out hb3); have HHA := Z_ (rL_ (rM_ ho2 (fun _ _ => trivial)) HX.out.size); have HLA := Z_ (rL_ (rM_ ho3 (fun _ _ => trivial)) HX.out.size); have n2_ := Z_ (fS_ HX.out hb3); clear HX HLI HU ho1 ho2 ho3 hb3; have HX := n2_; have HLI := n0_; have HU := n1_; clear n0_ n1_ n2_; (obtain ⟨AH, cH, rfl⟩ := (show ∃ A c, vha = .slice A ha.length c from (by obtain ⟨A, c, e, _⟩ := Kd.R_reads HHA.out; exact ⟨A, c, e⟩))); (obtain ⟨AA, cA, rfl⟩ := (show ∃ A c, vla = .slice A la.length c from (by obtain ⟨A, c, e, _⟩ := Kd.R_reads HLA.out; exact ⟨A, c, e⟩))))
  | ((with_reducible refine gate_dst (N := 9) rfl ?_); refine box_event ?hg (N := 9) ?hd (cs := #[.slice none 0 0, .slice none 0 0, .slice none 0 0]) (t := 88) ?hr ?_; (case hd => rfl); (case hg => rfl); (case hr => first | (go_simp; done) | (go_simp; rfl)); intro g9 hg9 w4 hbox hb4; have n0_ := Z_ (rB_ HLI.out hb4); have n1_ := Z_ (rB_ HU.out hb4); have n3_ := Z_ (rB_ HLA.out hb4); have n4_ := Z_ (rB_ HHA.out hb4); have n2_ := Z_ (fS_ HX.out hb4); have BT := Z_ hbox; have NG := Z_ (show w.heap.size ≤ g9 ∧ (∀ k, (Value.slice AL (linesL diffs flow).length cL).ownBlock = some k → k ≠ g9) ∧ (∀ k, (Value.slice AU (usedL flow 0).length cU).ownBlock = some k → k ≠ g9) ∧ (∀ k, (Value.slice AA la.length cA).ownBlock = some k → k ≠ g9) ∧ (∀ k, (Value.slice AH ha.length cH).ownBlock = some k → k ≠ g9) from ⟨by rw [hg9]; exact HX.out.size, fun k e => by have := Kd.R_lt HLI.out k e; omega, fun k e => by have := Kd.R_lt HU.out k e; omega, fun k e => by have := Kd.R_lt HLA.out k e; omega, fun k e => by have := Kd.R_lt HHA.out k e; omega⟩); clear HX HLI HU HLA HHA hb4 hbox hg9; have HX := n2_; have HLI := n0_; have HU := n1_; have HLA := n3_; have HHA := n4_; clear n0_ n1_ n2_ n3_ n4_)
  | (refine gate_store (t := 88) (p := 9) (v := .tmp 27) rfl ?_; refine store_box rfl rfl 88 (.tmp 9) (.tmp 27) rfl [vlo, .slice AH ha.length cH, .slice AA la.length cA] (by rfl) g9 rfl _ rfl (by have := VLO.out; obtain ⟨Ao, no, co, rfl⟩ := this; rfl) (by intro q hq; simp only [List.mem_cons, List.not_mem_nil, or_false] at hq; obtain ⟨Ao, no, co, e⟩ := VLO.out; rcases hq with rfl | rfl | rfl; (subst e; rfl); rfl; rfl) _ BT.out rfl ?_; intro w5 hb5 hg5; have HS := Z_ (St.mk (vF := .slice AF flow.length cF) (vW := .slice AW want.length cW) (blk_grown (bB_ BU.out HX.out) hg5 (fun e => by have := blk_lt BU.out; have := NG.out.1; have := oI_ e; omega)) hb5 (Kd.R_grown2 (rB_ HF.out HX.out) rfl hg5 (fun k e e2 => by have := Kd.R_lt HF.out k e2.symm; have := NG.out.1; have := oI_ e; omega)) (Kd.R_grown2 (rB_ HW.out HX.out) rfl hg5 (fun k e e2 => by have := Kd.R_lt HW.out k e2.symm; have := NG.out.1; have := oI_ e; omega)) (rL_ (Kd.R_grown2 HLI.out rfl hg5 (fun k e e2 => NG.out.2.1 k e2.symm (oI_ e).symm)) HB.out.size) (rL_ (Kd.R_grown2 HU.out rfl hg5 (fun k e e2 => NG.out.2.2.1 k e2.symm (oI_ e).symm)) HB.out.size) (rL_ (Kd.R_grown2 HLA.out rfl hg5 (fun k e e2 => NG.out.2.2.2.1 k e2.symm (oI_ e).symm)) HB.out.size) ((fS_ HB.out HX.out).grown hg5 (Nat.le_trans HB.out.size HX.out.size) (fun k e => by have := NG.out.1; have := HB.out.size; have := oI_ e; omega))); have HA5 := Z_ (Kd.R_grown2 HHA.out rfl hg5 (fun k e e2 => NG.out.2.2.2.2 k e2.symm (oI_ e).symm)); have hz0 : w5.cell? ⟨g9, 1, none⟩ = some (.slice AH ha.length cH) := (bC_ hb5 1).trans rfl; clear BT hb5 hg5; (obtain ⟨adh, eh, hx0⟩ := Kd.at_bool (rR_ HA5.out).2.2 tg HTO.out.1 HTO.out.2.1); cases eh; rw [HV.out] at hx0; have p0 := HTO.out.1; have p1 := HTO.out.2.1))
 go_loopg [11, 12] k (fun kq v11 v12 w' => ∃ (acc : List Int) (v : Int), v12 = .int .i64 v ∧ Aside0 (pathL (linesL diffs flow) la kq v acc = some (pl, pv)) ∧ Aside0 (Kd.R (Kd.int .i64) 3 w' w0.heap.size (fun _ => True) v11 acc) ∧ Aside0 (∀ k, v11.ownBlock = some k → Away g g9 (Value.slice AF flow.length cF) (Value.slice AW want.length cW) (Value.slice AL (linesL diffs flow).length cL) (Value.slice AU (usedL flow 0).length cU) (Value.slice AA la.length cA) w0 k) ∧ Aside0 (St g g9 #[Value.int IntKind.i64 n0, Value.slice AD diffs.length cD, Value.slice AF flow.length cF, Value.slice AW want.length cW] #[vlo, Value.slice (some adh) ha.length cH, Value.slice AA la.length cA] (Value.slice AF flow.length cF) (Value.slice AW want.length cW) (Value.slice AL (linesL diffs flow).length cL) (Value.slice AU (usedL flow 0).length cU) (Value.slice AA la.length cA) (linesL diffs flow) (usedL flow 0) la w0 flow want w'))
 case atStart => exact ⟨[], tg, rfl, HP, ⟨Kd.R_nil _ _ _ _ _⟩, ⟨fun k e => by simp [Value.ownBlock] at e⟩, HS⟩
 case round =>
  clear HS hx0 hz0; obtain ⟨acc, v, rfl, HP, HO, HA, HS⟩ := hrel
  cases gk with
  | zero => exact absurd HP.out (by simp [pathL])
  | succ k1 =>
   have hP := HP.out; clear HP; unfold pathL at hP; by_cases c1 : 0 ≤ v ∧ v < (la.length : Int)
   case neg => rw [if_neg c1] at hP; exact absurd hP (by simp)
   rw [if_pos c1] at hP; have q0 := c1.1; have q1 := c1.2; obtain ⟨ada, e1, hx1⟩ := Kd.at_int (rR_ HS.out.ra).2.2 v q0 q1; cases e1
   have hz1 : wr.cell? ⟨g9, 2, none⟩ = some (.slice (some ada) la.length cA) := (bC_ HS.out.bt 2).trans rfl; by_cases c2 : rd la v ≥ 0
   ·rw [if_pos c2] at hP
    have c2b : decide (rd la v ≥ 0) = true := eT_ c2; by_cases c3 : rd la v < ((linesL diffs flow).length : Int) ∧ acc.length < 65536
    case neg => rw [if_neg c3] at hP; exact absurd hP (by simp)
    rw [if_pos c3] at hP; have HP := Z_ hP; have q2 : 0 ≤ rd la v := c2; have q3 := c3.1; have q4 := c3.2; clear hP c1 c2 c3; go_wp2_with (first | ((with_reducible refine gate_builtin (b := .append) (xs := #[.tmp 51, .tmp 57]) rfl ?_); at_builtin; go_must (refine Kd.R_append (Kd.int .i64) (w0 := w0) w0.heap.size rfl (.tmp 51) (.tmp 57) 29 3 (.int .i64 0) 8 rfl Try.underlying29 info3 rfl (by decide) (by omega) u11 acc (rd la v) [.int .i64 (rd la v)] (fun _ => True) (fun _ => False) rfl rfl ?aP (fun _ hk => hk.elim) ?aF ?aO ?aB ?aS ?aL ?_; (case aP => exact rfl); (case aB => exact HS.out.hb); (case aF => exact (fun _ _ => trivial)); (case aO => exact HO.out); (case aS => exact (fZ_ HS.out.hb)); (case aL => omega); intro v118 w8 ho hb hg hat; have HS1 := HS.out; have n0_ := Z_ (HS1.grown hg HA.out); have n1_ := Z_ (show ∀ k, v118.ownBlock = some k → Away g g9 (Value.slice AF flow.length cF) (Value.slice AW want.length cW) (Value.slice AL (linesL diffs flow).length cL) (Value.slice AU (usedL flow 0).length cU) (Value.slice (some ada) la.length cA) w0 k from fun k e => (by rcases hat with e2 | ⟨b, e2, hb2⟩; exact HA.out k (e2.symm.trans e); exact HS1.away (by rw [e2] at e; cases e; exact hb2))); clear HS HA HO HS1 hg hat; have HS := n0_; have HA := n1_; have HO := Z_ ho; clear n0_ n1_ ho hb; have hz2 : w8.cell? ⟨g9, 2, none⟩ = some (.slice (some ada) la.length cA) := (bC_ HS.out.bt 2).trans rfl; (obtain ⟨ada2, e2, hx2⟩ := Kd.at_int (rR_ HS.out.ra).2.2 v q0 q1); cases e2; (obtain ⟨adl, e3, hy0, _⟩ := at_T39 (rR_ HS.out.rl).2.2 (rd la v) q2 q3); cases e3))); go_roundg k1
    case measure => omega
    case rel => exact ⟨acc ++ [rd la v], (rd_T39 (linesL diffs flow) (rd la v)).f0, rfl, HP, HO, HA, HS⟩
   rw [if_neg c2] at hP; have c2b : decide (rd la v ≥ 0) = false := eF_ c2; simp only [oJ_, pI_] at hP; obtain ⟨rfl, rfl⟩ := hP; have hh := HH.out; clear HH; by_cases cw : v < (want.length : Int)
   case neg => rw [if_neg cw] at hh; exact absurd hh (by simp)
   rw [if_pos cw] at hh; obtain ⟨m, hmu, hh⟩ := oS_.mp hh; obtain ⟨flow', hap, hh⟩ := oS_.mp hh; simp only [oJ_, pI_] at hh; obtain ⟨rfl, rfl, rfl⟩ := hh; have HMU := Z_ hmu; have HAP := Z_ hap; have HCW := Z_ (show 0 ≤ v ∧ v < (want.length : Int) from ⟨q0, cw⟩); have HT0 := Z_ (show 0 ≤ tg ∧ tg < (want.length : Int) from ⟨HTO.out.1, HTO.out.2.2⟩); clear hmu hap cw c1 p0 p1; obtain ⟨Al, cl, rfl⟩ := own_slice (Kd.own_of_R HO.out); go_upto_if 60 with (fail); go_cut [13] (fun v13 wc => v13 = .int .i64 (much1 want tg) ∧ Aside0 (Kd.R (Kd.int .i64) 3 wc w0.heap.size (fun _ => True) (Value.slice Al acc.length cl) acc) ∧ Aside0 (St g g9 #[Value.int IntKind.i64 n0, Value.slice AD diffs.length cD, Value.slice AF flow.length cF, Value.slice AW want.length cW] #[vlo, Value.slice (some adh) ha.length cH, Value.slice (some ada) la.length cA] (Value.slice AF flow.length cF) (Value.slice AW want.length cW) (Value.slice AL (linesL diffs flow).length cL) (Value.slice AU (usedL flow 0).length cU) (Value.slice (some ada) la.length cA) (linesL diffs flow) (usedL flow 0) la w0 flow want wc))
   case first =>
    by_cases ct : tg = 0
    ·have ctb : (tg != 0) = false := bne_eq_false_iff_eq.mpr ct
     have e1 := Z_ (show much1 want tg = 1152921504606846976 from if_pos ct); clear ct; go_wp2; go_meet
     case rel => exact ⟨by rw [e1.out], HO, HS⟩
    have ctb : (tg != 0) = true := bne_iff_ne.mpr ct; have e1 := Z_ (show much1 want tg = rd want tg from if_neg ct); clear ct; obtain ⟨adw, ew, hw⟩ := Kd.at_int (rR_ HS.out.rw).2.2 tg HT0.out.1 HT0.out.2; cases ew
    have hg3 : wr.cell? ⟨g, 3, none⟩ = some (.slice (some adw) want.length cW) := (bC_ HS.out.bu 3).trans rfl; have p0 := HT0.out.1; have p1 := HT0.out.2; go_wp2; go_meet
    case rel => exact ⟨by rw [e1.out], HO, HS⟩
   case rest =>
    obtain ⟨rfl, HO, HS⟩ := hcut; go_upto_if 69 with (fail); go_cut [13] (fun v13 wd => v13 = .int .i64 (much2 want tg v) ∧ Aside0 (Kd.R (Kd.int .i64) 3 wd w0.heap.size (fun _ => True) (Value.slice Al acc.length cl) acc) ∧ Aside0 (St g g9 #[Value.int IntKind.i64 n0, Value.slice AD diffs.length cD, Value.slice AF flow.length cF, Value.slice AW want.length cW] #[vlo, Value.slice (some adh) ha.length cH, Value.slice (some ada) la.length cA] (Value.slice AF flow.length cF) (Value.slice AW want.length cW) (Value.slice AL (linesL diffs flow).length cL) (Value.slice AU (usedL flow 0).length cU) (Value.slice (some ada) la.length cA) (linesL diffs flow) (usedL flow 0) la w0 flow want wd))
    case first =>
     by_cases ct : v = 0
     ·have ctb : (v != 0) = false := bne_eq_false_iff_eq.mpr ct
      have e1 := Z_ (show much2 want tg v = much1 want tg from if_pos ct); clear ct; go_wp2; go_meet
      case rel => exact ⟨by rw [e1.out], HO, HS⟩
     have ctb : (v != 0) = true := bne_iff_ne.mpr ct; have e1 := Z_ (show much2 want tg v = min (much1 want tg) (wrap64 (-(rd want v))) from if_neg ct); clear ct; obtain ⟨adw, ew, hw⟩ := Kd.at_int (rR_ HS.out.rw).2.2 v HCW.out.1 HCW.out.2; cases ew
     have hg3 : wc.cell? ⟨g, 3, none⟩ = some (.slice (some adw) want.length cW) := (bC_ HS.out.bu 3).trans rfl; have p0 := HCW.out.1; have p1 := HCW.out.2; go_wp2
     ·go_meet
      case rel => exact ⟨by rw [e1.out, Int.min_eq_right (by omega)], HO, HS⟩
     go_meet
     case rel => exact ⟨by rw [e1.out, Int.min_eq_left (by omega)], HO, HS⟩
    case rest =>
     obtain ⟨rfl, HO, HS⟩ := hcut; go_wp2; go_loopg [13, 82] acc.length (fun kq v13 v82 w' => ∃ (mm i : Int), v13 = .int .i64 mm ∧ v82 = .int .i64 i ∧ Aside0 (0 ≤ i ∧ (kq : Int) + i = acc.length ∧ muchL (diffs.length : Int) flow (usedL flow 0) (acc.drop i.toNat) mm = some m) ∧ Aside0 (Kd.R (Kd.int .i64) 3 w' w0.heap.size (fun _ => True) (Value.slice Al acc.length cl) acc) ∧ Aside0 (St g g9 #[Value.int IntKind.i64 n0, Value.slice AD diffs.length cD, Value.slice AF flow.length cF, Value.slice AW want.length cW] #[vlo, Value.slice (some adh) ha.length cH, Value.slice (some ada) la.length cA] (Value.slice AF flow.length cF) (Value.slice AW want.length cW) (Value.slice AL (linesL diffs flow).length cL) (Value.slice AU (usedL flow 0).length cU) (Value.slice (some ada) la.length cA) (linesL diffs flow) (usedL flow 0) la w0 flow want w'))
     case atStart => exact ⟨_, 0, rfl, rfl, ⟨by omega, by omega, HMU.out⟩, HO, HS⟩
     case round =>
      obtain ⟨mm, i, rfl, rfl, HI, HO, HS⟩ := hrel; have h0 := HI.out.1; have hk := HI.out.2.1; have hM := HI.out.2.2; have hN := HL.out; by_cases hlt : i < (acc.length : Int)
      ·obtain ⟨adk, ek, hxk⟩ := Kd.at_int (rR_ HO.out).2.2 i h0 hlt
       cases ek
       rw [drop_rd acc i h0 hlt] at hM; unfold muchL at hM; have hz1 : wr.cell? ⟨g, 1, none⟩ = some (.slice AD diffs.length cD) := (bC_ HS.out.bu 1).trans rfl; have hz2 : wr.cell? ⟨g, 2, none⟩ = some (.slice AF flow.length cF) := (bC_ HS.out.bu 2).trans rfl; have hmx := (rR_ HO.out).2.2.2.1; have hw64 : i + 1 ≤ 9223372036854775807 := by omega
       clear hmx; by_cases ck : rd acc i ≥ (diffs.length : Int)
       ·rw [if_pos ck] at hM
        have ckb : decide (rd acc i ≥ (diffs.length : Int)) = true := eT_ ck; by_cases cc : (0 ≤ wrap64 (rd acc i - (diffs.length : Int)) ∧ wrap64 (rd acc i - (diffs.length : Int)) < ((usedL flow 0).length : Int)) ∧ 0 ≤ rd (usedL flow 0) (wrap64 (rd acc i - (diffs.length : Int))) ∧ rd (usedL flow 0) (wrap64 (rd acc i - (diffs.length : Int))) < (flow.length : Int)
        case neg => rw [if_neg cc] at hM; exact absurd hM (by simp)
        rw [if_pos cc] at hM; have HM2 := Z_ hM; obtain ⟨⟨s0, s1⟩, s2, s3⟩ := cc; obtain ⟨adu, eu, hxu⟩ := Kd.at_int (rR_ HS.out.ru).2.2 _ s0 s1; cases eu
        obtain ⟨adf, ef, hxf⟩ := Kd.at_int (rR_ HS.out.rf).2.2 _ s2 s3; cases ef
        clear hM; by_cases cm : rd flow (rd (usedL flow 0) (wrap64 (rd acc i - (diffs.length : Int)))) < mm
        ·have e1 := Z_ (Int.min_eq_right (a := mm) (b := rd flow (rd (usedL flow 0) (wrap64 (rd acc i - (diffs.length : Int))))) (by omega))
         go_wp2; go_quiet (fail); go_wp2; go_roundg (gk - 1)
         case measure => omega
         case rel => exact ⟨_, i + 1, rfl, rfl, ⟨by omega, by omega, by rw [← e1.out]; exact HM2.out⟩, ⟨rN_ HO.out _⟩, ⟨HS.out.below (pB_ (Below.refl _ _) _)⟩⟩
        have e1 := Z_ (Int.min_eq_left (a := mm) (b := rd flow (rd (usedL flow 0) (wrap64 (rd acc i - (diffs.length : Int))))) (by omega)); go_wp2; go_quiet (fail); go_wp2; go_roundg (gk - 1)
        case measure => omega
        case rel => exact ⟨_, i + 1, rfl, rfl, ⟨by omega, by omega, by rw [← e1.out]; exact HM2.out⟩, ⟨rN_ HO.out _⟩, ⟨HS.out.below (pB_ (Below.refl _ _) _)⟩⟩
       rw [if_neg ck] at hM; have ckb : decide (rd acc i ≥ (diffs.length : Int)) = false := eF_ ck; have HM2 := Z_ hM; clear hM; go_wp2; go_roundg (gk - 1)
       case measure => omega
       case rel => exact ⟨mm, i + 1, rfl, rfl, ⟨by omega, by omega, HM2.out⟩, HO, HS⟩
      have e0 := Z_ (show mm = m from by rw [List.drop_eq_nil_of_le (by omega)] at hM; exact oI_ hM); clear hM HMU; go_wp2; go_loopg [116] acc.length (fun kq v116 w' => ∃ (fl : List Int) (i : Int), v116 = .int .i64 i ∧ Aside0 (0 ≤ i ∧ (kq : Int) + i = acc.length ∧ fl.length = flow.length ∧ applyL (diffs.length : Int) (usedL flow 0) m (acc.drop i.toNat) fl = some flow') ∧ Aside0 (Kd.R (Kd.int .i64) 3 w' w0.heap.size (fun _ => True) (Value.slice Al acc.length cl) acc) ∧ Aside0 (St g g9 #[Value.int IntKind.i64 n0, Value.slice AD diffs.length cD, Value.slice AF flow.length cF, Value.slice AW want.length cW] #[vlo, Value.slice (some adh) ha.length cH, Value.slice (some ada) la.length cA] (Value.slice AF flow.length cF) (Value.slice AW want.length cW) (Value.slice AL (linesL diffs flow).length cL) (Value.slice AU (usedL flow 0).length cU) (Value.slice (some ada) la.length cA) (linesL diffs flow) (usedL flow 0) la w0 fl want w'))
      case atStart => exact ⟨flow, 0, rfl, ⟨by omega, by omega, rfl, HAP.out⟩, HO, HS⟩
      case round =>
       clear HO HS HI; obtain ⟨fl, i, rfl, HI, HO, HS⟩ := hrel; have h0 := HI.out.1; have hk := HI.out.2.1; have hfl := HI.out.2.2.1; have hM := HI.out.2.2.2; by_cases hlt : i < (acc.length : Int)
       ·obtain ⟨adk, ek, hxk⟩ := Kd.at_int (rR_ HO.out).2.2 i h0 hlt
        cases ek
        rw [drop_rd acc i h0 hlt] at hM; unfold applyL at hM; have hz1 : wr.cell? ⟨g, 1, none⟩ = some (.slice AD diffs.length cD) := (bC_ HS.out.bu 1).trans rfl; have hw64 : i + 1 ≤ 9223372036854775807 := by have := (rR_ HO.out).2.2.2.1; omega
        by_cases ck : rd acc i ≥ (diffs.length : Int)
        ·rw [if_pos ck] at hM
         have ckb : decide (rd acc i ≥ (diffs.length : Int)) = true := eT_ ck; obtain ⟨o1, ho1⟩ : ∃ o1, o1 = wrap64 (rd acc i - (diffs.length : Int)) := ⟨_, rfl⟩; rw [← ho1] at hM; obtain ⟨o2, ho2⟩ : ∃ o2, o2 = rd (usedL flow 0) o1 := ⟨_, rfl⟩; rw [← ho2] at hM; obtain ⟨o3, ho3⟩ : ∃ o3, o3 = wrap64 (rd fl o2 - m) := ⟨_, rfl⟩; rw [← ho3] at hM; by_cases cc : (0 ≤ o1 ∧ o1 < ((usedL flow 0).length : Int)) ∧ 0 ≤ o2 ∧ o2 < (fl.length : Int)
         case neg => rw [if_neg cc] at hM; exact absurd hM (by simp)
         rw [if_pos cc] at hM; have HM2 := Z_ hM; obtain ⟨⟨s0, s1⟩, s2, s3'⟩ := cc; have s3 : o2 < (flow.length : Int) := by rw [← hfl]; exact s3'
         obtain ⟨adu, eu, hxu⟩ := Kd.at_int (rR_ HS.out.ru).2.2 o1 s0 s1; cases eu
         rw [← ho2] at hxu; obtain ⟨gF, cF', eF, _, _, _⟩ := Kd.R_form HS.out.rf (by omega); injection eF with e1 e2 e3; subst e1; clear e2 e3; have hz2 : wr.cell? ⟨g, 2, none⟩ = some (.slice (some ⟨gF, 0, none⟩) flow.length cF) := (bC_ HS.out.bu 2).trans rfl; have hxf : wr.cell? ⟨gF, o2.toNat, none⟩ = some (.int .i64 (rd fl o2)) := (Kd.R_celln 0 HS.out.rf o2 s2 s3).1; have hff := (Kd.R_celln 0 HS.out.rf o2 s2 s3).2; have hwr : IntKind.i64.wrap (rd acc i - (diffs.length : Int)) = o1 := by rw [ho1]; exact i64_w _
         have hwv : IntKind.i64.wrap (rd fl o2 - mm) = o3 := by rw [ho3, e0.out]; exact i64_w _
         have N0 := Z_ (HS.out.below (pB_ (Below.refl _ _) 1)); have N1 := Z_ (rN_ HO.out 1); clear hM ho1 ho2 ho3; go_wp2; go_still_tail 20, (by kernel_rfl); change wpList _ _ _ _ _ (wr.drewN 1); have hff1 : (wr.drewN 1).frozen? ⟨gF, o2.toNat, none⟩ = false := hff; have hxf1 : (wr.drewN 1).cell? ⟨gF, o2.toNat, none⟩ = some (.int .i64 (rd fl o2)) := hxf; generalize wr.drewN 1 = wq at N0 N1 hff1 hxf1 ⊢; go_wp2; have N2 := Z_ (N0.out.putF o2 o3 DFW.out DFU.out DFA.out); have N3 := Z_ (Kd.R_grown2 N1.out rfl (grown_set wq ⟨gF, o2.toNat, none⟩ (.int .i64 o3)) (fun k e e2 => (HA.out k e2.symm).f e)); go_roundg (gk - 1)
         case measure => omega
         case rel => exact ⟨fl.set o2.toNat o3, i + 1, rfl, ⟨by omega, by omega, by rw [List.length_set]; exact hfl, HM2.out⟩, N3, N2⟩
        rw [if_neg ck] at hM; have ckb : decide (rd acc i ≥ (diffs.length : Int)) = false := eF_ ck; obtain ⟨o3, ho3⟩ : ∃ o3, o3 = wrap64 (rd fl (rd acc i) + m) := ⟨_, rfl⟩; rw [← ho3] at hM; by_cases cc : 0 ≤ rd acc i ∧ rd acc i < (fl.length : Int)
        case neg => rw [if_neg cc] at hM; exact absurd hM (by simp)
        rw [if_pos cc] at hM; have HM2 := Z_ hM; obtain ⟨s2, s3'⟩ := cc; have s3 : rd acc i < (flow.length : Int) := by rw [← hfl]; exact s3'
        obtain ⟨gF, cF', eF, _, _, _⟩ := Kd.R_form HS.out.rf (by omega); injection eF with e1 e2 e3; subst e1; clear e2 e3; have hz2 : wr.cell? ⟨g, 2, none⟩ = some (.slice (some ⟨gF, 0, none⟩) flow.length cF) := (bC_ HS.out.bu 2).trans rfl; have hxf : wr.cell? ⟨gF, (rd acc i).toNat, none⟩ = some (.int .i64 (rd fl (rd acc i))) := (Kd.R_celln 0 HS.out.rf _ s2 s3).1; have hff := (Kd.R_celln 0 HS.out.rf _ s2 s3).2; have hwv : IntKind.i64.wrap (rd fl (rd acc i) + mm) = o3 := by rw [ho3, e0.out]; exact i64_w _
        have N2 := Z_ (HS.out.putF (rd acc i) o3 DFW.out DFU.out DFA.out); have N3 := Z_ (Kd.R_grown2 HO.out rfl (grown_set wr ⟨gF, (rd acc i).toNat, none⟩ (.int .i64 o3)) (fun k e e2 => (HA.out k e2.symm).f e)); clear hM ho3; go_wp2; go_roundg (gk - 1)
        case measure => omega
        case rel => exact ⟨fl.set (rd acc i).toNat o3, i + 1, rfl, ⟨by omega, by omega, by rw [List.length_set]; exact hfl, HM2.out⟩, N3, N2⟩
       have e1 := Z_ (show fl = flow' from by rw [List.drop_eq_nil_of_le (by omega)] at hM; exact oI_ hM); clear hM HAP; go_upto_if 160 with (fail); go_cut [13] (fun v13 wc => v13 = .int .i64 mm ∧ Aside0 (St g g9 #[Value.int IntKind.i64 n0, Value.slice AD diffs.length cD, Value.slice AF flow.length cF, Value.slice AW want.length cW] #[vlo, Value.slice (some adh) ha.length cH, Value.slice (some ada) la.length cA] (Value.slice AF flow.length cF) (Value.slice AW want.length cW) (Value.slice AL (linesL diffs flow).length cL) (Value.slice AU (usedL flow 0).length cU) (Value.slice (some ada) la.length cA) (linesL diffs flow) (usedL flow 0) la w0 fl (want1 want tg m) wc))
       case first =>
        by_cases ct : tg = 0
        ·have ctb : (tg != 0) = false := bne_eq_false_iff_eq.mpr ct
         have e2 := Z_ (show want1 want tg m = want from if_pos ct); clear ct; go_wp2; go_meet
         case rel => exact ⟨rfl, by rw [e2.out]; exact HS⟩
        have ctb : (tg != 0) = true := bne_iff_ne.mpr ct; obtain ⟨o3, ho3⟩ : ∃ o3, o3 = wrap64 (rd want tg - m) := ⟨_, rfl⟩; have e2 := Z_ (show want1 want tg m = want.set tg.toNat o3 from by rw [ho3]; exact if_neg ct); clear ct; have p0 := HT0.out.1; have p1 := HT0.out.2; obtain ⟨gF, cF', eF, _, _, _⟩ := Kd.R_form HS.out.rw (by omega); injection eF with ea eb ec; subst ea; clear eb ec; have hz3 : wr.cell? ⟨g, 3, none⟩ = some (.slice (some ⟨gF, 0, none⟩) want.length cW) := (bC_ HS.out.bu 3).trans rfl; have hxf : wr.cell? ⟨gF, tg.toNat, none⟩ = some (.int .i64 (rd want tg)) := (Kd.R_celln 0 HS.out.rw _ p0 p1).1; have hff := (Kd.R_celln 0 HS.out.rw _ p0 p1).2; have hwv : IntKind.i64.wrap (rd want tg - mm) = o3 := by rw [ho3, e0.out]; exact i64_w _
        have N2 := Z_ (HS.out.putW tg o3 DFW.out DWU.out DWA.out); clear ho3; go_wp2; go_meet
        case rel => exact ⟨rfl, by rw [e2.out]; exact N2⟩
       case rest =>
        obtain ⟨rfl, HS⟩ := hcut; have hlw : (want1 want tg m).length = want.length := by unfold want1; split; rfl; exact List.length_set ..
        have HLW := Z_ hlw; clear hlw; obtain ⟨wt, hwt⟩ : ∃ wt, wt = want1 want tg m := ⟨_, rfl⟩; rw [← hwt] at HS HLW; have HWT := Z_ hwt; clear hwt; go_upto_if 172 with (fail); go_cut [13] (fun v13 wd => v13 = .int .i64 mm ∧ Aside0 (St g g9 #[Value.int IntKind.i64 n0, Value.slice AD diffs.length cD, Value.slice AF flow.length cF, Value.slice AW want.length cW] #[vlo, Value.slice (some adh) ha.length cH, Value.slice (some ada) la.length cA] (Value.slice AF flow.length cF) (Value.slice AW want.length cW) (Value.slice AL (linesL diffs flow).length cL) (Value.slice AU (usedL flow 0).length cU) (Value.slice (some ada) la.length cA) (linesL diffs flow) (usedL flow 0) la w0 fl (want2 want tg v m) wd))
        case first =>
         by_cases ct : v = 0
         ·have ctb : (v != 0) = false := bne_eq_false_iff_eq.mpr ct
          have e2 := Z_ (show want2 want tg v m = wt from (if_pos ct).trans HWT.out.symm); clear ct; go_wp2; go_meet
          case rel => exact ⟨rfl, by rw [e2.out]; exact HS⟩
         have ctb : (v != 0) = true := bne_iff_ne.mpr ct; obtain ⟨o3, ho3⟩ : ∃ o3, o3 = wrap64 (rd wt v + m) := ⟨_, rfl⟩; have e2 := Z_ (show want2 want tg v m = wt.set v.toNat o3 from by rw [ho3, HWT.out]; exact if_neg ct); clear ct; have p0 := HCW.out.1; have p1 := HCW.out.2; obtain ⟨gF, cF', eF, _, _, _⟩ := Kd.R_form HS.out.rw (by have := HLW.out; omega); injection eF with ea eb ec; subst ea; clear eb ec; have hz3 : wc.cell? ⟨g, 3, none⟩ = some (.slice (some ⟨gF, 0, none⟩) want.length cW) := (bC_ HS.out.bu 3).trans rfl; have hxf : wc.cell? ⟨gF, v.toNat, none⟩ = some (.int .i64 (rd wt v)) := (Kd.R_celln 0 HS.out.rw _ p0 p1).1; have hff := (Kd.R_celln 0 HS.out.rw _ p0 p1).2; have hwv : IntKind.i64.wrap (rd wt v + mm) = o3 := by rw [ho3, e0.out]; exact i64_w _
         have N2 := Z_ (HS.out.putW v o3 DFW.out DWU.out DWA.out); clear ho3; go_wp2; go_meet
         case rel => exact ⟨rfl, by rw [e2.out]; exact N2⟩
        case rest =>
         obtain ⟨rfl, HS⟩ := hcut; go_wp2; go_ret; have e4 := e1.out; subst e4; exact ⟨rfl, HS.out.bu, HS.out.rf, HS.out.rw, HS.out.hb⟩
end Go.Proofs.Ytpolojoeabmhdaa.A
/- fill: all nodes get what they want, step by step. -/
namespace Go.Proofs.Ytpolojoeabmhdaa.A
open Go.RowKit Go.Proofs.YtpolojoeabmhdaaW.PrintWords Go.Proofs.YtpolojoeabmhdaaW.PrintLast Go.Proofs.YtpolojoeabmhdaaW.PrintMore
def fillA (k : Nat) (n0 : Int) (diffs : List S39) : Nat → Int → List Int → List Int → Option (Bool × List Int × List Int)
 | 0, _, _, _ => none
 | q + 1, i, fl, wn => if i < n0 then (if 0 ≤ i ∧ i < wn.length then (if rd wn i > 0 then ((stepL k n0 diffs fl wn i (0 :: giversL wn 0)).bind fun r => if r.1 = false then some (false, r.2.1, r.2.2) else fillA k n0 diffs q i r.2.1 r.2.2) else fillA k n0 diffs q (i + 1) fl wn) else none) else some (true, fl, wn)
def fillB (k : Nat) (n0 : Int) (diffs : List S39) : Nat → Int → List Int → List Int → Option (Bool × List Int × List Int)
 | 0, _, _, _ => none
 | q + 1, i, fl, wn => if i < n0 then (if 0 ≤ i ∧ i < wn.length then (if rd wn i < 0 then ((stepL k n0 diffs fl wn 0 [i]).bind fun r => if r.1 = false then some (false, r.2.1, r.2.2) else fillB k n0 diffs q i r.2.1 r.2.2) else fillB k n0 diffs q (i + 1) fl wn) else none) else some (true, fl, wn)
def fillL (k : Nat) (n0 : Int) (diffs : List S39) (fl wn : List Int) : Option (Bool × List Int × List Int) :=
 (fillA k n0 diffs k 1 fl wn).bind fun r => if r.1 = false then some r else fillB k n0 diffs k 1 r.2.1 r.2.2
/-- What fill holds in the memory. -/
structure Us (g : Nat) (n0 : Int) (AD : Option Addr) (nD cD : Nat) (AF : Option Addr) (nF cF : Nat) (AW : Option Addr) (nW cW : Nat) (w0 : World) (fl wn : List Int) (W : World) : Prop where
 bu : W.heap[g]? = some (.cells #[.int .i64 n0, .slice AD nD cD, .slice AF nF cF, .slice AW nW cW] 96 (0, 0))
 rf : Kd.R (Kd.int .i64) 3 W w0.heap.size (fun _ => True) (.slice AF nF cF) fl
 rw : Kd.R (Kd.int .i64) 3 W w0.heap.size (fun _ => True) (.slice AW nW cW) wn
 hb : Below w0.heap.size w0 W
section
variable {g : Nat} {n0 : Int} {AD : Option Addr} {nD cD : Nat} {AF : Option Addr} {nF cF : Nat} {AW : Option Addr} {nW cW : Nat} {w0 : World} {fl wn : List Int} {W W1 : World}
theorem Us.below (h : Us g n0 AD nD cD AF nF cF AW nW cW w0 fl wn W) (hb : Below W.heap.size W W1) : Us g n0 AD nD cD AF nF cF AW nW cW w0 fl wn W1 :=
 ⟨bB_ h.bu hb, rB_ h.rf hb, rB_ h.rw hb, below_then h.hb h.hb.size hb⟩
theorem Us.grown (h : Us g n0 AD nD cD AF nF cF AW nW cW w0 fl wn W) (hg : W.grownBy W1 none) : Us g n0 AD nD cD AF nF cF AW nW cW w0 fl wn W1 :=
 ⟨blk_grown h.bu hg (by simp), Kd.R_grown h.rf hg (fun _ _ => by simp), Kd.R_grown h.rw hg (fun _ _ => by simp), h.hb.grown hg h.hb.size (fun k hk => by cases hk)⟩
theorem Us.givers (h : Us g n0 AD nD cD AF nF cF AW nW cW w0 fl wn W) (hn : nW ≤ 65536) : Calls Try.prog 127 #[.pointer (some ⟨g, 0, none⟩)] W fun e w' => ∃ v0_ : Value, e = .returned v0_ ∧ Kd.R (Kd.int .i64) 3 w' W.heap.size (fun _ => True) v0_ (0 :: giversL wn 0) ∧ Below W.heap.size W w' := by
 obtain ⟨rfl, h2, h3⟩ := rR_ h.rw; exact use_givers.calls g (.int .i64 n0) _ _ AW cW wn W h.bu h3 hn
end
theorem Us.step {g : Nat} {n0 : Int} {AD : Option Addr} {diffs : List S39} {cD : Nat} {AF : Option Addr} {nF cF : Nat} {AW : Option Addr} {nW cW : Nat} {w0 : World} {fl wn : List Int} {W : World} (h : Us g n0 AD diffs.length cD AF nF cF AW nW cW w0 fl wn W) {k : Nat} {tg : Int} {AG : Option Addr} {cG : Nat} {givers : List Int} {r1 : Bool} {r2 r3 : List Int}
  (hg : w0.heap.size ≤ g) (hD : Kd.C k39 w0 AD diffs.length diffs) (hcD : diffs.length ≤ cD) (hne : Dj (.slice AF nF cF) (.slice AW nW cW)) (hG : Kd.R (Kd.int .i64) 3 W w0.heap.size (fun _ => True) (.slice AG givers.length cG) givers) (hfd : nF = diffs.length) (hl : diffs.length ≤ 65536) (hm : ∀ d ∈ diffs, -4611686018427387904 ≤ d.f2 ∧ d.f2 ≤ 4611686018427387904)
  (hs : stepL k n0 diffs fl wn tg givers = some (r1, r2, r3)) : Calls Try.prog 126 #[.pointer (some ⟨g, 0, none⟩), .int .i64 tg, .slice AG givers.length cG] W fun e w' => e = .returned (.bool r1) ∧ Us g n0 AD diffs.length cD AF nF cF AW nW cW w0 r2 r3 w' := by
 have hr := rR_ hG; refine (use_step.calls k g n0 AD cD diffs _ _ fl wn tg AG cG givers r1 r2 r3 w0 W h.hb hg h.bu hD hcD h.rf h.rw hne hr.2.2 hr.2.1 ((rR_ h.rf).1.symm.trans hfd) hl hm hs).mono ?_; rintro e w' ⟨rfl, a, b, c, d⟩; exact ⟨rfl, a, b, c, d⟩
set_option maxHeartbeats 4000000 in
set_option maxRecDepth 100000 in
theorem use_fill.calls (k : Nat) (g : Nat) (n0 : Int) (AD : Option Addr) (cD : Nat) (diffs : List S39) (AF : Option Addr) (nF cF : Nat) (AW : Option Addr) (nW cW : Nat) (flow want : List Int) (r1 : Bool) (r2 r3 : List Int) (w0 w : World)
  (hU : Us g n0 AD diffs.length cD AF nF cF AW nW cW w0 flow want w) (hg : w0.heap.size ≤ g)
  (hD : Kd.C k39 w0 AD diffs.length diffs) (hcD : diffs.length ≤ cD) (hne : Dj (.slice AF nF cF) (.slice AW nW cW))
  (hfd : nF = diffs.length) (hl : diffs.length ≤ 65536) (hwl : nW ≤ 65536) (hn0 : n0 ≤ 4611686018427387904) (hm : ∀ d ∈ diffs, -4611686018427387904 ≤ d.f2 ∧ d.f2 ≤ 4611686018427387904)
  (h : fillL k n0 diffs flow want = some (r1, r2, r3)) :
  Calls Try.prog 110 #[.pointer (some ⟨g, 0, none⟩)] w fun e w' => e = .returned (.bool r1) ∧ Us g n0 AD diffs.length cD AF nF cF AW nW cW w0 r2 r3 w' := by
 unfold fillL at h; obtain ⟨⟨b, fm, wm⟩, hA, h⟩ := oS_.mp h; have HA := Z_ hA; have HH := Z_ h; have HS := Z_ hU; have HGE := Z_ hg; have HD := Z_ hD; have HCD := Z_ hcD; have HNE := Z_ hne; have HFD := Z_ hfd; have HL := Z_ hl; have HM := Z_ hm; have HWL := Z_ hwl; clear hA h hU hg hD hcD hne hfd hl hm hwl; go_enter Try.func110, Try.ntmps110; go_wp2; go_loopg [3] k (fun kq v3 w' => ∃ (i : Int) (fl wn : List Int), v3 = .int .i64 i ∧ Aside0 (1 ≤ i ∧ kq ≤ k ∧ fillA k n0 diffs kq i fl wn = some (b, fm, wm)) ∧ Aside0 (Us g n0 AD diffs.length cD AF nF cF AW nW cW w0 fl wn w'))
 case atStart => exact ⟨1, flow, want, rfl, ⟨by omega, by omega, HA.out⟩, HS⟩
 case round =>
  clear HS HA; obtain ⟨i, fl, wn, rfl, HA, HS⟩ := hrel
  cases gk with
  | zero => exact absurd HA.out.2.2 (by simp [fillA])
  | succ q =>
   have hA := HA.out.2.2; have hi1 := HA.out.1; have hqk := HA.out.2.1; have hz0 : wr.cell? ⟨g, 0, none⟩ = some (.int .i64 n0) := (bC_ HS.out.bu 0).trans rfl; unfold fillA at hA; by_cases c1 : i < n0
   ·have hA0 := Z_ HA.out.2.2
    clear hA HA; have c1b : decide (i < n0) = true := eT_ c1; go_wp2; go_loopg [] (q + 1) (fun kq w' => ∃ (fl wn : List Int), Aside0 (kq ≤ q + 1 ∧ fillA k n0 diffs kq i fl wn = some (b, fm, wm)) ∧ Aside0 (Us g n0 AD diffs.length cD AF nF cF AW nW cW w0 fl wn w'))
    case atStart => exact ⟨fl, wn, ⟨nR_ _, hA0.out⟩, HS⟩
    case round =>
     clear HS hA0 hz0; obtain ⟨fl, wn, HA, HS⟩ := hrel
     cases gk with
     | zero => exact absurd HA.out.2 (by simp [fillA])
     | succ q2 =>
      have hA := HA.out.2; have hq2 := HA.out.1; clear HA; unfold fillA at hA; rw [if_pos c1] at hA; by_cases c2 : 0 ≤ i ∧ i < (wn.length : Int)
      case neg => rw [if_neg c2] at hA; exact absurd hA (by simp)
      rw [if_pos c2] at hA; have hnw := (rR_ HS.out.rw).1; obtain ⟨adw, ew, hxw⟩ := Kd.at_int (rR_ HS.out.rw).2.2 i c2.1 c2.2; cases ew
      have p0 := c2.1; have p1 : i < (nW : Int) := by rw [hnw]; exact c2.2
      have hz3 : wr.cell? ⟨g, 3, none⟩ = some (.slice (some adw) nW cW) := (bC_ HS.out.bu 3).trans rfl; clear hnw c2; by_cases c3 : rd wn i > 0
      ·rw [if_pos c3] at hA
       have c3b : decide (rd wn i > 0) = true := eT_ c3; obtain ⟨⟨b1, f1, n1⟩, hS, hA⟩ := oS_.mp hA; have HST := Z_ hS; have HA := Z_ hA; clear hS hA
       cases b1 with
       | false =>
        have hA := HA.out; clear HA; simp only [if_pos, oJ_, pI_] at hA; obtain ⟨rfl, rfl, rfl⟩ := hA; have hh := HH.out; clear HH; simp only [if_pos, oJ_, pI_] at hh; obtain ⟨rfl, rfl, rfl⟩ := hh
        go_wp2_with (first
         | ((with_reducible refine gate_callee (f := 127) rfl ?_); refine goesL_ (some 25) rfl rfl Try.func127 (by kernel_rfl) rfl #[.pointer (some ⟨g, 0, none⟩)] rfl (by (try simp only [mT_, mC_, mN_]); first | done | rfl) ?_; refine (HS.out.givers HWL.out).mono ?_; rintro e w1 ⟨vG, rfl, ho, hb⟩; refine ⟨_, rfl, ?_⟩; have n0_ := Z_ (HS.out.below hb); have HG := Z_ (rL_ ho HS.out.hb.size); clear HS ho hb; have HS := n0_; clear n0_; (obtain ⟨AG, cG, rfl⟩ := own_slice (Kd.own_of_R HG.out)))
         | ((with_reducible refine gate_callee (f := 126) rfl ?_); refine goesL_ (some 26) rfl rfl Try.func126 (by kernel_rfl) rfl #[.pointer (some ⟨g, 0, none⟩), .int .i64 i, .slice AG (0 :: giversL wn 0).length cG] rfl (by (try simp only [mT_, mC_, mN_]); first | done | rfl) ?_; refine (HS.out.step HGE.out HD.out HCD.out HNE.out HG.out HFD.out HL.out HM.out HST.out).mono ?_; rintro e w2 ⟨rfl, hu⟩; refine ⟨_, rfl, ?_⟩; have n0_ := Z_ hu; clear HS HG hu; have HS := n0_; clear n0_))
        go_ret; exact ⟨rfl, HS.out⟩
       | true =>
        go_wp2_with (first
         | ((with_reducible refine gate_callee (f := 127) rfl ?_); refine goesL_ (some 25) rfl rfl Try.func127 (by kernel_rfl) rfl #[.pointer (some ⟨g, 0, none⟩)] rfl (by (try simp only [mT_, mC_, mN_]); first | done | rfl) ?_; refine (HS.out.givers HWL.out).mono ?_; rintro e w1 ⟨vG, rfl, ho, hb⟩; refine ⟨_, rfl, ?_⟩; have n0_ := Z_ (HS.out.below hb); have HG := Z_ (rL_ ho HS.out.hb.size); clear HS ho hb; have HS := n0_; clear n0_; (obtain ⟨AG, cG, rfl⟩ := own_slice (Kd.own_of_R HG.out)))
         | ((with_reducible refine gate_callee (f := 126) rfl ?_); refine goesL_ (some 26) rfl rfl Try.func126 (by kernel_rfl) rfl #[.pointer (some ⟨g, 0, none⟩), .int .i64 i, .slice AG (0 :: giversL wn 0).length cG] rfl (by (try simp only [mT_, mC_, mN_]); first | done | rfl) ?_; refine (HS.out.step HGE.out HD.out HCD.out HNE.out HG.out HFD.out HL.out HM.out HST.out).mono ?_; rintro e w2 ⟨rfl, hu⟩; refine ⟨_, rfl, ?_⟩; have n0_ := Z_ hu; clear HS HG hu; have HS := n0_; clear n0_))
        go_roundg q2
        case measure => omega
        case rel => exact ⟨f1, n1, ⟨by omega, HA.out⟩, HS⟩
      rw [if_neg c3] at hA; have c3b : decide (rd wn i > 0) = false := eF_ c3; have HA := Z_ hA; have hw64 : i + 1 ≤ 9223372036854775807 := by omega
      clear hA; go_wp2; go_roundg q2
      case measure => omega
      case rel => exact ⟨i + 1, fl, wn, rfl, ⟨by omega, by omega, HA.out⟩, HS⟩
   rw [if_neg c1] at hA; have c1b : decide (i < n0) = false := eF_ c1; simp only [oJ_, pI_] at hA; obtain ⟨rfl, rfl, rfl⟩ := hA; have hh := HH.out; rw [if_neg (by simp)] at hh; have HB := Z_ hh; clear hh HH HA hqk hi1; go_wp2; go_loopg [4] k (fun kq v4 w' => ∃ (i : Int) (fl wn : List Int), v4 = .int .i64 i ∧ Aside0 (1 ≤ i ∧ kq ≤ k ∧ fillB k n0 diffs kq i fl wn = some (r1, r2, r3)) ∧ Aside0 (Us g n0 AD diffs.length cD AF nF cF AW nW cW w0 fl wn w'))
   case atStart => exact ⟨1, fl, wn, rfl, ⟨by omega, by omega, HB.out⟩, HS⟩
   case round =>
    clear HS HB; obtain ⟨i, fl, wn, rfl, HA, HS⟩ := hrel
    cases gk with
    | zero => exact absurd HA.out.2.2 (by simp [fillB])
    | succ q =>
     have hA := HA.out.2.2; have hi1 := HA.out.1; have hqk := HA.out.2.1; have hz0 : wr.cell? ⟨g, 0, none⟩ = some (.int .i64 n0) := (bC_ HS.out.bu 0).trans rfl; unfold fillB at hA; by_cases c1 : i < n0
     ·have hA0 := Z_ HA.out.2.2
      clear hA HA; have c1b : decide (i < n0) = true := eT_ c1; go_wp2; go_loopg [] (q + 1) (fun kq w' => ∃ (fl wn : List Int), Aside0 (kq ≤ q + 1 ∧ fillB k n0 diffs kq i fl wn = some (r1, r2, r3)) ∧ Aside0 (Us g n0 AD diffs.length cD AF nF cF AW nW cW w0 fl wn w'))
      case atStart => exact ⟨fl, wn, ⟨nR_ _, hA0.out⟩, HS⟩
      case round =>
       clear HS hA0 hz0; obtain ⟨fl, wn, HA, HS⟩ := hrel
       cases gk with
       | zero => exact absurd HA.out.2 (by simp [fillB])
       | succ q2 =>
        have hA := HA.out.2; have hq2 := HA.out.1; clear HA; unfold fillB at hA; rw [if_pos c1] at hA; by_cases c2 : 0 ≤ i ∧ i < (wn.length : Int)
        case neg => rw [if_neg c2] at hA; exact absurd hA (by simp)
        rw [if_pos c2] at hA; have hnw := (rR_ HS.out.rw).1; obtain ⟨adw, ew, hxw⟩ := Kd.at_int (rR_ HS.out.rw).2.2 i c2.1 c2.2; cases ew
        have p0 := c2.1; have p1 : i < (nW : Int) := by rw [hnw]; exact c2.2
        have hz3 : wr.cell? ⟨g, 3, none⟩ = some (.slice (some adw) nW cW) := (bC_ HS.out.bu 3).trans rfl; clear hnw c2; by_cases c3 : rd wn i < 0
        ·rw [if_pos c3] at hA
         have c3b : decide (rd wn i < 0) = true := eT_ c3; obtain ⟨⟨b1, f1, n1⟩, hS, hA⟩ := oS_.mp hA; have HST := Z_ hS; have HA := Z_ hA; clear hS hA
         cases b1 with
         | false =>
          have hA := HA.out; clear HA; simp only [if_pos, oJ_, pI_] at hA; obtain ⟨rfl, rfl, rfl⟩ := hA
          go_wp2_with (first
           | ((with_reducible refine gate_dst (N := 47) rfl ?_); refine Kd.R_lit (w0 := w0) (Kd.int .i64) w0.heap.size 3 ?hg (N := 47) ?hd (xs := ([i] : List Int)) (inner := [.int .i64 i]) (ok := fun _ => True) (okp := fun _ => True) ?hr ?hp (fun _ hk => hk) trivial HS.out.hb HS.out.hb.size (by simp) ?_; (case hd => rfl); (case hg => rfl); (case hr => first | (go_simp; done) | (go_simp; rfl)); (case hp => exact (Reps.one (show Kd.M (Kd.int .i64) _ _ _ i [.int .i64 i] from rfl) (Reps.none _ _))); intro vG w1 ho hb hg_ hnew_; have n0_ := Z_ (HS.out.grown hg_); have HG := Z_ ho; clear HS ho hb hg_ hnew_; have HS := n0_; clear n0_; (obtain ⟨AG, cG, rfl⟩ := own_slice (Kd.own_of_R HG.out)))
           | ((with_reducible refine gate_callee (f := 126) rfl ?_); refine goesL_ (some 48) rfl rfl Try.func126 (by kernel_rfl) rfl #[.pointer (some ⟨g, 0, none⟩), .int .i64 0, .slice AG ([i]).length cG] rfl (by (try simp only [mT_, mC_, mN_]); first | done | rfl) ?_; refine (HS.out.step HGE.out HD.out HCD.out HNE.out HG.out HFD.out HL.out HM.out HST.out).mono ?_; rintro e w2 ⟨rfl, hu⟩; refine ⟨_, rfl, ?_⟩; have n0_ := Z_ hu; clear HS HG hu; have HS := n0_; clear n0_))
          go_ret; exact ⟨rfl, HS.out⟩
         | true =>
          go_wp2_with (first
           | ((with_reducible refine gate_dst (N := 47) rfl ?_); refine Kd.R_lit (w0 := w0) (Kd.int .i64) w0.heap.size 3 ?hg (N := 47) ?hd (xs := ([i] : List Int)) (inner := [.int .i64 i]) (ok := fun _ => True) (okp := fun _ => True) ?hr ?hp (fun _ hk => hk) trivial HS.out.hb HS.out.hb.size (by simp) ?_; (case hd => rfl); (case hg => rfl); (case hr => first | (go_simp; done) | (go_simp; rfl)); (case hp => exact (Reps.one (show Kd.M (Kd.int .i64) _ _ _ i [.int .i64 i] from rfl) (Reps.none _ _))); intro vG w1 ho hb hg_ hnew_; have n0_ := Z_ (HS.out.grown hg_); have HG := Z_ ho; clear HS ho hb hg_ hnew_; have HS := n0_; clear n0_; (obtain ⟨AG, cG, rfl⟩ := own_slice (Kd.own_of_R HG.out)))
           | ((with_reducible refine gate_callee (f := 126) rfl ?_); refine goesL_ (some 48) rfl rfl Try.func126 (by kernel_rfl) rfl #[.pointer (some ⟨g, 0, none⟩), .int .i64 0, .slice AG ([i]).length cG] rfl (by (try simp only [mT_, mC_, mN_]); first | done | rfl) ?_; refine (HS.out.step HGE.out HD.out HCD.out HNE.out HG.out HFD.out HL.out HM.out HST.out).mono ?_; rintro e w2 ⟨rfl, hu⟩; refine ⟨_, rfl, ?_⟩; have n0_ := Z_ hu; clear HS HG hu; have HS := n0_; clear n0_))
          go_roundg q2
          case measure => omega
          case rel => exact ⟨f1, n1, ⟨by omega, HA.out⟩, HS⟩
        rw [if_neg c3] at hA; have c3b : decide (rd wn i < 0) = false := eF_ c3; have HA := Z_ hA; have hw64 : i + 1 ≤ 9223372036854775807 := by omega
        clear hA; go_wp2; go_roundg q2
        case measure => omega
        case rel => exact ⟨i + 1, fl, wn, rfl, ⟨by omega, by omega, HA.out⟩, HS⟩
     rw [if_neg c1] at hA; have c1b : decide (i < n0) = false := eF_ c1; simp only [oJ_, pI_] at hA; obtain ⟨rfl, rfl, rfl⟩ := hA; go_wp2; go_ret; exact ⟨rfl, HS.out⟩
end Go.Proofs.Ytpolojoeabmhdaa.A
/- slices.ContainsFunc over whole numbers, and the function literals that are handed to it. -/
namespace Go.Proofs.Ytpolojoeabmhdaa.A
open Go.RowKit Go.Proofs.YtpolojoeabmhdaaW.PrintWords Go.Proofs.YtpolojoeabmhdaaW.PrintLast Go.Proofs.YtpolojoeabmhdaaW.PrintMore
section
variable {P : Program} {ops : Array Oper} {Q : Exit → Act → World → Prop}
/-- A call of a function value, in a plain region. -/
theorem goesFL_ {rest : List Oper} {oi : Oper} {a : Act} {w : World} (N : Option Tmp) (hd : oi.dst = N) (hg : oi.guard = none) {x : Operand} {aa : Array Operand} {ts : Array TypeId}
  (hop : oi.op = .call { callee := .value x, args := aa, argTypes := ts }) {f : FuncId} {caps : Array Value} (hx : a.eval x = .func (.func f) #[] caps) {args : Array Value} (hargs : aa.map a.eval = args)
  {fn : Func} (hf : P.funcs[f]? = some fn) (hname : (fn.name == "runtime.NumGoroutine") = false) (hb : fn.body.isSome = true)
  (h : Calls P f (args ++ caps) w fun e w' => ∃ v, e = .returned v ∧ wpList P ops Q rest (a.put N v) w') : wpList P ops Q (oi :: rest) a w := by
 refine wpList_plain hg fun K hK => ?_
 have he := enters_ hf hname hb (args ++ caps) w
 have hrun : (execOp a.eval oi).run P w = .ok (.enter f (args ++ caps)) w := by
  unfold execOp; simp [hop, resolve, Deferred.ofValue, invoke, hx, hargs, he]
 unfold Oper.wp; rw [hrun, Oper.upon_enter]; refine h.mono fun e w'' hh => ?_
 obtain ⟨v, rfl, hk⟩ := hh; subst hd; exact hK _ _ hk
end
def ixf (p : Int → Bool) : List Int → Int → Int
 | [], _ => -1
 | x :: xs, i => if p x = true then i else ixf p xs (i + 1)
theorem ixf_any (p : Int → Bool) : ∀ (l : List Int) (i : Int), 0 ≤ i → (decide (0 ≤ ixf p l i)) = l.any p
 | [], i, _ => by simp [ixf]
 | x :: xs, i, h => by
  unfold ixf; by_cases hp : p x = true; ·rw [if_pos hp]; simp [hp, h]
  rw [if_neg hp, ixf_any p xs (i + 1) (by omega)]; simp [hp]
set_option maxHeartbeats 1000000 in
set_option maxRecDepth 100000 in
theorem index_any (p : Int → Bool) (fl : FuncId) (caps : Array Value) (gf : Func) (A0 : Option Addr) (c0 : Nat) (l0 : List Int) (w : World) (hr0 : Kd.C (Kd.int .i64) w A0 l0.length l0) (hc0 : l0.length ≤ c0)
  (hf : Aside0 (Try.prog.funcs[fl]? = some gf ∧ (gf.name == "runtime.NumGoroutine") = false ∧ gf.body.isSome = true))
  (hp : Aside0 (∀ (x : Int) (W : World), Below w.heap.size w W → Calls Try.prog fl (#[.int .i64 x] ++ caps) W fun e W' => e = .returned (.bool (p x)) ∧ Below W.heap.size W W')) :
  Calls Try.prog 106 #[.slice A0 l0.length c0, .func (.func fl) #[] caps] w fun e w' => e = .returned (.int .i64 (ixf p l0 0)) ∧ Below w.heap.size w w' := by
 have HM := Z_ hr0.2.1; have HR0 := Z_ hr0; have HB := Z_ (Below.refl w.heap.size w); clear hr0 hc0; go_enter Try.func106, Try.ntmps106; go_wp2; go_loopg [8] l0.length (fun kq v8 w' => ∃ i : Int, v8 = .int .i64 i ∧ Aside0 (0 ≤ i ∧ (kq : Int) + i = l0.length ∧ ixf p (l0.drop i.toNat) i = ixf p l0 0) ∧ Aside0 (Below w.heap.size w w'))
 case atStart => exact ⟨0, rfl, ⟨by omega, by omega, by simp⟩, HB⟩
 case round =>
  obtain ⟨i, rfl, HI, HB⟩ := hrel; have hM := HM.out; by_cases hlt : i < (l0.length : Int)
  ·have h0 := HI.out.1
   have hk := HI.out.2.1; obtain ⟨ad, e1, hx⟩ := Kd.at_int HR0.out i h0 hlt; cases e1
   have hx1 := (HB.out.cell (World.block_lt_of_cell? w _ hx)).trans hx; clear hx
   have hstep : ixf p (l0.drop i.toNat) i = if p (rd l0 i) = true then i else ixf p (l0.drop (i + 1).toNat) (i + 1) := by
    have e2 : l0.drop i.toNat = rd l0 i :: l0.drop (i + 1).toNat := by
     rw [show (i + 1).toNat = i.toNat + 1 from by omega]; rw [List.drop_eq_getElem_cons (by omega)]; congr 1; unfold rd; rw [List.getD_eq_getElem?_getD, List.getElem?_eq_getElem (by omega)]; rfl
    rw [e2]; rfl
   have HS := Z_ hstep; clear hstep; have hw64 : i + 1 ≤ 9223372036854775807 := by omega
   by_cases hb : p (rd l0 i) = true
   ·have HP := Z_ hb
    clear hb; go_wp2_with (refine goesFL_ (some 16) rfl rfl rfl (x := .tmp 11) rfl (args := #[.int .i64 (rd l0 i)]) (by (try simp only [mT_, mC_, mN_]); first | done | rfl) hf.out.1 hf.out.2.1 hf.out.2.2 ?_; refine (hp.out (rd l0 i) _ HB.out).mono ?_; rintro e w1 ⟨rfl, hb1⟩; refine ⟨_, rfl, ?_⟩; rw [HP.out]); go_ret; exact ⟨by rw [← HI.out.2.2, HS.out, if_pos HP.out]; rfl, fS_ HB.out hb1⟩
   have hb' : p (rd l0 i) = false := by simpa using hb
   have HP := Z_ hb'; clear hb hb'; go_wp2_with (refine goesFL_ (some 16) rfl rfl rfl (x := .tmp 11) rfl (args := #[.int .i64 (rd l0 i)]) (by (try simp only [mT_, mC_, mN_]); first | done | rfl) hf.out.1 hf.out.2.1 hf.out.2.2 ?_; refine (hp.out (rd l0 i) _ HB.out).mono ?_; rintro e w1 ⟨rfl, hb1⟩; refine ⟨_, rfl, ?_⟩; rw [HP.out]); go_roundg (gk - 1)
   case measure => omega
   case rel => exact ⟨i + 1, rfl, ⟨by omega, by omega, by rw [← HI.out.2.2, HS.out, if_neg (by rw [HP.out]; decide)]⟩, ⟨fS_ HB.out hb1⟩⟩
  have h0 := HI.out.1; have hk := HI.out.2.1; go_wp2; go_ret; exact ⟨by rw [← HI.out.2.2, List.drop_eq_nil_of_le (by omega)]; rfl, HB.out⟩
set_option maxHeartbeats 1000000 in
/-- slices.ContainsFunc: whether some element is met by the function. -/
theorem contains_any (p : Int → Bool) (fl : FuncId) (caps : Array Value) (gf : Func) (A0 : Option Addr) (c0 : Nat) (l0 : List Int) (w : World) (hr0 : Kd.C (Kd.int .i64) w A0 l0.length l0) (hc0 : l0.length ≤ c0)
  (hf : Aside0 (Try.prog.funcs[fl]? = some gf ∧ (gf.name == "runtime.NumGoroutine") = false ∧ gf.body.isSome = true))
  (hp : Aside0 (∀ (x : Int) (W : World), Below w.heap.size w W → Calls Try.prog fl (#[.int .i64 x] ++ caps) W fun e W' => e = .returned (.bool (p x)) ∧ Below W.heap.size W W')) :
  Calls Try.prog 57 #[.slice A0 l0.length c0, .func (.func fl) #[] caps] w fun e w' => e = .returned (.bool (l0.any p)) ∧ Below w.heap.size w w' := by
 have HR0 := Z_ hr0; have HC0 := Z_ hc0; clear hr0 hc0; go_enter Try.func57, Try.ntmps57; go_wp2_with ((with_reducible refine gate_callee (f := 106) rfl ?_); refine goesL_ (some 7) rfl rfl Try.func106 (by kernel_rfl) rfl #[.slice A0 l0.length c0, .func (.func fl) #[] caps] rfl (by (try simp only [mT_, mC_, mN_]); first | done | rfl) ?_; (refine (index_any p fl caps gf _ _ l0 _ HR0.out HC0.out hf hp).mono ?_); rintro e w1 ⟨rfl, hb⟩; refine ⟨_, rfl, ?_⟩); go_ret; exact ⟨by rw [← ixf_any p l0 0 (by omega)]; rfl, hb⟩
def in_ (a lo hi : Int) : Bool := decide (lo ≤ a) && decide (a ≤ hi)
theorem in_f (a lo hi : Int) : diffs_in.f a lo hi = some (in_ a lo hi) := by
 unfold diffs_in.f in_; by_cases h : a ≥ lo; ·rw [if_pos h]; simp [h]
 rw [if_neg h]; simp [show ¬ lo ≤ a from h]
set_option maxHeartbeats 1000000 in
theorem lit118 (x : Int) (W : World) : Calls Try.prog 118 (#[.int .i64 x] ++ #[]) W fun e W' => e = .returned (.bool (!in_ x (-4096) 4096)) ∧ Below W.heap.size W W' := by
 have hin := Z_ (in_f x (-4096) 4096); show Calls Try.prog 118 #[.int .i64 x] W _
 go_enter Try.func118, Try.ntmps118; go_wp2_with ((with_reducible refine gate_callee (f := 75) rfl ?_); refine goesL_ (some 4) rfl rfl Try.func75 (by kernel_rfl) rfl #[.int .i64 x, .int .i64 (-4096), .int .i64 4096] rfl (by (try simp only [mT_, mC_, mN_]); first | done | rfl) ?_; (with_reducible refine (diffs_in.calls x (-4096) 4096 _ _ hin.out).mono ?_); rintro e w1 ⟨rfl, hd⟩; have hb := hd.below; clear hd; refine ⟨_, rfl, ?_⟩); go_ret; exact ⟨rfl, hb⟩
def cf118.f (l : List Int) : Option Bool := some (l.any fun x => !in_ x (-4096) 4096)
theorem cf118.calls (A0 : Option Addr) (c0 : Nat) (l0 : List Int) (r : Bool) (w : World) (hr0 : Kd.C (Kd.int .i64) w A0 l0.length l0) (hc0 : l0.length ≤ c0) (h : cf118.f l0 = some r) :
  Calls Try.prog 57 #[.slice A0 l0.length c0, .func (.func 118) #[] #[]] w fun e w' => e = .returned (.bool r) ∧ Below w.heap.size w w' := by
 obtain rfl := oI_ h; exact contains_any _ 118 #[] Try.f118 A0 c0 l0 w hr0 hc0 ⟨Try.func118, by kernel_rfl, rfl⟩ ⟨fun x W _ => lit118 x W⟩
set_option maxHeartbeats 1000000 in
theorem lit122 (x : Int) (W : World) : Calls Try.prog 122 (#[.int .i64 x] ++ #[]) W fun e W' => e = .returned (.bool (!in_ x (-1099511627776) 1099511627776)) ∧ Below W.heap.size W W' := by
 have hin := Z_ (in_f x (-1099511627776) 1099511627776); show Calls Try.prog 122 #[.int .i64 x] W _
 go_enter Try.func122, Try.ntmps122; go_wp2_with ((with_reducible refine gate_callee (f := 75) rfl ?_); refine goesL_ (some 4) rfl rfl Try.func75 (by kernel_rfl) rfl #[.int .i64 x, .int .i64 (-1099511627776), .int .i64 1099511627776] rfl (by (try simp only [mT_, mC_, mN_]); first | done | rfl) ?_; (with_reducible refine (diffs_in.calls x (-1099511627776) 1099511627776 _ _ hin.out).mono ?_); rintro e w1 ⟨rfl, hd⟩; have hb := hd.below; clear hd; refine ⟨_, rfl, ?_⟩); go_ret; exact ⟨rfl, hb⟩
def cf122.f (l : List Int) : Option Bool := some (l.any fun x => !in_ x (-1099511627776) 1099511627776)
theorem cf122.calls (A0 : Option Addr) (c0 : Nat) (l0 : List Int) (r : Bool) (w : World) (hr0 : Kd.C (Kd.int .i64) w A0 l0.length l0) (hc0 : l0.length ≤ c0) (h : cf122.f l0 = some r) :
  Calls Try.prog 57 #[.slice A0 l0.length c0, .func (.func 122) #[] #[]] w fun e w' => e = .returned (.bool r) ∧ Below w.heap.size w w' := by
 obtain rfl := oI_ h; exact contains_any _ 122 #[] Try.f122 A0 c0 l0 w hr0 hc0 ⟨Try.func122, by kernel_rfl, rfl⟩ ⟨fun x W _ => lit122 x W⟩
set_option maxHeartbeats 1000000 in
theorem lit97 (x : Int) (W : World) : Calls Try.prog 97 (#[.int .i64 x] ++ #[]) W fun e W' => e = .returned (.bool (!in_ x 0 1048576)) ∧ Below W.heap.size W W' := by
 have hin := Z_ (in_f x 0 1048576); show Calls Try.prog 97 #[.int .i64 x] W _
 go_enter Try.func97, Try.ntmps97; go_wp2_with ((with_reducible refine gate_callee (f := 75) rfl ?_); refine goesL_ (some 4) rfl rfl Try.func75 (by kernel_rfl) rfl #[.int .i64 x, .int .i64 0, .int .i64 1048576] rfl (by (try simp only [mT_, mC_, mN_]); first | done | rfl) ?_; (with_reducible refine (diffs_in.calls x 0 1048576 _ _ hin.out).mono ?_); rintro e w1 ⟨rfl, hd⟩; have hb := hd.below; clear hd; refine ⟨_, rfl, ?_⟩); go_ret; exact ⟨rfl, hb⟩
def cf97.f (l : List Int) : Option Bool := some (l.any fun x => !in_ x 0 1048576)
theorem cf97.calls (A0 : Option Addr) (c0 : Nat) (l0 : List Int) (r : Bool) (w : World) (hr0 : Kd.C (Kd.int .i64) w A0 l0.length l0) (hc0 : l0.length ≤ c0) (h : cf97.f l0 = some r) :
  Calls Try.prog 57 #[.slice A0 l0.length c0, .func (.func 97) #[] #[]] w fun e w' => e = .returned (.bool r) ∧ Below w.heap.size w w' := by
 obtain rfl := oI_ h; exact contains_any _ 97 #[] Try.f97 A0 c0 l0 w hr0 hc0 ⟨Try.func97, by kernel_rfl, rfl⟩ ⟨fun x W _ => lit97 x W⟩
set_option maxHeartbeats 1000000 in
theorem lit100 (x : Int) (W : World) : Calls Try.prog 100 (#[.int .i64 x] ++ #[]) W fun e W' => e = .returned (.bool (x != 0)) ∧ Below W.heap.size W W' := by
 show Calls Try.prog 100 #[.int .i64 x] W _
 go_enter Try.func100, Try.ntmps100; go_wp2; go_ret; exact ⟨by first | rfl | (simp; done), Below.refl _ _⟩
def cf100.f (l : List Int) : Option Bool := some (l.any fun x => x != 0)
theorem cf100.calls (A0 : Option Addr) (c0 : Nat) (l0 : List Int) (r : Bool) (w : World) (hr0 : Kd.C (Kd.int .i64) w A0 l0.length l0) (hc0 : l0.length ≤ c0) (h : cf100.f l0 = some r) :
  Calls Try.prog 57 #[.slice A0 l0.length c0, .func (.func 100) #[] #[]] w fun e w' => e = .returned (.bool r) ∧ Below w.heap.size w w' := by
 obtain rfl := oI_ h; exact contains_any _ 100 #[] Try.f100 A0 c0 l0 w hr0 hc0 ⟨Try.func100, by kernel_rfl, rfl⟩ ⟨fun x W _ => lit100 x W⟩
set_option maxHeartbeats 1000000 in
theorem lit58 (x : Int) (W : World) : Calls Try.prog 58 (#[.int .i64 x] ++ #[]) W fun e W' => e = .returned (.bool (decide (x < -1048576) || decide (1048576 < x))) ∧ Below W.heap.size W W' := by
 show Calls Try.prog 58 #[.int .i64 x] W _
 by_cases h1 : x < -1048576
 ·have h1b : decide (x < -1048576) = true := eT_ h1
  go_enter Try.func58, Try.ntmps58; go_wp2; go_ret; exact ⟨by first | rfl | (rw [h1b]; rfl), Below.refl _ _⟩
 have h1b : decide (x < -1048576) = false := eF_ h1; go_enter Try.func58, Try.ntmps58; go_wp2; go_ret; exact ⟨by first | rfl | (rw [h1b, Bool.false_or]; rfl), Below.refl _ _⟩
def cf58.f (l : List Int) : Option Bool := some (l.any fun x => decide (x < -1048576) || decide (1048576 < x))
theorem cf58.calls (A0 : Option Addr) (c0 : Nat) (l0 : List Int) (r : Bool) (w : World) (hr0 : Kd.C (Kd.int .i64) w A0 l0.length l0) (hc0 : l0.length ≤ c0) (h : cf58.f l0 = some r) :
  Calls Try.prog 57 #[.slice A0 l0.length c0, .func (.func 58) #[] #[]] w fun e w' => e = .returned (.bool r) ∧ Below w.heap.size w w' := by
 obtain rfl := oI_ h; exact contains_any _ 58 #[] Try.f58 A0 c0 l0 w hr0 hc0 ⟨Try.func58, by kernel_rfl, rfl⟩ ⟨fun x W _ => lit58 x W⟩
end Go.Proofs.Ytpolojoeabmhdaa.A
namespace Go.Proofs.Ytpolojoeabmhdaa.A
open Go.RowKit Go.Proofs.YtpolojoeabmhdaaW.PrintWords Go.Proofs.YtpolojoeabmhdaaW.PrintLast Go.Proofs.YtpolojoeabmhdaaW.PrintMore
attribute [local go_sem] max2_int min2_int max_two min_two max_three min_three max_four min_four
def diffs_weighty.f (a0_0 : Int) (l0_1 : List (S39)) (l1 : List Int) : Option (Bool) := if (l1.length : Int) = a0_0 then ((cf118.f l1).bind fun t213 => (some (!t213))) else (some false)
set_option maxHeartbeats 8000000 in
set_option maxRecDepth 100000 in
theorem diffs_weighty.calls (a0_0 : Int) (A0_1 : Option Addr) (c0_1 : Nat) (l0_1 : List (S39)) (A1 : Option Addr) (c1 : Nat) (l1 : List Int) (r : Bool) (w : World) (hr0_1 : Kd.C k39 w A0_1 l0_1.length l0_1) (hc0_1 : l0_1.length ≤ c0_1) (hr1 : Kd.C (Kd.int .i64) w A1 l1.length l1) (hc1 : l1.length ≤ c1) (h : diffs_weighty.f a0_0 l0_1 l1 = some r) :
  Calls Try.prog 98 #[.agg #[.int .i64 a0_0, .slice A0_1 l0_1.length c0_1], .slice A1 l1.length c1] w fun e w' => e = .returned (.bool r) ∧ Below w.heap.size w w' := by
 have hu24 := Try.underlying24; have HR0_1 := Z_ hr0_1; have HC0_1 := Z_ hc0_1; clear hr0_1 hc0_1; have HR1 := Z_ hr1; have HC1 := Z_ hc1; clear hr1 hc1; have HB := Z_ (Below.refl w.heap.size w); have H : (if (l1.length : Int) = a0_0 then ((cf118.f l1).bind fun t213 => (some (!t213))) else (some false)) = some r := h; clear h; by_cases c3 : (l1.length : Int) = a0_0
 ·rw [if_pos c3] at H
  have c3b0 : ((l1.length : Int) == a0_0) = true := beq_iff_eq.mpr c3; have c3b1 : ((l1.length : Int) != a0_0) = false := bne_eq_false_iff_eq.mpr c3; clear c3; replace H := oS_.mp H; obtain ⟨t213, A40, H⟩ := H; replace H : (some (!t213)) = some r := H; have A4 := Z_ A40; clear A40; obtain rfl := oI_ H; go_enter Try.func98, Try.ntmps98; go_wp2_with (first | ((with_reducible refine gate_dst (N := 2) rfl ?_); refine box_event ?hg (N := 2) ?hd (cs := #[.int .i64 a0_0, .slice A0_1 l0_1.length c0_1]) (t := 24) ?hr ?_; (case hd => rfl); (case hg => rfl); (case hr => first | (go_simp; done) | (go_simp; rfl)); intro gb212 hg w5 hbox hb; have BK212 := Z_ (hbox); have GW212 := Z_ ((by rw [hg]; exact (fZ_ HB.out) : w.heap.size ≤ gb212)); have GE212 := Z_ ((by rw [hg]; exact (fZ_ HB.out) : w.heap.size ≤ gb212)); replace HB := Z_ (fS_ HB.out hb); clear hb hbox hg; have hcz6_0 : w5.cell? ⟨gb212, 0, none⟩ = some (.int .i64 a0_0) := (bC_ BK212.out 0).trans rfl; have hcz6_1 : w5.cell? ⟨gb212, 1, none⟩ = some (.slice A0_1 l0_1.length c0_1) := (bC_ BK212.out 1).trans rfl; have hfz6_0 := bF_ BK212.out 0; have hfz6_1 := bF_ BK212.out 1) | (go_at_call 57; (with_reducible refine (cf118.calls _ _ l1 t213 _ ?side1 ?side2 A4.out).mono ?_); (case side1 => exact (cB_ HR1.out HB.out)); (case side2 => exact HC1.out); rintro e w7 ⟨rfl, hb⟩; replace BK212 := Z_ (bB_ (g := gb212) (o := .cells #[.int .i64 a0_0, .slice A0_1 l0_1.length c0_1] 24 (0, 0)) BK212.out hb); replace HB := Z_ (fS_ HB.out hb); (try clear hb); (try clear hb2); (try clear hk); (try clear hi))); go_ret; exact ⟨by first | rfl | (simp [errW_none, errW_some] <;> rfl) | (simp [*, errW_none, errW_some] <;> rfl), HB.out⟩
 rw [if_neg c3] at H; have c3b0 : ((l1.length : Int) == a0_0) = false := beq_eq_false_iff_ne.mpr c3; have c3b1 : ((l1.length : Int) != a0_0) = true := bne_iff_ne.mpr c3; obtain rfl := oI_ H; go_enter Try.func98, Try.ntmps98; go_wp2_with (first | ((with_reducible refine gate_dst (N := 2) rfl ?_); refine box_event ?hg (N := 2) ?hd (cs := #[.int .i64 a0_0, .slice A0_1 l0_1.length c0_1]) (t := 24) ?hr ?_; (case hd => rfl); (case hg => rfl); (case hr => first | (go_simp; done) | (go_simp; rfl)); intro gb212 hg w8 hbox hb; have BK212 := Z_ (hbox); have GW212 := Z_ ((by rw [hg]; exact (fZ_ HB.out) : w.heap.size ≤ gb212)); have GE212 := Z_ ((by rw [hg]; exact (fZ_ HB.out) : w.heap.size ≤ gb212)); replace HB := Z_ (fS_ HB.out hb); clear hb hbox hg; have hcz9_0 : w8.cell? ⟨gb212, 0, none⟩ = some (.int .i64 a0_0) := (bC_ BK212.out 0).trans rfl; have hcz9_1 : w8.cell? ⟨gb212, 1, none⟩ = some (.slice A0_1 l0_1.length c0_1) := (bC_ BK212.out 1).trans rfl; have hfz9_0 := bF_ BK212.out 0; have hfz9_1 := bF_ BK212.out 1)); go_ret; exact ⟨by first | rfl | (simp [errW_none, errW_some] <;> rfl) | (simp [*, errW_none, errW_some] <;> rfl), HB.out⟩
end Go.Proofs.Ytpolojoeabmhdaa.A
/- best: the use of the differences that fill ends with. -/
namespace Go.Proofs.Ytpolojoeabmhdaa.A
open Go.RowKit Go.Proofs.YtpolojoeabmhdaaW.PrintWords Go.Proofs.YtpolojoeabmhdaaW.PrintLast Go.Proofs.YtpolojoeabmhdaaW.PrintMore
def bestOk (n0 : Int) (diffs : List S39) (wn : List Int) : Bool := decide (diffs.length ≤ 65536) && decide (wn.length ≤ 65536) && decide (n0 ≤ 4611686018427387904) && diffs.all (fun d => decide (-4611686018427387904 ≤ d.f2) && decide (d.f2 ≤ 4611686018427387904))
theorem bestOk_iff {n0 : Int} {diffs : List S39} {wn : List Int} (h : bestOk n0 diffs wn = true) : diffs.length ≤ 65536 ∧ wn.length ≤ 65536 ∧ n0 ≤ 4611686018427387904 ∧ ∀ d ∈ diffs, -4611686018427387904 ≤ d.f2 ∧ d.f2 ≤ 4611686018427387904 := by
 simp only [bestOk, Bool.and_eq_true, decide_eq_true_eq, List.all_eq_true] at h; exact ⟨h.1.1.1, h.1.1.2, h.1.2, fun d hd => h.2 d hd⟩
def diffs_best.f (k : Nat) (a0_0 : Int) (l0_1 : List (S39)) (l1 : List Int) : Option (Bool × List Int × List Int × Int) := (diffs_weighty.f a0_0 l0_1 l1).bind fun t233 => ((diffs_asked.f k a0_0 l0_1 (([t233] : List Bool))).bind fun t237 => (if t237 = 0 then ((diffs_solve.f k a0_0 l0_1).bind fun bt => (if bt.2.2.2.2 ≥ 0 then (some (false, [], [], 41)) else (if bestOk a0_0 l0_1 l1 = true then ((fillL k a0_0 l0_1 (List.replicate l0_1.length 0) l1).bind fun r => some (r.1, r.2.1, r.2.2, 0)) else none))) else (some (false, [], [], t237))))
/-- What best leaves in the memory. -/
def BestPost (a0_0 : Int) (A0_1 : Option Addr) (c0_1 : Nat) (l0_1 : List S39) (w : World) (r1 : Bool) (r2 r3 : List Int) (r4 : Int) (e : Ending) (w' : World) : Prop :=
 (r4 ≠ 0 ∧ e = .returned (.tuple #[.pointer none, .bool r1, .int .i64 r4]) ∧ Below w.heap.size w w') ∨
 (r4 = 0 ∧ ∃ (g : Nat) (AF : Option Addr) (nF cF : Nat) (AW : Option Addr) (nW cW : Nat), e = .returned (.tuple #[.pointer (some ⟨g, 0, none⟩), .bool r1, .int .i64 0]) ∧ w.heap.size ≤ g ∧ nF = l0_1.length ∧ l0_1.length ≤ 65536 ∧ (∀ d ∈ l0_1, -4611686018427387904 ≤ d.f2 ∧ d.f2 ≤ 4611686018427387904) ∧ Us g a0_0 A0_1 l0_1.length c0_1 AF nF cF AW nW cW w r2 r3 w')
set_option maxHeartbeats 8000000 in
set_option maxRecDepth 100000 in
theorem diffs_best.calls (k : Nat) (a0_0 : Int) (A0_1 : Option Addr) (c0_1 : Nat) (l0_1 : List (S39)) (A1 : Option Addr) (c1 : Nat) (l1 : List Int) (r1 : Bool) (r2 r3 : List Int) (r4 : Int) (w : World) (hr0_1 : Kd.C k39 w A0_1 l0_1.length l0_1) (hc0_1 : l0_1.length ≤ c0_1) (hr1 : Kd.C (Kd.int .i64) w A1 l1.length l1) (hc1 : l1.length ≤ c1) (h : diffs_best.f k a0_0 l0_1 l1 = some (r1, r2, r3, r4)) :
  Calls Try.prog 79 #[.agg #[.int .i64 a0_0, .slice A0_1 l0_1.length c0_1], .slice A1 l1.length c1] w (BestPost a0_0 A0_1 c0_1 l0_1 w r1 r2 r3 r4) := by
 have hu24 := Try.underlying24; have hu88 := Try.underlying88; have HR0_1 := Z_ hr0_1; have HC0_1 := Z_ hc0_1; clear hr0_1 hc0_1; have HR1 := Z_ hr1; have HC1 := Z_ hc1; clear hr1 hc1; have HB := Z_ (Below.refl w.heap.size w); obtain ⟨t233, A30, H⟩ := oS_.mp h; clear h; have A3 := Z_ A30; clear A30; obtain ⟨y234, hy234⟩ : ∃ y_ : List Bool, y_ = (([t233] : List Bool)) := ⟨_, rfl⟩; rw [← hy234] at H; have Ny234 := Z_ hy234; clear hy234; obtain ⟨t237, A40, H⟩ := oS_.mp H; have A4 := Z_ A40; clear A40; have HH := Z_ H; clear H; go_enter Try.func79, Try.ntmps79; try go_wp2_with (first | ((with_reducible refine gate_dst (N := 2) rfl ?_); refine box_event ?hg (N := 2) ?hd (cs := #[.int .i64 a0_0, .slice A0_1 l0_1.length c0_1]) (t := 24) ?hr ?_; (case hd => rfl); (case hg => rfl); (case hr => first | (go_simp; done) | (go_simp; rfl)); intro gb232 hg w38 hbox hb; have BK232 := Z_ (hbox); have GW232 := Z_ ((by rw [hg]; exact (fZ_ HB.out) : w.heap.size ≤ gb232)); have GE232 := Z_ ((by rw [hg]; exact (fZ_ HB.out) : w.heap.size ≤ gb232)); replace HB := Z_ (fS_ HB.out hb); clear hb hbox hg))
 replace BK232 := Z_ (bD_ BK232.out); replace HB := Z_ (fD_ HB.out); refine start_ (n := 7) (S := fun w' => w'.cell? ⟨gb232, 0, none⟩ = some (.int .i64 a0_0) ∧ w'.cell? ⟨gb232, 1, none⟩ = some (.slice A0_1 l0_1.length c0_1)) (ds := []) #[false, false, false, false, false, false, false] (by kernel_rfl) rfl rfl ⟨(bC_ BK232.out 0).trans rfl, (bC_ BK232.out 1).trans rfl⟩ (fun hHeld => ?_); generalize w38.drew = w39 at BK232 HB hHeld ⊢; refine pure_ (i := 2) (N := some 15) (v := ?_) (a' := ?_) #[false, false, true, false, false, false, false] rfl rfl (by kernel_rfl) (fun _ _ _ h => h) (Or.inl ⟨by rfl, ?_⟩) ?_ ?_; rotate_left; ·intro w'; go_simp; with_reducible rfl
 rotate_left; ·simp only [Act.put, sT_, sZ_, sS_, i64_w]; rfl
 refine take_ (i := 0) (N := some 13) (v := ?_) (a' := ?_) #[true, false, true, false, false, false, false] rfl rfl (by kernel_rfl) (fun _ _ _ h => h) (Or.inl ⟨by rfl, ?_⟩) hHeld ?_ ?_; rotate_left; ·rintro w' ⟨s0, s1⟩; go_simp; with_reducible rfl
 rotate_left; ·simp only [Act.put, sT_, sZ_, sS_, i64_w]; rfl
 refine take_ (i := 1) (N := some 14) (v := ?_) (a' := ?_) #[true, true, true, false, false, false, false] rfl rfl (by kernel_rfl) (fun _ _ _ h => h) (Or.inl ⟨by rfl, ?_⟩) hHeld ?_ ?_; rotate_left; ·rintro w' ⟨s0, s1⟩; go_simp; with_reducible rfl
 rotate_left; ·simp only [Act.put, sT_, sZ_, sS_, i64_w]; rfl
 refine one_ (i := 3) (N := some 16) #[true, true, true, true, false, false, false] rfl rfl (by kernel_rfl) (by decide) (fun K hK => ?_); refine goes_ Try.func98 (by kernel_rfl) rfl #[.agg #[.int .i64 a0_0, .slice A0_1 l0_1.length c0_1], .slice A1 l1.length c1] (by rfl) rfl rfl (by (try simp only [mT_, mC_, mN_]); first | done | rfl | (simp only [lD_, lT_]; rfl)) ?_; with_reducible refine (diffs_weighty.calls a0_0 _ _ l0_1 _ _ l1 t233 _ ?side1 ?side2 ?side3 ?side4 A3.out).mono ?_
 (case side1 => exact (cB_ HR0_1.out HB.out))
 (case side2 => exact HC0_1.out)
 (case side3 => exact (cB_ HR1.out HB.out))
 (case side4 => exact HC1.out)
 rintro e w40 ⟨rfl, hb⟩; refine ⟨_, rfl, ?_⟩; replace BK232 := Z_ (bB_ (g := gb232) (o := .cells #[.int .i64 a0_0, .slice A0_1 l0_1.length c0_1] 24 (0, 0)) BK232.out hb); replace HB := Z_ (fS_ HB.out hb); (try clear hb)
 (try clear hb2)
 (try clear hk)
 (try clear hi)
 refine hK.out _ _ ⟨(bC_ BK232.out 0).trans rfl, (bC_ BK232.out 1).trans rfl⟩ (fun hHeld => ?_); clear hK K; refine norm_ (a' := ?_) ?_ ?_; rotate_left; ·show Act.put _ (some 16) _ = _; simp only [Act.put, sT_, sZ_, sS_, i64_w]; rfl
 refine one_ (i := 4) (N := some 17) #[true, true, true, true, true, false, false] rfl rfl (by kernel_rfl) (by decide) (fun K hK => ?_); refine Kd.R_lit_step Kd.bool _ 4 ?hg (N := 17) ?hd (xs := ([t233] : List Bool)) (inner := [.bool t233]) (ok := fun _ => True) (okp := fun _ => True) ?hr ?hp (fun _ hk => hk) trivial (Below.refl _ _) (nR_ _) (by simp) ?_; (case hd => rfl); (case hg => rfl); (case hr => first | (go_simp; done) | (go_simp; rfl)); (case hp => exact (Reps.one (show Kd.M Kd.bool _ _ _ t233 [.bool t233] from rfl) (Reps.none _ _))); intro v235 w41 ho42 hb hg_ hnew_; clear hg_ hnew_; (first | rw [← Ny234.out] at ho42 | (simp only [Int.reduceToNat] at ho42; rw [← Ny234.out] at ho42))
 have HO236 := Z_ (rL_ ho42 (fZ_ HB.out)); replace BK232 := Z_ (bB_ (g := gb232) (o := .cells #[.int .i64 a0_0, .slice A0_1 l0_1.length c0_1] 24 (0, 0)) BK232.out hb); replace HB := Z_ (fS_ HB.out hb); clear hb ho42; obtain ⟨Ao43, co43, eo43⟩ := rS_ HO236.out; (first | subst eo43 | (injection eo43 with f1_ f2_ f3_; have f4_ := f1_.symm; have f5_ := f3_.symm; clear f1_ f2_ f3_; subst f4_; subst f5_))
 refine hK.out _ _ ⟨(bC_ BK232.out 0).trans rfl, (bC_ BK232.out 1).trans rfl⟩ (fun hHeld => ?_); clear hK K; refine norm_ (a' := ?_) ?_ ?_; rotate_left; ·show Act.put _ (some 17) _ = _; simp only [Act.put, sT_, sZ_, sS_, i64_w]; rfl
 refine one_ (i := 5) (N := some 18) #[true, true, true, true, true, true, false] rfl rfl (by kernel_rfl) (by decide) (fun K hK => ?_); refine goes_ Try.func77 (by kernel_rfl) rfl #[.agg #[.int .i64 a0_0, .slice A0_1 l0_1.length c0_1], .slice Ao43 y234.length co43] (by rfl) rfl rfl (by (try simp only [mT_, mC_, mN_]); first | done | rfl | (simp only [lD_, lT_]; rfl)) ?_; with_reducible refine (diffs_asked.calls k a0_0 _ _ l0_1 _ _ y234 t237 _ ?side1 ?side2 ?side3 ?side4 A4.out).mono ?_
 (case side1 => exact (cB_ HR0_1.out HB.out))
 (case side2 => exact HC0_1.out)
 (case side3 => repeat (first | exact (rR_ HO236.out).2.2 | (with_reducible refine Kd.C_alloc ?_ _) | (with_reducible refine Kd.C_drewN ?_ _) | (with_reducible refine Kd.C_drew ?_)))
 (case side4 => exact (rR_ HO236.out).2.1)
 rintro e w44 ⟨rfl, hb⟩; refine ⟨_, rfl, ?_⟩; replace HO236 := Z_ (rB_ HO236.out hb); replace BK232 := Z_ (bB_ (g := gb232) (o := .cells #[.int .i64 a0_0, .slice A0_1 l0_1.length c0_1] 24 (0, 0)) BK232.out hb); replace HB := Z_ (fS_ HB.out hb); (try clear hb)
 (try clear hb2)
 (try clear hk)
 (try clear hi)
 refine hK.out _ _ ⟨(bC_ BK232.out 0).trans rfl, (bC_ BK232.out 1).trans rfl⟩ (fun hHeld => ?_); clear hK K; refine norm_ (a' := ?_) ?_ ?_; rotate_left; ·show Act.put _ (some 18) _ = _; simp only [Act.put, sT_, sZ_, sS_, i64_w]; rfl
 refine pure_ (i := 6) (N := some 7) (v := ?_) (a' := ?_) #[true, true, true, true, true, true, true] rfl rfl (by kernel_rfl) (fun _ _ _ h => h) (Or.inl ⟨by rfl, ?_⟩) ?_ ?_; rotate_left; ·intro w'; go_simp; with_reducible rfl
 rotate_left; ·simp only [Act.put, sT_, sZ_, sS_, i64_w]; rfl
 refine done_ (by kernel_rfl) ?_; by_cases c5 : t237 = 0
 case neg =>
  have H := HH.out; rw [if_neg c5] at H; have c5b1 : (t237 != 0) = true := bne_iff_ne.mpr c5; simp only [oJ_, pI_] at H; obtain ⟨rfl, rfl, rfl, rfl⟩ := H; have C5 := Z_ c5; clear c5 HH; go_wp2; go_ret3; exact Or.inl ⟨C5.out, rfl, HB.out⟩
 case pos =>
  have H := HH.out; rw [if_pos c5] at H; have c5b1 : (t237 != 0) = false := bne_eq_false_iff_eq.mpr c5; obtain ⟨⟨t238, t241, t244, t247, t250⟩, A60, H⟩ := oS_.mp H; have A6 := Z_ A60; have HH2 := Z_ H; clear A60 H HH c5; have hcz30_0 : w44.cell? ⟨gb232, 0, none⟩ = some (.int .i64 a0_0) := (bC_ BK232.out 0).trans rfl; have hcz30_1 : w44.cell? ⟨gb232, 1, none⟩ = some (.slice A0_1 l0_1.length c0_1) := (bC_ BK232.out 1).trans rfl; obtain ⟨b7, hb7⟩ : ∃ b, decide (0 ≤ t250) = b := ⟨_, rfl⟩
  go_upto_if 31 with (first
   | ((with_reducible refine gate_callee (f := 81) rfl ?_); refine goesL_ (some 26) rfl rfl Try.func81 (by kernel_rfl) rfl #[.iface 100 (.agg #[.int .i64 a0_0, .slice A0_1 l0_1.length c0_1])] rfl (by (try simp only [mT_, mC_, mN_]); first | done | rfl) ?_; refine (diffs_solve.calls k a0_0 _ _ l0_1 t238 t241 t244 t247 t250 _ (cB_ HR0_1.out HB.out) HC0_1.out A6.out).mono ?_; rintro e w31 ⟨v239, v242, v245, v248, rfl, ho0, ho1, ho2, ho3, hb⟩; refine ⟨_, rfl, ?_⟩; have n0_ := Z_ (bB_ BK232.out hb); have n1_ := Z_ (fS_ HB.out hb); clear BK232 HB HO236 hcz30_0 hcz30_1; have BK232 := n0_; have HB := n1_; clear n0_ n1_ hb; (obtain ⟨Ao31, co31, eo31, _⟩ := Kd.R_reads ho0); subst eo31; (obtain ⟨Ao32, co32, eo32, _⟩ := Kd.R_reads ho1); subst eo32; (obtain ⟨Ao33, co33, eo33, _⟩ := Kd.R_reads ho2); subst eo33; (obtain ⟨Ao34, co34, eo34, _⟩ := Kd.R_reads ho3); subst eo34; clear ho0 ho1 ho2 ho3)
   | ((with_reducible refine gate_dst (N := 9) rfl ?_); refine box_event ?hg (N := 9) ?hd (cs := #[.slice none 0 0, .slice none 0 0, .slice none 0 0]) (t := 88) ?hr ?_; (case hd => rfl); (case hg => rfl); (case hr => first | (go_simp; done) | (go_simp; rfl)); intro g9 hg9 w32 hbox hb; have n0_ := Z_ (bB_ BK232.out hb); have n1_ := Z_ (fS_ HB.out hb); have NG := Z_ (show w.heap.size ≤ g9 ∧ gb232 ≠ g9 from ⟨by rw [hg9]; exact HB.out.size, by rw [hg9]; exact Nat.ne_of_lt (blk_lt BK232.out)⟩); have BT := Z_ hbox; clear BK232 HB hb hbox hg9; have BK232 := n0_; have HB := n1_; clear n0_ n1_)
   | (refine gate_store (t := 88) (p := 9) (v := .tmp 28) rfl ?_; refine store_box rfl rfl 88 (.tmp 9) (.tmp 28) rfl [.slice Ao32 t241.length co32, .slice Ao33 t244.length co33, .slice Ao34 t247.length co34] (by rfl) g9 rfl _ rfl rfl (by intro q hq; simp only [List.mem_cons, List.not_mem_nil, or_false] at hq; rcases hq with rfl | rfl | rfl <;> rfl) _ BT.out rfl ?_; intro w33 hb5 hg5; replace BK232 := Z_ (blk_grown BK232.out hg5 (fun e => NG.out.2 (oI_ e))); replace HB := Z_ (HB.out.grown hg5 HB.out.size (fun k e => by cases e; exact NG.out.1)); clear BT hb5 hg5))
  cases b7 with
  | true =>
   have c7 := dT_ hb7; have H := HH2.out; simp only [ge_iff_le] at H; rw [if_pos c7] at H; simp only [oJ_, pI_] at H; obtain ⟨rfl, rfl, rfl, rfl⟩ := H; clear HH2 c7; go_wp2; go_ret3; exact Or.inl ⟨by decide, rfl, HB.out⟩
  | false =>
   have c7 := of_decide_eq_false hb7; have H := HH2.out; simp only [ge_iff_le] at H; rw [if_neg c7] at H; by_cases cb : bestOk a0_0 l0_1 l1 = true
   case neg => rw [if_neg cb] at H; exact absurd H (by simp)
   rw [if_pos cb] at H; obtain ⟨⟨q1, q2, q3⟩, hfill, H⟩ := oS_.mp H; simp only [oJ_, pI_] at H; obtain ⟨rfl, rfl, rfl, rfl⟩ := H; have HFI := Z_ hfill; have HOK := Z_ (bestOk_iff cb); clear HH2 hfill cb c7; go_wp2; replace BK232 := Z_ (bD_ BK232.out); replace HB := Z_ (fD_ HB.out); refine start_ (n := 10) (S := fun w' => w'.cell? ⟨gb232, 0, none⟩ = some (.int .i64 a0_0) ∧ w'.cell? ⟨gb232, 1, none⟩ = some (.slice A0_1 l0_1.length c0_1)) (ds := []) #[false, false, false, false, false, false, false, false, false, false] (by kernel_rfl) rfl rfl ⟨(bC_ BK232.out 0).trans rfl, (bC_ BK232.out 1).trans rfl⟩ (fun hHeld => ?_); generalize w33.drew = w34 at BK232 HB hHeld ⊢; refine pure_ (i := 1) (N := some 33) (v := ?_) (a' := ?_) (mB_ 10 2) rfl rfl (by kernel_rfl) (fun _ _ _ h => h) (Or.inl ⟨by rfl, ?_⟩) ?_ ?_; rotate_left; ·intro w'; go_simp; with_reducible rfl
   rotate_left; ·simp only [Act.put, sT_, sZ_, sS_, i64_w]; rfl
   refine pure_ (i := 5) (N := some 37) (v := ?_) (a' := ?_) (mB_ 10 34) rfl rfl (by kernel_rfl) (fun _ _ _ h => h) (Or.inl ⟨by rfl, ?_⟩) ?_ ?_; rotate_left; ·intro w'; go_simp; with_reducible rfl
   rotate_left; ·simp only [Act.put, sT_, sZ_, sS_, i64_w]; rfl
   refine take_ (i := 0) (N := some 32) (v := ?_) (a' := ?_) (mB_ 10 35) rfl rfl (by kernel_rfl) (fun _ _ _ h => h) (Or.inl ⟨by rfl, ?_⟩) hHeld ?_ ?_; rotate_left; ·rintro w' ⟨s0, s1⟩; go_simp; with_reducible rfl
   rotate_left; ·simp only [Act.put, sT_, sZ_, sS_, i64_w]; rfl
   refine take_ (i := 2) (N := some 34) (v := ?_) (a' := ?_) (mB_ 10 39) rfl rfl (by kernel_rfl) (fun _ _ _ h => h) (Or.inl ⟨by rfl, ?_⟩) hHeld ?_ ?_; rotate_left; ·rintro w' ⟨s0, s1⟩; go_simp; with_reducible rfl
   rotate_left; ·simp only [Act.put, sT_, sZ_, sS_, i64_w]; rfl
   refine pure_ (i := 3) (N := some 35) (v := ?_) (a' := ?_) (mB_ 10 47) rfl rfl (by kernel_rfl) (fun _ _ _ h => h) (Or.inl ⟨by rfl, ?_⟩) ?_ ?_; rotate_left; ·intro w'; go_simp; with_reducible rfl
   rotate_left; ·simp only [Act.put, sT_, sZ_, sS_, i64_w]; rfl
   refine join_ (σ := Value × Value) 3 #[true, true, true, true, true, true, true, false, false, false] (fun s_ => [(36, s_.1), (38, s_.2)]) (fun s_ w' => (w'.cell? ⟨gb232, 0, none⟩ = some (.int .i64 a0_0) ∧ w'.cell? ⟨gb232, 1, none⟩ = some (.slice A0_1 l0_1.length c0_1)) ∧ Kd.R (Kd.int .i64) 3 w' w.heap.size (fun _ => True) s_.1 (List.replicate l0_1.length 0) ∧ Kd.R (Kd.int .i64) 3 w' w.heap.size (fun _ => True) s_.2 l1 ∧ Dj s_.1 s_.2 ∧ (w'.heap[gb232]? = some (.cells #[.int .i64 a0_0, .slice A0_1 l0_1.length c0_1] 24 (0, 0))) ∧ Below w.heap.size w w') ?_ ?_; rotate_left
   ·intro hCont
    refine two_ (i := 4) (j := 6) (Ni := some 36) (Nj := some 38) #[true, true, true, true, true, true, false, false, false, false] #[true, true, true, true, false, true, true, false, false, false] rfl rfl rfl rfl (by kernel_rfl) (by decide) (by decide) (fun K hK => ?_) (fun K hK => ?_)
    ·skip
     refine Kd.R_make_step (Kd.int .i64) _ 3 (by rfl) (N := 36) rfl 29 _ _ rfl (l0_1.length : Int) (by rfl) (by rfl) Try.underlying29 (.int .i64 0) 8 info3 rfl (by decide) (by omega) 0 (ok := fun _ => True) (okp := fun _ => True) rfl (fun _ hk => hk) trivial (by omega) (by have := HOK.out.1; omega) (Below.refl _ _) (nR_ _) ?_; intro vF w35 ho hb hg hnew; simp only [Int.toNat_natCast] at ho; have n0_ := Z_ (bB_ BK232.out hb); have n1_ := Z_ (fS_ HB.out hb); have HF0 := Z_ ho; have HS0 := Z_ HB.out.size; clear BK232 HB hb ho; have BK232 := n0_; have HB := n1_; clear n0_ n1_; refine hK.out _ _ ⟨(bC_ BK232.out 0).trans rfl, (bC_ BK232.out 1).trans rfl⟩ (fun hHeld => ?_); clear hK K; refine norm_ (a' := ?_) ?_ ?_; rotate_left; ·show Act.put _ (some 36) _ = _; simp only [Act.put, sT_, sZ_, sS_, i64_w]; rfl
     refine one_ (i := 6) (N := some 38) (mB_ 10 127) rfl rfl (by kernel_rfl) (by decide) (fun K hK => ?_); refine goes_ Try.func99 (by kernel_rfl) rfl #[.slice A1 l1.length c1] (by rfl) rfl rfl (by (try simp only [mT_, mC_, mN_]); first | done | rfl) ?_; refine (slices_Clone_int_int.calls _ _ l1 l1 _ (cB_ HR1.out HB.out) HC1.out (by unfold slices_Clone_int_int.f; rw [if_pos HOK.out.2.1])).mono ?_; rintro e w36 ⟨vW, rfl, ho, hb⟩; refine ⟨_, rfl, ?_⟩; have n0_ := Z_ (bB_ BK232.out hb); have n1_ := Z_ (fS_ HB.out hb); have HW0 := Z_ ho; have HF1 := Z_ (rB_ HF0.out hb); have HDJ := Z_ (Dj.fresh HF0.out ho (nR_ _)); have n2_ := Z_ HB.out.size; clear BK232 HB hb ho; have BK232 := n0_; have HB := n1_; clear n0_ n1_; refine hK.out _ _ ⟨(bC_ BK232.out 0).trans rfl, (bC_ BK232.out 1).trans rfl⟩ (fun hHeld => ?_); clear hK K; refine norm_ (a' := ?_) ?_ ?_; rotate_left; ·show Act.put _ (some 38) _ = _; simp only [Act.put, sT_, sZ_, sS_, i64_w]; rfl
     exact norm_ (by simp only [putAll, Act.put, sT_, sZ_, sS_]) (hCont (vF, vW) _ ⟨hHeld, rL_ HF1.out HS0.out, rL_ HW0.out n2_.out, HDJ.out, BK232.out, HB.out⟩)
    skip
    refine goes_ Try.func99 (by kernel_rfl) rfl #[.slice A1 l1.length c1] (by rfl) rfl rfl (by (try simp only [mT_, mC_, mN_]); first | done | rfl) ?_; refine (slices_Clone_int_int.calls _ _ l1 l1 _ (cB_ HR1.out HB.out) HC1.out (by unfold slices_Clone_int_int.f; rw [if_pos HOK.out.2.1])).mono ?_; rintro e w35 ⟨vW, rfl, ho, hb⟩; refine ⟨_, rfl, ?_⟩; have n0_ := Z_ (bB_ BK232.out hb); have n1_ := Z_ (fS_ HB.out hb); have HW0 := Z_ ho; have HS0 := Z_ HB.out.size; clear BK232 HB hb ho; have BK232 := n0_; have HB := n1_; clear n0_ n1_; refine hK.out _ _ ⟨(bC_ BK232.out 0).trans rfl, (bC_ BK232.out 1).trans rfl⟩ (fun hHeld => ?_); clear hK K; refine norm_ (a' := ?_) ?_ ?_; rotate_left; ·show Act.put _ (some 38) _ = _; simp only [Act.put, sT_, sZ_, sS_, i64_w]; rfl
    refine one_ (i := 4) (N := some 36) (mB_ 10 127) rfl rfl (by kernel_rfl) (by decide) (fun K hK => ?_); refine Kd.R_make_step (Kd.int .i64) _ 3 (by rfl) (N := 36) rfl 29 _ _ rfl (l0_1.length : Int) (by rfl) (by rfl) Try.underlying29 (.int .i64 0) 8 info3 rfl (by decide) (by omega) 0 (ok := fun _ => True) (okp := fun _ => True) rfl (fun _ hk => hk) trivial (by omega) (by have := HOK.out.1; omega) (Below.refl _ _) (nR_ _) ?_; intro vF w36 ho hb hg hnew; simp only [Int.toNat_natCast] at ho; have n0_ := Z_ (bB_ BK232.out hb); have n1_ := Z_ (fS_ HB.out hb); have HF0 := Z_ ho; have HW1 := Z_ (rB_ HW0.out hb); have HDJ := Z_ (Dj.symm (Dj.fresh HW0.out ho (nR_ _))); have n2_ := Z_ HB.out.size; clear BK232 HB hb ho; have BK232 := n0_; have HB := n1_; clear n0_ n1_; refine hK.out _ _ ⟨(bC_ BK232.out 0).trans rfl, (bC_ BK232.out 1).trans rfl⟩ (fun hHeld => ?_); clear hK K; refine norm_ (a' := ?_) ?_ ?_; rotate_left; ·show Act.put _ (some 36) _ = _; simp only [Act.put, sT_, sZ_, sS_, i64_w]; rfl
    exact norm_ (by simp only [putAll, Act.put, sT_, sZ_, sS_]) (hCont (vF, vW) _ ⟨hHeld, rL_ HF0.out n2_.out, rL_ HW1.out HS0.out, HDJ.out, BK232.out, HB.out⟩)
   rintro ⟨vF, vW⟩ w37 ⟨hHeld, hF, hW, hDJ, hBK, hBL⟩; obtain ⟨AF, cF, rfl⟩ := own_slice (Kd.own_of_R hF); obtain ⟨AW, cW, rfl⟩ := own_slice (Kd.own_of_R hW); clear BK232 HB; have BK232 := Z_ hBK; have HB := Z_ hBL; have HF := Z_ hF; have HW := Z_ hW; have HDJ := Z_ hDJ; clear hBK hBL hF hW hDJ; refine norm_ (a' := ?_) ?_ ?_; rotate_left
   ·simp only [putAll, Act.put, sT_, sZ_, sS_]
    rfl
   refine pure_ (i := 7) (N := some 39) (v := ?_) (a' := ?_) (mB_ 10 255) rfl rfl (by kernel_rfl) (fun _ _ _ h => h) (Or.inl ⟨by rfl, ?_⟩) ?_ ?_; rotate_left; ·intro w'; go_simp; with_reducible rfl
   rotate_left; ·simp only [Act.put, sT_, sZ_, sS_, i64_w]; rfl
   refine one_ (i := 8) (N := some 40) (mB_ 10 511) rfl rfl (by kernel_rfl) (by decide) (fun K hK => ?_); refine box_step ?hg (N := 40) ?hd (cs := #[.int .i64 a0_0, .slice A0_1 l0_1.length c0_1, .slice AF (List.replicate l0_1.length (0 : Int)).length cF, .slice AW l1.length cW]) (t := 96) ?hr ?_; (case hd => rfl); (case hg => rfl); (case hr => first | (go_simp; done) | (go_simp; rfl)); intro g hg w38 hbox hb; have HU := Z_ (Us.mk (g := g) (n0 := a0_0) (AD := A0_1) (nD := l0_1.length) (cD := c0_1) (w0 := w) hbox (rB_ HF.out hb) (rB_ HW.out hb) (fS_ HB.out hb)); have HGE := Z_ (show w.heap.size ≤ g from by rw [hg]; exact HB.out.size); replace BK232 := Z_ (bB_ BK232.out hb); clear HB hb hbox hg HF HW; refine hK.out _ _ ⟨(bC_ BK232.out 0).trans rfl, (bC_ BK232.out 1).trans rfl⟩ (fun hHeld => ?_); clear hK K; refine norm_ (a' := ?_) ?_ ?_; rotate_left; ·show Act.put _ (some 40) _ = _; simp only [Act.put, sT_, sZ_, sS_, i64_w]; rfl
   refine pure_ (i := 9) (N := some 11) (v := ?_) (a' := ?_) (mB_ 10 1023) rfl rfl (by kernel_rfl) (fun _ _ _ h => h) (Or.inl ⟨by rfl, ?_⟩) ?_ ?_; rotate_left; ·intro w'; go_simp; with_reducible rfl
   rotate_left; ·simp only [Act.put, sT_, sZ_, sS_, i64_w]; rfl
   refine done_ (by kernel_rfl) ?_; go_wp2_with ((with_reducible refine gate_callee (f := 110) rfl ?_); refine goesL_ (some 42) rfl rfl Try.func110 (by kernel_rfl) rfl #[.pointer (some ⟨g, 0, none⟩)] rfl (by (try simp only [mT_, mC_, mN_]); first | done | rfl) ?_; refine (use_fill.calls k g a0_0 A0_1 c0_1 l0_1 AF _ cF AW _ cW _ l1 q1 q2 q3 w _ HU.out HGE.out HR0_1.out HC0_1.out HDJ.out (List.length_replicate ..) HOK.out.1 HOK.out.2.1 HOK.out.2.2.1 HOK.out.2.2.2 HFI.out).mono ?_; rintro e w39 ⟨rfl, hu⟩; refine ⟨_, rfl, ?_⟩; clear HU; have HU := Z_ hu; clear hu); go_ret3; exact Or.inr ⟨rfl, g, AF, _, cF, AW, _, cW, rfl, HGE.out, List.length_replicate .., HOK.out.1, HOK.out.2.2.2, HU.out⟩
end Go.Proofs.Ytpolojoeabmhdaa.A
namespace Go.Proofs.Ytpolojoeabmhdaa.A
open Go.RowKit Go.Proofs.YtpolojoeabmhdaaW.PrintWords Go.Proofs.YtpolojoeabmhdaaW.PrintLast Go.Proofs.YtpolojoeabmhdaaW.PrintMore
attribute [local go_sem] max2_int min2_int max_two min_two max_three min_three max_four min_four
def diffs_cost.l0 : Nat → List Int → Int → List (S39) → Int → Int → Option (Int)
 | 0, _, _, _, _, _ => none
 | k + 1, x1, x5, x9, x10, x11 => if x11 < x10 then (if 0 ≤ x11 then (if x11 < (x9.length : Int) then (if x11 < (x1.length : Int) then (diffs_cost.l0 k x1 (wrap64 (x5 + (wrap64 ((rd x1 x11) * ((rd_T39 x9 x11).f2))))) x9 x10 (wrap64 (x11 + 1))) else (none)) else (none)) else (none)) else (some x5)
def diffs_cost.f (k : Nat) (a0_0 : Int) (l0_1 : List (S39)) (l1 : List Int) : Option (Int) := diffs_cost.l0 k l1 0 l0_1 (l0_1.length : Int) 0
theorem diffs_cost.mono_l : ∀ k, (∀ y0 y1 y2 y3 y4, LeO (diffs_cost.l0 k y0 y1 y2 y3 y4) (diffs_cost.l0 (k + 1) y0 y1 y2 y3 y4))
 | 0 => fun _ _ _ _ _ r h => by simp [diffs_cost.l0] at h
 | k + 1 => by
  have ih0 := diffs_cost.mono_l k; intro y0 y1 y2 y3 y4; unfold diffs_cost.l0; repeat' first | (with_reducible first | exact ih0 _ _ _ _ _ | exact LeO.refl _ | exact LeO.none _ | refine LeO.ite ?_ ?_ | refine LeO.bind ?_ (fun _ => ?_)) | exact ih0 _ _ _ _ _ | exact LeO.none _ | refine LeO.ite ?_ ?_ | refine LeO.bind ?_ (fun _ => ?_)
theorem diffs_cost.mono : ∀ a0 a1 a2 k, LeO (diffs_cost.f k a0 a1 a2) (diffs_cost.f (k + 1) a0 a1 a2) := by
 intro a0 a1 a2 k; have ih0 := diffs_cost.mono_l k; unfold diffs_cost.f; repeat' first | (with_reducible first | exact ih0 _ _ _ _ _ | exact LeO.refl _ | exact LeO.none _ | refine LeO.ite ?_ ?_ | refine LeO.bind ?_ (fun _ => ?_)) | exact ih0 _ _ _ _ _ | exact LeO.none _ | refine LeO.ite ?_ ?_ | refine LeO.bind ?_ (fun _ => ?_)
set_option maxHeartbeats 8000000 in
set_option maxRecDepth 100000 in
theorem diffs_cost.calls (k : Nat) (a0_0 : Int) (A0_1 : Option Addr) (c0_1 : Nat) (l0_1 : List (S39)) (A1 : Option Addr) (c1 : Nat) (l1 : List Int) (r : Int) (w : World) (hr0_1 : Kd.C k39 w A0_1 l0_1.length l0_1) (hc0_1 : l0_1.length ≤ c0_1) (hr1 : Kd.C (Kd.int .i64) w A1 l1.length l1) (hc1 : l1.length ≤ c1) (h : diffs_cost.f k a0_0 l0_1 l1 = some r) :
  Calls Try.prog 80 #[.agg #[.int .i64 a0_0, .slice A0_1 l0_1.length c0_1], .slice A1 l1.length c1] w fun e w' => e = .returned (.int .i64 r) ∧ Below w.heap.size w w' := by
 have hu24 := Try.underlying24; have hu39 := Try.underlying39; have HR0_1 := Z_ hr0_1; have HC0_1 := Z_ hc0_1; clear hr0_1 hc0_1; have HR1 := Z_ hr1; have HC1 := Z_ hc1; clear hr1 hc1; have HB := Z_ (Below.refl w.heap.size w); have H : (diffs_cost.l0 k l1 0 l0_1 (l0_1.length : Int) 0) = some r := h; clear h; have H' := Z_ H; clear H; go_enter Try.func80, Try.ntmps80; go_wp2_with (first | ((with_reducible refine gate_dst (N := 2) rfl ?_); refine box_event ?hg (N := 2) ?hd (cs := #[.int .i64 a0_0, .slice A0_1 l0_1.length c0_1]) (t := 24) ?hr ?_; (case hd => rfl); (case hg => rfl); (case hr => first | (go_simp; done) | (go_simp; rfl)); intro gb232 hg w3 hbox hb; have BK232 := Z_ (hbox); have GW232 := Z_ ((by rw [hg]; exact (fZ_ HB.out) : w.heap.size ≤ gb232)); have GE232 := Z_ ((by rw [hg]; exact (fZ_ HB.out) : w.heap.size ≤ gb232)); replace HB := Z_ (fS_ HB.out hb); clear hb hbox hg; have hcz4_0 : w3.cell? ⟨gb232, 0, none⟩ = some (.int .i64 a0_0) := (bC_ BK232.out 0).trans rfl; have hcz4_1 : w3.cell? ⟨gb232, 1, none⟩ = some (.slice A0_1 l0_1.length c0_1) := (bC_ BK232.out 1).trans rfl; have hfz4_0 := bF_ BK232.out 0; have hfz4_1 := bF_ BK232.out 1)); repeat (go_quiet (first | ((with_reducible refine gate_dst (N := 2) rfl ?_); refine box_event ?hg (N := 2) ?hd (cs := #[.int .i64 a0_0, .slice A0_1 l0_1.length c0_1]) (t := 24) ?hr ?_; (case hd => rfl); (case hg => rfl); (case hr => first | (go_simp; done) | (go_simp; rfl)); intro gb232 hg w3 hbox hb; have BK232 := Z_ (hbox); have GW232 := Z_ ((by rw [hg]; exact (fZ_ HB.out) : w.heap.size ≤ gb232)); have GE232 := Z_ ((by rw [hg]; exact (fZ_ HB.out) : w.heap.size ≤ gb232)); replace HB := Z_ (fS_ HB.out hb); clear hb hbox hg; have hcz4_0 : w3.cell? ⟨gb232, 0, none⟩ = some (.int .i64 a0_0) := (bC_ BK232.out 0).trans rfl; have hcz4_1 : w3.cell? ⟨gb232, 1, none⟩ = some (.slice A0_1 l0_1.length c0_1) := (bC_ BK232.out 1).trans rfl; have hfz4_0 := bF_ BK232.out 0; have hfz4_1 := bF_ BK232.out 1)); try go_wp2_with (first | ((with_reducible refine gate_dst (N := 2) rfl ?_); refine box_event ?hg (N := 2) ?hd (cs := #[.int .i64 a0_0, .slice A0_1 l0_1.length c0_1]) (t := 24) ?hr ?_; (case hd => rfl); (case hg => rfl); (case hr => first | (go_simp; done) | (go_simp; rfl)); intro gb232 hg w3 hbox hb; have BK232 := Z_ (hbox); have GW232 := Z_ ((by rw [hg]; exact (fZ_ HB.out) : w.heap.size ≤ gb232)); have GE232 := Z_ ((by rw [hg]; exact (fZ_ HB.out) : w.heap.size ≤ gb232)); replace HB := Z_ (fS_ HB.out hb); clear hb hbox hg; have hcz4_0 : w3.cell? ⟨gb232, 0, none⟩ = some (.int .i64 a0_0) := (bC_ BK232.out 0).trans rfl; have hcz4_1 : w3.cell? ⟨gb232, 1, none⟩ = some (.slice A0_1 l0_1.length c0_1) := (bC_ BK232.out 1).trans rfl; have hfz4_0 := bF_ BK232.out 0; have hfz4_1 := bF_ BK232.out 1)))
 go_loopg [5, 11] k (fun kq v5 v11 w' => ∃ (x5_1 : Int) (x11_1 : Int), v5 = .int .i64 x5_1 ∧ v11 = .int .i64 x11_1 ∧ Aside0 (diffs_cost.l0 kq l1 x5_1 l0_1 (l0_1.length : Int) x11_1 = some r) ∧ Aside0 (kq ≤ k) ∧ Aside0 (w'.heap[gb232]? = some (.cells #[.int .i64 a0_0, (.slice A0_1 l0_1.length c0_1)] 24 (0, 0))) ∧ Aside0 (Below w.heap.size w w'))
 case atStart => exact ⟨(0), (0), (by first | rfl | (simp; done) | (simp [*]; done)), (by first | rfl | (simp; done) | (simp [*]; done)), H', ⟨nR_ _⟩, ⟨BK232.out⟩, ⟨HB.out⟩⟩
 case round =>
  clear H'; (try clear c1); (try clear p2); (try clear hcz4_0); (try clear hcz4_1); (try clear hfz4_0); (try clear hfz4_1)
  obtain ⟨x5_1, x11_1, rfl, rfl, HA, HK1, BK232, HB⟩ := hrel
  cases gk with
  | zero => exact absurd HA.out (by simp [diffs_cost.l0])
  | succ k1 =>
   have H := HA.out; clear HA; simp only [diffs_cost.l0] at H; by_cases c5 : x11_1 < (l0_1.length : Int)
   ·rw [if_pos c5] at H
    have c5b0 : decide (x11_1 < (l0_1.length : Int)) = true := eT_ c5; clear c5; by_cases c6 : 0 ≤ x11_1
    ·rw [if_pos c6] at H
     have c6b0 : decide (0 ≤ x11_1) = true := eT_ c6; clear c6; by_cases c7 : x11_1 < (l0_1.length : Int)
     ·rw [if_pos c7] at H
      have c7b0 : decide (x11_1 < (l0_1.length : Int)) = true := eT_ c7; clear c7; by_cases c8 : x11_1 < (l1.length : Int)
      ·rw [if_pos c8] at H
       have c8b0 : decide (x11_1 < (l1.length : Int)) = true := eT_ c8; clear c8; have H' := Z_ H; clear H; have p233 : 0 ≤ (x11_1 : Int) := dT_ (by first | (with_reducible assumption) | assumption); have q233 : x11_1 < (l0_1.length : Int) := dT_ (by first | (with_reducible assumption) | assumption); obtain ⟨ad233, e233, hx233_0, hx233_1, hx233_2⟩ := at_T39 HR0_1.out x11_1 p233 q233; cases e233
       replace hx233_0 := (HB.out.cell (World.block_lt_of_cell? w _ hx233_0)).trans hx233_0; replace hx233_1 := (HB.out.cell (World.block_lt_of_cell? w _ hx233_1)).trans hx233_1; replace hx233_2 := (HB.out.cell (World.block_lt_of_cell? w _ hx233_2)).trans hx233_2; replace p233 := eq_true p233; replace q233 := eq_true q233; go_wp2_with (first | ((with_reducible refine gate_dst (N := 7) rfl ?_); refine box_event ?hg (N := 7) ?hd (cs := #[.int .i64 0, .int .i64 0, .int .i64 0]) (t := 39) ?hr ?_; (case hd => rfl); (case hg => rfl); (case hr => first | (go_simp; done) | (go_simp; rfl)); intro gb234 hg w9 hbox hb; have BK234 := Z_ (hbox); have GW234 := Z_ ((by rw [hg]; exact (fZ_ HB.out) : w.heap.size ≤ gb234)); have GE234 := Z_ ((by rw [hg]; exact (fZ_ HB.out) : w.heap.size ≤ gb234)); replace HB := Z_ (fS_ HB.out hb); have NB232_234 := Z_ ((by rw [hg]; exact Nat.ne_of_lt (blk_lt (g := gb232) (o := .cells #[.int .i64 a0_0, .slice (some ad233) l0_1.length c0_1] 24 (0, 0)) BK232.out) : gb232 ≠ gb234)); have NB234_232 := Z_ ((by rw [hg]; exact Nat.ne_of_gt (blk_lt (g := gb232) (o := .cells #[.int .i64 a0_0, .slice (some ad233) l0_1.length c0_1] 24 (0, 0)) BK232.out) : gb234 ≠ gb232)); replace BK232 := Z_ (bB_ (g := gb232) (o := .cells #[.int .i64 a0_0, .slice (some ad233) l0_1.length c0_1] 24 (0, 0)) BK232.out hb); clear hb hbox hg; have hnb10 := NB234_232.out; have hnc10 := NB232_234.out; have hcz11_0 : w9.cell? ⟨gb234, 0, none⟩ = some (.int .i64 0) := (bC_ BK234.out 0).trans rfl; have hcz11_1 : w9.cell? ⟨gb234, 1, none⟩ = some (.int .i64 0) := (bC_ BK234.out 1).trans rfl; have hcz11_2 : w9.cell? ⟨gb234, 2, none⟩ = some (.int .i64 0) := (bC_ BK234.out 2).trans rfl; have hfz11_0 := bF_ BK234.out 0; have hfz11_1 := bF_ BK234.out 1; have hfz11_2 := bF_ BK234.out 2; have p235 : 0 ≤ (x11_1 : Int) := dT_ (by first | (with_reducible assumption) | assumption); have q235 : x11_1 < (l1.length : Int) := dT_ (by first | (with_reducible assumption) | assumption); obtain ⟨ad235, e235, hx235_0⟩ := Kd.at_int HR1.out x11_1 p235 q235; cases e235; have hn235_0 : ad235.block ≠ gb234 := Nat.ne_of_lt (Nat.lt_of_lt_of_le (by have := World.block_lt_of_cell? _ _ hx235_0; first | rwa [add_block] at this | exact this) GW234.out); have hn235_1 : ad235.block ≠ gb234 := Nat.ne_of_lt (Nat.lt_of_lt_of_le (by have := World.block_lt_of_cell? _ _ hx235_0; first | rwa [add_block] at this | exact this) GW234.out); have hn235_2 : ad235.block ≠ gb234 := Nat.ne_of_lt (Nat.lt_of_lt_of_le (by have := World.block_lt_of_cell? _ _ hx235_0; first | rwa [add_block] at this | exact this) GW234.out); replace hx235_0 := (HB.out.cell (World.block_lt_of_cell? w _ hx235_0)).trans hx235_0; replace hx235_0 := (cell_far (p := ⟨gb234, 0, none⟩) (by first | (rw [add_block]; exact hn235_0) | (show (Addr.add _ _).block ≠ _; rw [add_block]; exact hn235_0) | exact hn235_0) (.int .i64 ((rd_T39 l0_1 x11_1).f0))).trans hx235_0; replace hx235_0 := (cell_far (p := ⟨gb234, 1, none⟩) (by first | (rw [add_block]; exact hn235_1) | (show (Addr.add _ _).block ≠ _; rw [add_block]; exact hn235_1) | exact hn235_1) (.int .i64 ((rd_T39 l0_1 x11_1).f1))).trans hx235_0; replace hx235_0 := (cell_far (p := ⟨gb234, 2, none⟩) (by first | (rw [add_block]; exact hn235_2) | (show (Addr.add _ _).block ≠ _; rw [add_block]; exact hn235_2) | exact hn235_2) (.int .i64 ((rd_T39 l0_1 x11_1).f2))).trans hx235_0; (try have hy235_0 := fun (n_ : Nat) => (show (((((w9.drewN n_).setCell ⟨gb234, 0, none⟩ (.int .i64 ((rd_T39 l0_1 x11_1).f0))).setCell ⟨gb234, 1, none⟩ (.int .i64 ((rd_T39 l0_1 x11_1).f1))).setCell ⟨gb234, 2, none⟩ (.int .i64 ((rd_T39 l0_1 x11_1).f2)))).cell? _ = some _ from hx235_0)); clear hn235_0; clear hn235_1; clear hn235_2; replace p235 := eq_true p235; replace q235 := eq_true q235)); repeat (go_quiet (first | ((with_reducible refine gate_dst (N := 7) rfl ?_); refine box_event ?hg (N := 7) ?hd (cs := #[.int .i64 0, .int .i64 0, .int .i64 0]) (t := 39) ?hr ?_; (case hd => rfl); (case hg => rfl); (case hr => first | (go_simp; done) | (go_simp; rfl)); intro gb234 hg w9 hbox hb; have BK234 := Z_ (hbox); have GW234 := Z_ ((by rw [hg]; exact (fZ_ HB.out) : w.heap.size ≤ gb234)); have GE234 := Z_ ((by rw [hg]; exact (fZ_ HB.out) : w.heap.size ≤ gb234)); replace HB := Z_ (fS_ HB.out hb); have NB232_234 := Z_ ((by rw [hg]; exact Nat.ne_of_lt (blk_lt (g := gb232) (o := .cells #[.int .i64 a0_0, .slice (some ad233) l0_1.length c0_1] 24 (0, 0)) BK232.out) : gb232 ≠ gb234)); have NB234_232 := Z_ ((by rw [hg]; exact Nat.ne_of_gt (blk_lt (g := gb232) (o := .cells #[.int .i64 a0_0, .slice (some ad233) l0_1.length c0_1] 24 (0, 0)) BK232.out) : gb234 ≠ gb232)); replace BK232 := Z_ (bB_ (g := gb232) (o := .cells #[.int .i64 a0_0, .slice (some ad233) l0_1.length c0_1] 24 (0, 0)) BK232.out hb); clear hb hbox hg; have hnb10 := NB234_232.out; have hnc10 := NB232_234.out; have hcz11_0 : w9.cell? ⟨gb234, 0, none⟩ = some (.int .i64 0) := (bC_ BK234.out 0).trans rfl; have hcz11_1 : w9.cell? ⟨gb234, 1, none⟩ = some (.int .i64 0) := (bC_ BK234.out 1).trans rfl; have hcz11_2 : w9.cell? ⟨gb234, 2, none⟩ = some (.int .i64 0) := (bC_ BK234.out 2).trans rfl; have hfz11_0 := bF_ BK234.out 0; have hfz11_1 := bF_ BK234.out 1; have hfz11_2 := bF_ BK234.out 2; have p235 : 0 ≤ (x11_1 : Int) := dT_ (by first | (with_reducible assumption) | assumption); have q235 : x11_1 < (l1.length : Int) := dT_ (by first | (with_reducible assumption) | assumption); obtain ⟨ad235, e235, hx235_0⟩ := Kd.at_int HR1.out x11_1 p235 q235; cases e235; have hn235_0 : ad235.block ≠ gb234 := Nat.ne_of_lt (Nat.lt_of_lt_of_le (by have := World.block_lt_of_cell? _ _ hx235_0; first | rwa [add_block] at this | exact this) GW234.out); have hn235_1 : ad235.block ≠ gb234 := Nat.ne_of_lt (Nat.lt_of_lt_of_le (by have := World.block_lt_of_cell? _ _ hx235_0; first | rwa [add_block] at this | exact this) GW234.out); have hn235_2 : ad235.block ≠ gb234 := Nat.ne_of_lt (Nat.lt_of_lt_of_le (by have := World.block_lt_of_cell? _ _ hx235_0; first | rwa [add_block] at this | exact this) GW234.out); replace hx235_0 := (HB.out.cell (World.block_lt_of_cell? w _ hx235_0)).trans hx235_0; replace hx235_0 := (cell_far (p := ⟨gb234, 0, none⟩) (by first | (rw [add_block]; exact hn235_0) | (show (Addr.add _ _).block ≠ _; rw [add_block]; exact hn235_0) | exact hn235_0) (.int .i64 ((rd_T39 l0_1 x11_1).f0))).trans hx235_0; replace hx235_0 := (cell_far (p := ⟨gb234, 1, none⟩) (by first | (rw [add_block]; exact hn235_1) | (show (Addr.add _ _).block ≠ _; rw [add_block]; exact hn235_1) | exact hn235_1) (.int .i64 ((rd_T39 l0_1 x11_1).f1))).trans hx235_0; replace hx235_0 := (cell_far (p := ⟨gb234, 2, none⟩) (by first | (rw [add_block]; exact hn235_2) | (show (Addr.add _ _).block ≠ _; rw [add_block]; exact hn235_2) | exact hn235_2) (.int .i64 ((rd_T39 l0_1 x11_1).f2))).trans hx235_0; (try have hy235_0 := fun (n_ : Nat) => (show (((((w9.drewN n_).setCell ⟨gb234, 0, none⟩ (.int .i64 ((rd_T39 l0_1 x11_1).f0))).setCell ⟨gb234, 1, none⟩ (.int .i64 ((rd_T39 l0_1 x11_1).f1))).setCell ⟨gb234, 2, none⟩ (.int .i64 ((rd_T39 l0_1 x11_1).f2)))).cell? _ = some _ from hx235_0)); clear hn235_0; clear hn235_1; clear hn235_2; replace p235 := eq_true p235; replace q235 := eq_true q235)); try go_wp2_with (first | ((with_reducible refine gate_dst (N := 7) rfl ?_); refine box_event ?hg (N := 7) ?hd (cs := #[.int .i64 0, .int .i64 0, .int .i64 0]) (t := 39) ?hr ?_; (case hd => rfl); (case hg => rfl); (case hr => first | (go_simp; done) | (go_simp; rfl)); intro gb234 hg w9 hbox hb; have BK234 := Z_ (hbox); have GW234 := Z_ ((by rw [hg]; exact (fZ_ HB.out) : w.heap.size ≤ gb234)); have GE234 := Z_ ((by rw [hg]; exact (fZ_ HB.out) : w.heap.size ≤ gb234)); replace HB := Z_ (fS_ HB.out hb); have NB232_234 := Z_ ((by rw [hg]; exact Nat.ne_of_lt (blk_lt (g := gb232) (o := .cells #[.int .i64 a0_0, .slice (some ad233) l0_1.length c0_1] 24 (0, 0)) BK232.out) : gb232 ≠ gb234)); have NB234_232 := Z_ ((by rw [hg]; exact Nat.ne_of_gt (blk_lt (g := gb232) (o := .cells #[.int .i64 a0_0, .slice (some ad233) l0_1.length c0_1] 24 (0, 0)) BK232.out) : gb234 ≠ gb232)); replace BK232 := Z_ (bB_ (g := gb232) (o := .cells #[.int .i64 a0_0, .slice (some ad233) l0_1.length c0_1] 24 (0, 0)) BK232.out hb); clear hb hbox hg; have hnb10 := NB234_232.out; have hnc10 := NB232_234.out; have hcz11_0 : w9.cell? ⟨gb234, 0, none⟩ = some (.int .i64 0) := (bC_ BK234.out 0).trans rfl; have hcz11_1 : w9.cell? ⟨gb234, 1, none⟩ = some (.int .i64 0) := (bC_ BK234.out 1).trans rfl; have hcz11_2 : w9.cell? ⟨gb234, 2, none⟩ = some (.int .i64 0) := (bC_ BK234.out 2).trans rfl; have hfz11_0 := bF_ BK234.out 0; have hfz11_1 := bF_ BK234.out 1; have hfz11_2 := bF_ BK234.out 2; have p235 : 0 ≤ (x11_1 : Int) := dT_ (by first | (with_reducible assumption) | assumption); have q235 : x11_1 < (l1.length : Int) := dT_ (by first | (with_reducible assumption) | assumption); obtain ⟨ad235, e235, hx235_0⟩ := Kd.at_int HR1.out x11_1 p235 q235; cases e235; have hn235_0 : ad235.block ≠ gb234 := Nat.ne_of_lt (Nat.lt_of_lt_of_le (by have := World.block_lt_of_cell? _ _ hx235_0; first | rwa [add_block] at this | exact this) GW234.out); have hn235_1 : ad235.block ≠ gb234 := Nat.ne_of_lt (Nat.lt_of_lt_of_le (by have := World.block_lt_of_cell? _ _ hx235_0; first | rwa [add_block] at this | exact this) GW234.out); have hn235_2 : ad235.block ≠ gb234 := Nat.ne_of_lt (Nat.lt_of_lt_of_le (by have := World.block_lt_of_cell? _ _ hx235_0; first | rwa [add_block] at this | exact this) GW234.out); replace hx235_0 := (HB.out.cell (World.block_lt_of_cell? w _ hx235_0)).trans hx235_0; replace hx235_0 := (cell_far (p := ⟨gb234, 0, none⟩) (by first | (rw [add_block]; exact hn235_0) | (show (Addr.add _ _).block ≠ _; rw [add_block]; exact hn235_0) | exact hn235_0) (.int .i64 ((rd_T39 l0_1 x11_1).f0))).trans hx235_0; replace hx235_0 := (cell_far (p := ⟨gb234, 1, none⟩) (by first | (rw [add_block]; exact hn235_1) | (show (Addr.add _ _).block ≠ _; rw [add_block]; exact hn235_1) | exact hn235_1) (.int .i64 ((rd_T39 l0_1 x11_1).f1))).trans hx235_0; replace hx235_0 := (cell_far (p := ⟨gb234, 2, none⟩) (by first | (rw [add_block]; exact hn235_2) | (show (Addr.add _ _).block ≠ _; rw [add_block]; exact hn235_2) | exact hn235_2) (.int .i64 ((rd_T39 l0_1 x11_1).f2))).trans hx235_0; (try have hy235_0 := fun (n_ : Nat) => (show (((((w9.drewN n_).setCell ⟨gb234, 0, none⟩ (.int .i64 ((rd_T39 l0_1 x11_1).f0))).setCell ⟨gb234, 1, none⟩ (.int .i64 ((rd_T39 l0_1 x11_1).f1))).setCell ⟨gb234, 2, none⟩ (.int .i64 ((rd_T39 l0_1 x11_1).f2)))).cell? _ = some _ from hx235_0)); clear hn235_0; clear hn235_1; clear hn235_2; replace p235 := eq_true p235; replace q235 := eq_true q235)))
       go_roundg k1
       case measure => have := HK1.out; omega
       case rel => exact ⟨(wrap64 (x5_1 + (wrap64 ((rd l1 x11_1) * ((rd_T39 l0_1 x11_1).f2))))), (wrap64 (x11_1 + 1)), (by first | rfl | (simp; done) | (simp [*]; done)), (by first | rfl | (simp; done) | (simp [*]; done)), H', ⟨by have := HK1.out; omega⟩, ⟨by (with_reducible repeat (first | refine bN_ ?_ _ | refine bD_ ?_)); refine blk_far ?_ NB232_234.out _; (with_reducible repeat (first | refine bN_ ?_ _ | refine bD_ ?_)); refine blk_far ?_ NB232_234.out _; (with_reducible repeat (first | refine bN_ ?_ _ | refine bD_ ?_)); refine blk_far ?_ NB232_234.out _; (with_reducible repeat (first | refine bN_ ?_ _ | refine bD_ ?_)); exact BK232.out⟩, ⟨by repeat (first | (with_reducible first | exact HB.out | apply fA_ | apply pB_ | apply fD_ | refine fE_ ?_ GE232.out | refine fE_ ?_ GE234.out) | exact HB.out)⟩⟩
      rw [if_neg c8] at H; exact absurd H (by simp)
     rw [if_neg c7] at H; exact absurd H (by simp)
    rw [if_neg c6] at H; exact absurd H (by simp)
   rw [if_neg c5] at H; have c5b0 : decide (x11_1 < (l0_1.length : Int)) = false := eF_ c5; clear c5; obtain rfl := oI_ H; go_wp2; repeat (go_quiet (fail); try go_wp2)
   go_ret; exact ⟨by first | rfl | (simp [errW_none, errW_some] <;> rfl) | (simp [*, errW_none, errW_some] <;> rfl), HB.out⟩
end Go.Proofs.Ytpolojoeabmhdaa.A
