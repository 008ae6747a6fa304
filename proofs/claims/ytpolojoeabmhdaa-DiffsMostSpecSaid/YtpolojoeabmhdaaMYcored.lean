import Derived.Test.YtpolojoeabmhdaaMYcoreb
import Derived.Test.YtpolojoeabmhdaaMYcorec
import Derived.StillTailTactics
set_option linter.unusedVariables false
set_option linter.unusedSimpArgs false
/- step: as much as possible along one shortest walk. -/
namespace Go.Proofs.Ytpolojoeabmhdaa.A
open Go.RowKit Go.Proofs.YtpolojoeabmhdaaW.PrintWords Go.Proofs.YtpolojoeabmhdaaW.PrintLast Go.Proofs.YtpolojoeabmhdaaW.PrintMore
attribute [local go_sem] max2_int min2_int max_two min_two max_three min_three max_four min_four
section
variable {P : Program} {ops : Array Oper} {Q : Exit -> Act -> World -> Prop}
/-- A struct is stored into its own block. -/
theorem store_box {rest : List Oper} {o : Oper} {a : Act} {W : World} (hgd : o.guard = none) (hd : o.dst = none) (t : TypeId) (p x : Operand) (ho : o.op = .store t p x) (seg : List Value) (hinfo : (P.info? t).map (·.size) = some seg.length)
  (g : Nat) (haddr : a.eval p = .pointer (some ⟨g, 0, none⟩)) (u : Value) (hx : a.eval x = u) (hu : u.cells.toList = seg) (h1 : ∀ q ∈ seg, q.oneCell' = true) (cs : Array Value) (hb : W.heap[g]? = some (.cells cs t (0, 0))) (hcs : cs.size = seg.length)
  (h : ∀ w1, w1.heap[g]? = some (.cells seg.toArray t (0, 0)) -> W.grownBy w1 (some g) -> wpList P ops Q rest a w1) : wpList P ops Q (o :: rest) a W := by
 have hrun := run_store_run (P := P) (w := W) (g := g) (o := 0) (e := t) (cur := cs) t u seg hb hu hinfo (by omega) h1; obtain ⟨cur', h3, h4, h5⟩ := setCells_row seg 0 W cs hb (by omega); obtain ⟨s1, s2, s3, s4⟩ := setCells_same g seg 0 W
 have e : cur' = seg.toArray := by
  apply Array.ext'; rw [h5]; have : cs.toList.drop seg.length = [] := List.drop_eq_nil_of_le (by simp [hcs]); simp [this]
 subst e; refine wpList_plain hgd fun K hK => ?_
 unfold Oper.wp execOp; simp only [ho, Sem.run_bind, haddr, hx, hrun, Result.andThen_ok, Sem.run_pure, mT_, mC_, mN_]; have h' := h _ h3 ⟨s1, s2, s3, by rw [s4]; exact nR_ _, fun k _ hk => setCells_far _ _ k (fun he => hk (by rw [he]))⟩; refine hK _ _ ?_; simpa [hd, Act.put] using h'
end
/-- Two values lie in blocks of their own. -/
def Dj (u v : Value) : Prop := ∀ k, u.ownBlock = some k -> v.ownBlock ≠ some k
theorem Dj.symm {u v : Value} (h : Dj u v) : Dj v u := fun k hk e => h k e hk
theorem Dj.fresh {α β : Type} {d : Kd α} {d' : Kd β} {e e' base base' : Nat} {ok ok' : Nat -> Prop} {w w1 : World} {u v : Value} {xs : List α} {ys : List β} (hu : d.R e w base ok u xs) (hv : d'.R e' w1 base' ok' v ys) (hb : w.heap.size <= base') : Dj u v := fun k hk hv2 => by
 have := Kd.R_lt hu k hk; have := Kd.R_base hv k hv2; omega
def pathL (L : List S39) (last : List Int) : Nat -> Int -> List Int -> Option (List Int × Int)
 | 0, _, _ => none
 | k + 1, v, acc => if 0 <= v /\ v < last.length then
   (if rd last v >= 0 then (if rd last v < L.length /\ acc.length < 65536 then pathL L last k (rT39 L (rd last v)).f0 (acc ++ [rd last v]) else none) else some (acc, v)) else none
def muchL (nd : Int) (flow U : List Int) : List Int -> Int -> Option Int
 | [], m => some m
 | k :: ks, m => if k >= nd then (if (0 <= wrap64 (k - nd) /\ wrap64 (k - nd) < U.length) /\ 0 <= rd U (wrap64 (k - nd)) /\ rd U (wrap64 (k - nd)) < flow.length then muchL nd flow U ks (min m (rd flow (rd U (wrap64 (k - nd))))) else none) else muchL nd flow U ks m
def applyL (nd : Int) (U : List Int) (much : Int) : List Int -> List Int -> Option (List Int)
 | [], flow => some flow
 | k :: ks, flow => if k >= nd then (if (0 <= wrap64 (k - nd) /\ wrap64 (k - nd) < U.length) /\ 0 <= rd U (wrap64 (k - nd)) /\ rd U (wrap64 (k - nd)) < flow.length then applyL nd U much ks (flow.set (rd U (wrap64 (k - nd))).toNat (wrap64 (rd flow (rd U (wrap64 (k - nd))) - much))) else none)
   else (if 0 <= k /\ k < flow.length then applyL nd U much ks (flow.set k.toNat (wrap64 (rd flow k + much))) else none)
def much1 (want : List Int) (tg : Int) : Int := if tg = 0 then 1152921504606846976 else rd want tg
def much2 (want : List Int) (tg v : Int) : Int := if v = 0 then much1 want tg else min (much1 want tg) (wrap64 (-(rd want v)))
def want1 (want : List Int) (tg m : Int) : List Int := if tg = 0 then want else want.set tg.toNat (wrap64 (rd want tg - m))
def want2 (want : List Int) (tg v m : Int) : List Int := if v = 0 then want1 want tg m else (want1 want tg m).set v.toNat (wrap64 (rd (want1 want tg m) v + m))
def stepL (k : Nat) (n0 : Int) (diffs : List S39) (flow want : List Int) (tg : Int) (givers : List Int) : Option (Bool × List Int × List Int) :=
 (d_grow.f k n0 (linesL diffs flow) givers).bind fun t =>
  if 0 <= tg /\ tg < t.2.1.length /\ tg < want.length then
   (if rdOf false t.2.1 tg = false then some (false, flow, want)
   else (pathL (linesL diffs flow) t.2.2.1 k tg []).bind fun p =>
    if p.2 < want.length then
     (muchL (diffs.length : Int) flow (usedL flow 0) p.1 (much2 want tg p.2)).bind fun m =>
      (applyL (diffs.length : Int) (usedL flow 0) m p.1 flow).bind fun flow' => some (true, flow', want2 want tg p.2 m)
    else none)
  else none
/-- What step holds in the memory, behind the growing. -/
structure St (g g9 : Nat) (C1 C9 : Array Value) (vF vW vL vU vA : Value) (L : List S39) (U la : List Int) (w0 : World) (flow want : List Int) (W : World) : Prop where
 bu : W.heap[g]? = some (.cells C1 96 (0, 0))
 bt : W.heap[g9]? = some (.cells C9 88 (0, 0))
 rf : Kd.R (Kd.int .i64) 3 W w0.heap.size (fun _ => True) vF flow
 rw : Kd.R (Kd.int .i64) 3 W w0.heap.size (fun _ => True) vW want
 rl : Kd.R k39 39 W w0.heap.size (fun _ => True) vL L
 ru : Kd.R (Kd.int .i64) 3 W w0.heap.size (fun _ => True) vU U
 ra : Kd.R (Kd.int .i64) 3 W w0.heap.size (fun _ => True) vA la
 hb : Below w0.heap.size w0 W
/-- A block that is none of these. -/
structure Away (g g9 : Nat) (vF vW vL vU vA : Value) (w0 : World) (k : Nat) : Prop where
 g : k ≠ g
 g9 : k ≠ g9
 f : vF.ownBlock ≠ some k
 w : vW.ownBlock ≠ some k
 l : vL.ownBlock ≠ some k
 u : vU.ownBlock ≠ some k
 a : vA.ownBlock ≠ some k
 b : w0.heap.size <= k
section
variable {g g9 : Nat} {C1 C9 : Array Value} {vF vW vL vU vA : Value} {L : List S39} {U la flow want : List Int} {w0 W W1 : World}
theorem St.away (h : St g g9 C1 C9 vF vW vL vU vA L U la w0 flow want W) {k : Nat} (hk : W.heap.size <= k) : Away g g9 vF vW vL vU vA w0 k :=
 ⟨fun e => by have := blk_lt h.bu; omega, fun e => by have := blk_lt h.bt; omega, fun e => by have := Kd.R_lt h.rf k e; omega, fun e => by have := Kd.R_lt h.rw k e; omega, fun e => by have := Kd.R_lt h.rl k e; omega, fun e => by have := Kd.R_lt h.ru k e; omega, fun e => by have := Kd.R_lt h.ra k e; omega, Nat.le_trans h.hb.size hk⟩
theorem St.grown (h : St g g9 C1 C9 vF vW vL vU vA L U la w0 flow want W) {row : Option Nat} (hg : W.grownBy W1 row) (ha : ∀ k, row = some k -> Away g g9 vF vW vL vU vA w0 k) : St g g9 C1 C9 vF vW vL vU vA L U la w0 flow want W1 :=
 ⟨blk_grown h.bu hg (fun e => (ha _ e.symm).g rfl), blk_grown h.bt hg (fun e => (ha _ e.symm).g9 rfl), Kd.R_grown2 h.rf rfl hg (fun k e e2 => (ha k e).f e2.symm), Kd.R_grown2 h.rw rfl hg (fun k e e2 => (ha k e).w e2.symm), Kd.R_grown2 h.rl rfl hg (fun k e e2 => (ha k e).l e2.symm), Kd.R_grown2 h.ru rfl hg (fun k e e2 => (ha k e).u e2.symm), Kd.R_grown2 h.ra rfl hg (fun k e e2 => (ha k e).a e2.symm), h.hb.grown hg h.hb.size (fun k e => (ha k e).b)⟩
theorem St.below (h : St g g9 C1 C9 vF vW vL vU vA L U la w0 flow want W) (hb : Below W.heap.size W W1) : St g g9 C1 C9 vF vW vL vU vA L U la w0 flow want W1 := h.grown (grown_of_below hb none) (fun _ e => by cases e)
/-- The flow is written in place. -/
theorem St.setF (h : St g g9 C1 C9 vF vW vL vU vA L U la w0 flow want W) {flow' : List Int} {k : Nat} (hk : vF.ownBlock = some k) (hg : W.grownBy W1 (some k)) (hr : Kd.R (Kd.int .i64) 3 W1 w0.heap.size (fun _ => True) vF flow') (h1 : k ≠ g) (h2 : k ≠ g9) (h3 : vW.ownBlock ≠ some k) (h4 : vL.ownBlock ≠ some k) (h5 : vU.ownBlock ≠ some k) (h6 : vA.ownBlock ≠ some k) : St g g9 C1 C9 vF vW vL vU vA L U la w0 flow' want W1 :=
 ⟨blk_grown h.bu hg (fun e => h1 (oI_ e).symm), blk_grown h.bt hg (fun e => h2 (oI_ e).symm), hr, Kd.R_grown2 h.rw rfl hg (fun k' e e2 => h3 (by rw [<- e2, e])), Kd.R_grown2 h.rl rfl hg (fun k' e e2 => h4 (by rw [<- e2, e])), Kd.R_grown2 h.ru rfl hg (fun k' e e2 => h5 (by rw [<- e2, e])), Kd.R_grown2 h.ra rfl hg (fun k' e e2 => h6 (by rw [<- e2, e])), h.hb.grown hg h.hb.size (fun k' e => by cases e; exact Kd.R_base h.rf k hk)⟩
theorem St.setW (h : St g g9 C1 C9 vF vW vL vU vA L U la w0 flow want W) {want' : List Int} {k : Nat} (hk : vW.ownBlock = some k) (hg : W.grownBy W1 (some k)) (hr : Kd.R (Kd.int .i64) 3 W1 w0.heap.size (fun _ => True) vW want') (h1 : k ≠ g) (h2 : k ≠ g9) (h3 : vF.ownBlock ≠ some k) (h4 : vL.ownBlock ≠ some k) (h5 : vU.ownBlock ≠ some k) (h6 : vA.ownBlock ≠ some k) : St g g9 C1 C9 vF vW vL vU vA L U la w0 flow want' W1 :=
 ⟨blk_grown h.bu hg (fun e => h1 (oI_ e).symm), blk_grown h.bt hg (fun e => h2 (oI_ e).symm), Kd.R_grown2 h.rf rfl hg (fun k' e e2 => h3 (by rw [<- e2, e])), hr, Kd.R_grown2 h.rl rfl hg (fun k' e e2 => h4 (by rw [<- e2, e])), Kd.R_grown2 h.ru rfl hg (fun k' e e2 => h5 (by rw [<- e2, e])), Kd.R_grown2 h.ra rfl hg (fun k' e e2 => h6 (by rw [<- e2, e])), h.hb.grown hg h.hb.size (fun k' e => by cases e; exact Kd.R_base h.rw k hk)⟩
theorem grown_set (w : World) (a : Addr) (u : Value) : w.grownBy (w.setCell a u) (some a.block) :=
 ⟨rfl, rfl, rfl, Nat.le_of_eq (by simp), fun k _ h => Below.heap_setCell w a u k (fun e => h (by rw [e]))⟩
/-- One element of the flow is written. -/
theorem St.putF {gF n c : Nat} (h : St g g9 C1 C9 (.slice (some ⟨gF, 0, none⟩) n c) vW vL vU vA L U la w0 flow want W) (i x : Int) (d1 : Dj (.slice (some ⟨gF, 0, none⟩) n c) vW) (d2 : Dj (.slice (some ⟨gF, 0, none⟩) n c) vU) (d3 : Dj (.slice (some ⟨gF, 0, none⟩) n c) vA) : St g g9 C1 C9 (.slice (some ⟨gF, 0, none⟩) n c) vW vL vU vA L U la w0 (flow.set i.toNat x) want (W.setCell ⟨gF, i.toNat, none⟩ (.int .i64 x)) := by
 obtain ⟨rfl, _⟩ := rR_ h.rf; have hp := Kd.R_put h.rf i x; refine h.setF rfl hp.2 ?_ (fun e => Kd.R_ne h.rf h.bu (by decide) (by rw [<- e]; rfl)) (fun e => Kd.R_ne h.rf h.bt (by decide) (by rw [<- e]; rfl)) (d1 _ rfl) (fun e => ?_) (d2 _ rfl) (d3 _ rfl); ·exact hp.1
 obtain ⟨cells, hc⟩ := Kd.R_typed h.rf gF rfl; obtain ⟨cells', hc'⟩ := Kd.R_typed h.rl gF e; rw [hc] at hc'; simp at hc'
/-- One element of what is wanted is written. -/
theorem St.putW {gF n c : Nat} (h : St g g9 C1 C9 vF (.slice (some ⟨gF, 0, none⟩) n c) vL vU vA L U la w0 flow want W) (i x : Int) (d1 : Dj vF (.slice (some ⟨gF, 0, none⟩) n c)) (d2 : Dj (.slice (some ⟨gF, 0, none⟩) n c) vU) (d3 : Dj (.slice (some ⟨gF, 0, none⟩) n c) vA) : St g g9 C1 C9 vF (.slice (some ⟨gF, 0, none⟩) n c) vL vU vA L U la w0 flow (want.set i.toNat x) (W.setCell ⟨gF, i.toNat, none⟩ (.int .i64 x)) := by
 obtain ⟨rfl, _⟩ := rR_ h.rw; have hp := Kd.R_put h.rw i x; refine h.setW rfl hp.2 ?_ (fun e => Kd.R_ne h.rw h.bu (by decide) (by rw [<- e]; rfl)) (fun e => Kd.R_ne h.rw h.bt (by decide) (by rw [<- e]; rfl)) (d1.symm _ rfl) (fun e => ?_) (d2 _ rfl) (d3 _ rfl); ·exact hp.1
 obtain ⟨cells, hc⟩ := Kd.R_typed h.rw gF rfl; obtain ⟨cells', hc'⟩ := Kd.R_typed h.rl gF e; rw [hc] at hc'; simp at hc'
end
set_option maxHeartbeats 8000000
set_option maxRecDepth 100000
theorem use_step.calls (k : Nat) (g : Nat) (n0 : Int) (AD : Option Addr) (cD : Nat) (diffs : List S39) (vF vW : Value) (flow want : List Int) (tg : Int) (AG : Option Addr) (cG : Nat) (givers : List Int) (r1 : Bool) (r2 r3 : List Int) (w0 w : World)
  (hB : Below w0.heap.size w0 w) (hg : w0.heap.size <= g) (hb : w.heap[g]? = some (.cells #[.int .i64 n0, .slice AD diffs.length cD, vF, vW] 96 (0, 0)))
  (hD : Kd.C k39 w0 AD diffs.length diffs) (hcD : diffs.length <= cD) (hF : Kd.R (Kd.int .i64) 3 w w0.heap.size (fun _ => True) vF flow) (hW : Kd.R (Kd.int .i64) 3 w w0.heap.size (fun _ => True) vW want) (hne : Dj vF vW)
  (hG : Kd.C (Kd.int .i64) w AG givers.length givers) (hcG : givers.length <= cG) (hfd : flow.length = diffs.length) (hl : diffs.length <= 65536) (hm : ∀ d ∈ diffs, -4611686018427387904 <= d.f2 /\ d.f2 <= 4611686018427387904)
  (h : stepL k n0 diffs flow want tg givers = some (r1, r2, r3)) :
  Calls Try.prog 126 #[.pointer (some ⟨g, 0, none⟩), .int .i64 tg, .slice AG givers.length cG] w fun e w' => e = .returned (.bool r1) /\ w'.heap[g]? = some (.cells #[.int .i64 n0, .slice AD diffs.length cD, vF, vW] 96 (0, 0)) /\ Kd.R (Kd.int .i64) 3 w' w0.heap.size (fun _ => True) vF r2 /\ Kd.R (Kd.int .i64) 3 w' w0.heap.size (fun _ => True) vW r3 /\ Below w0.heap.size w0 w' := by
 unfold stepL at h; obtain ⟨⟨lo, ha, la, bad⟩, hgr, h⟩ := oS_.mp h; simp only at h; by_cases hto : 0 <= tg /\ tg < (ha.length : Int) /\ tg < (want.length : Int)
 case neg => rw [if_neg hto] at h; exact absurd h (by simp)
 rw [if_pos hto] at h; obtain ⟨AF, cF, rfl⟩ := own_slice (Kd.own_of_R hF); obtain ⟨AW, cW, rfl⟩ := own_slice (Kd.own_of_R hW); have HD := Z_ hD; have HCD := Z_ hcD; have HF := Z_ hF; have HW := Z_ hW; have DFW := Z_ hne; have HG := Z_ hG; have HCG := Z_ hcG; have HFD := Z_ hfd; have HL := Z_ hl; have HM := Z_ hm; have HGR := Z_ hgr; have HTO := Z_ hto; have HB := Z_ hB; have HGE := Z_ hg; have BU := Z_ hb; have HX := Z_ (Below.refl w.heap.size w); clear hB hg hb hD hcD hF hW hne hG hcG hfd hl hm hgr; by_cases hv : rdOf false ha tg = false
 .rw [if_pos hv] at h
  simp only [oJ_, pI_] at h; obtain ⟨rfl, rfl, rfl⟩ := h; have HV := Z_ hv; clear hv hto; go_enter Try.func126, Try.ntmps126
  go_wp2_with (first
   | ((with_reducible refine gate_callee (f := 130) rfl ?_); refine gL_ (some 19) Try.func130 #[.pointer (some ⟨g, 0, none⟩)] ?_; (refine (use_lines.calls g _ AD cD diffs _ AF cF flow _ BU.out (cB_ HD.out HB.out) HCD.out (rR_ HF.out).2.2 HFD.out HL.out HM.out).mono ?_); rintro e w1 ⟨vL, rfl, ho, hb⟩; refine ⟨_, rfl, ?_⟩; have HLI := Z_ ho; clear HX; have HX := Z_ hb; clear ho hb; (obtain ⟨AL, cL, rfl⟩ := (show ∃ A c, vL = .slice A (linesL diffs flow).length c from (by obtain ⟨A, c, e, _⟩ := Kd.R_reads HLI.out; exact ⟨A, c, e⟩))))
   | ((with_reducible refine gate_callee (f := 131) rfl ?_); refine gL_ (some 21) Try.func131 #[.pointer (some ⟨g, 0, none⟩)] ?_; (refine (use_used.calls g _ _ _ AF cF flow _ (bB_ BU.out HX.out) (cB_ (rR_ HF.out).2.2 HX.out) (by have := HL.out; have := HFD.out; omega)).mono ?_); rintro e w2 ⟨vU, rfl, ho2, hb2⟩; refine ⟨_, rfl, ?_⟩; have n0_ := Z_ (rB_ HLI.out hb2); have HU := Z_ (rL_ ho2 HX.out.size); have DFU := Z_ (Dj.fresh HF.out ho2 HX.out.size); have DWU := Z_ (Dj.fresh HW.out ho2 HX.out.size); have n1_ := Z_ (fS_ HX.out hb2); clear HX HLI ho2 hb2; have HX := n1_; have HLI := n0_; clear n0_ n1_; (obtain ⟨AU, cU, rfl⟩ := own_slice (Kd.own_of_R HU.out)))
   | ((with_reducible refine gate_callee (f := 82) rfl ?_); refine gL_ (some 26) Try.func82 #[.iface 91 (.pointer (some ⟨g, 0, none⟩)), .slice AG givers.length cG] ?_; (refine (d_grow.any k 91 _ n0 (linesL diffs flow) AG cG givers lo ha la bad _ (graph_use (bB_ BU.out HX.out) (cB_ (cB_ HD.out HB.out) HX.out) HCD.out (cB_ (rR_ HF.out).2.2 HX.out) HFD.out HL.out HM.out) (cB_ HG.out HX.out) HCG.out HGR.out).mono ?_); rintro e w3 ⟨vlo, vha, vla, rfl, ho1, ho2, ho3, hb3⟩; refine ⟨_, rfl, ?_⟩; have VLO := Z_ (show ∃ A n c, vlo = Value.slice A n c from (by obtain ⟨A, c, e, _⟩ := Kd.R_reads ho1; exact ⟨A, _, c, e⟩)); have DFA := Z_ (Dj.fresh HF.out ho3 HX.out.size); have DWA := Z_ (Dj.fresh HW.out ho3 HX.out.size); have DUA := Z_ (Dj.fresh HU.out ho3 (nR_ _)); have n0_ := Z_ (rB_ HLI.out hb3); have n1_ := Z_ (rB_ HU.out hb3); have HHA := Z_ (rL_ (rM_ ho2 (fun _ _ => trivial)) HX.out.size); have HLA := Z_ (rL_ (rM_ ho3 (fun _ _ => trivial)) HX.out.size); have n2_ := Z_ (fS_ HX.out hb3); clear HX HLI HU ho1 ho2 ho3 hb3; have HX := n2_; have HLI := n0_; have HU := n1_; clear n0_ n1_ n2_; (obtain ⟨AH, cH, rfl⟩ := (show ∃ A c, vha = .slice A ha.length c from (by obtain ⟨A, c, e, _⟩ := Kd.R_reads HHA.out; exact ⟨A, c, e⟩))); (obtain ⟨AA, cA, rfl⟩ := (show ∃ A c, vla = .slice A la.length c from (by obtain ⟨A, c, e, _⟩ := Kd.R_reads HLA.out; exact ⟨A, c, e⟩))))
   | ((with_reducible refine gate_dst (N := 9) rfl ?_); refine bX_ 9 #[.slice none 0 0, .slice none 0 0, .slice none 0 0] 88 ?_; intro g9 hg9 w4 hbox hb4; have n0_ := Z_ (rB_ HLI.out hb4); have n1_ := Z_ (rB_ HU.out hb4); have n3_ := Z_ (rB_ HLA.out hb4); have n4_ := Z_ (rB_ HHA.out hb4); have n2_ := Z_ (fS_ HX.out hb4); have BT := Z_ hbox; have NG := Z_ (show w.heap.size <= g9 /\ (∀ k, (Value.slice AL (linesL diffs flow).length cL).ownBlock = some k -> k ≠ g9) /\ (∀ k, (Value.slice AU (usedL flow 0).length cU).ownBlock = some k -> k ≠ g9) /\ (∀ k, (Value.slice AA la.length cA).ownBlock = some k -> k ≠ g9) /\ (∀ k, (Value.slice AH ha.length cH).ownBlock = some k -> k ≠ g9) from ⟨by rw [hg9]; exact HX.out.size, fun k e => by have := Kd.R_lt HLI.out k e; omega, fun k e => by have := Kd.R_lt HU.out k e; omega, fun k e => by have := Kd.R_lt HLA.out k e; omega, fun k e => by have := Kd.R_lt HHA.out k e; omega⟩); clear HX HLI HU HLA HHA hb4 hbox hg9; have HX := n2_; have HLI := n0_; have HU := n1_; have HLA := n3_; have HHA := n4_; clear n0_ n1_ n2_ n3_ n4_)
   | (refine gate_store (t := 88) (p := 9) (v := .tmp 27) rfl ?_; refine store_box rfl rfl 88 (.tmp 9) (.tmp 27) rfl [vlo, .slice AH ha.length cH, .slice AA la.length cA] (by rfl) g9 rfl _ rfl (by have := VLO.out; obtain ⟨Ao, no, co, rfl⟩ := this; rfl) (by intro q hq; simp only [List.mem_cons, List.not_mem_nil, or_false] at hq; obtain ⟨Ao, no, co, e⟩ := VLO.out; rcases hq with rfl | rfl | rfl; (subst e; rfl); rfl; rfl) _ BT.out rfl ?_; intro w5 hb5 hg5; have HS := Z_ (St.mk (vF := .slice AF flow.length cF) (vW := .slice AW want.length cW) (blk_grown (bB_ BU.out HX.out) hg5 (fun e => by have := blk_lt BU.out; have := NG.out.1; have := oI_ e; omega)) hb5 (Kd.R_grown2 (rB_ HF.out HX.out) rfl hg5 (fun k e e2 => by have := Kd.R_lt HF.out k e2.symm; have := NG.out.1; have := oI_ e; omega)) (Kd.R_grown2 (rB_ HW.out HX.out) rfl hg5 (fun k e e2 => by have := Kd.R_lt HW.out k e2.symm; have := NG.out.1; have := oI_ e; omega)) (rL_ (Kd.R_grown2 HLI.out rfl hg5 (fun k e e2 => NG.out.2.1 k e2.symm (oI_ e).symm)) HB.out.size) (rL_ (Kd.R_grown2 HU.out rfl hg5 (fun k e e2 => NG.out.2.2.1 k e2.symm (oI_ e).symm)) HB.out.size) (rL_ (Kd.R_grown2 HLA.out rfl hg5 (fun k e e2 => NG.out.2.2.2.1 k e2.symm (oI_ e).symm)) HB.out.size) ((fS_ HB.out HX.out).grown hg5 (Nat.le_trans HB.out.size HX.out.size) (fun k e => by have := NG.out.1; have := HB.out.size; have := oI_ e; omega))); have HA5 := Z_ (Kd.R_grown2 HHA.out rfl hg5 (fun k e e2 => NG.out.2.2.2.2 k e2.symm (oI_ e).symm)); have hz0 : w5.cell? ⟨g9, 1, none⟩ = some (.slice AH ha.length cH) := (bC_ hb5 1).trans rfl; clear BT hb5 hg5; (obtain ⟨adh, eh, hx0⟩ := Kd.at_bool (rR_ HA5.out).2.2 tg HTO.out.1 HTO.out.2.1); cases eh; rw [HV.out] at hx0; have p0 := HTO.out.1; have p1 := HTO.out.2.1))
  go_ret; exact ⟨rfl, HS.out.bu, HS.out.rf, HS.out.rw, HS.out.hb⟩
 rw [if_neg hv] at h; replace hv : rdOf false ha tg = true := by simpa using hv
 have HV := Z_ hv; obtain ⟨⟨pl, pv⟩, hp, h⟩ := oS_.mp h; simp only at h; have HP := Z_ hp; have HH := Z_ h; clear hv hto h hp; go_enter Try.func126, Try.ntmps126
 go_wp2_with (first
  | ((with_reducible refine gate_callee (f := 130) rfl ?_); refine gL_ (some 19) Try.func130 #[.pointer (some ⟨g, 0, none⟩)] ?_; (refine (use_lines.calls g _ AD cD diffs _ AF cF flow _ BU.out (cB_ HD.out HB.out) HCD.out (rR_ HF.out).2.2 HFD.out HL.out HM.out).mono ?_); rintro e w1 ⟨vL, rfl, ho, hb⟩; refine ⟨_, rfl, ?_⟩; have HLI := Z_ ho; clear HX; have HX := Z_ hb; clear ho hb; (obtain ⟨AL, cL, rfl⟩ := (show ∃ A c, vL = .slice A (linesL diffs flow).length c from (by obtain ⟨A, c, e, _⟩ := Kd.R_reads HLI.out; exact ⟨A, c, e⟩))))
  | ((with_reducible refine gate_callee (f := 131) rfl ?_); refine gL_ (some 21) Try.func131 #[.pointer (some ⟨g, 0, none⟩)] ?_; (refine (use_used.calls g _ _ _ AF cF flow _ (bB_ BU.out HX.out) (cB_ (rR_ HF.out).2.2 HX.out) (by have := HL.out; have := HFD.out; omega)).mono ?_); rintro e w2 ⟨vU, rfl, ho2, hb2⟩; refine ⟨_, rfl, ?_⟩; have n0_ := Z_ (rB_ HLI.out hb2); have HU := Z_ (rL_ ho2 HX.out.size); have DFU := Z_ (Dj.fresh HF.out ho2 HX.out.size); have DWU := Z_ (Dj.fresh HW.out ho2 HX.out.size); have n1_ := Z_ (fS_ HX.out hb2); clear HX HLI ho2 hb2; have HX := n1_; have HLI := n0_; clear n0_ n1_; (obtain ⟨AU, cU, rfl⟩ := own_slice (Kd.own_of_R HU.out)))
  | ((with_reducible refine gate_callee (f := 82) rfl ?_); refine gL_ (some 26) Try.func82 #[.iface 91 (.pointer (some ⟨g, 0, none⟩)), .slice AG givers.length cG] ?_; (refine (d_grow.any k 91 _ n0 (linesL diffs flow) AG cG givers lo ha la bad _ (graph_use (bB_ BU.out HX.out) (cB_ (cB_ HD.out HB.out) HX.out) HCD.out (cB_ (rR_ HF.out).2.2 HX.out) HFD.out HL.out HM.out) (cB_ HG.out HX.out) HCG.out HGR.out).mono ?_); rintro e w3 ⟨vlo, vha, vla, rfl, ho1, ho2, ho3, hb3⟩; refine ⟨_, rfl, ?_⟩; have VLO := Z_ (show ∃ A n c, vlo = Value.slice A n c from (by obtain ⟨A, c, e, _⟩ := Kd.R_reads ho1; exact ⟨A, _, c, e⟩)); have DFA := Z_ (Dj.fresh HF.out ho3 HX.out.size); have DWA := Z_ (Dj.fresh HW.out ho3 HX.out.size); have DUA := Z_ (Dj.fresh HU.out ho3 (nR_ _)); have n0_ := Z_ (rB_ HLI.out hb3); have n1_ := Z_ (rB_ HU.out hb3); have HHA := Z_ (rL_ (rM_ ho2 (fun _ _ => trivial)) HX.out.size); have HLA := Z_ (rL_ (rM_ ho3 (fun _ _ => trivial)) HX.out.size); have n2_ := Z_ (fS_ HX.out hb3); clear HX HLI HU ho1 ho2 ho3 hb3; have HX := n2_; have HLI := n0_; have HU := n1_; clear n0_ n1_ n2_; (obtain ⟨AH, cH, rfl⟩ := (show ∃ A c, vha = .slice A ha.length c from (by obtain ⟨A, c, e, _⟩ := Kd.R_reads HHA.out; exact ⟨A, c, e⟩))); (obtain ⟨AA, cA, rfl⟩ := (show ∃ A c, vla = .slice A la.length c from (by obtain ⟨A, c, e, _⟩ := Kd.R_reads HLA.out; exact ⟨A, c, e⟩))))
  | ((with_reducible refine gate_dst (N := 9) rfl ?_); refine bX_ 9 #[.slice none 0 0, .slice none 0 0, .slice none 0 0] 88 ?_; intro g9 hg9 w4 hbox hb4; have n0_ := Z_ (rB_ HLI.out hb4); have n1_ := Z_ (rB_ HU.out hb4); have n3_ := Z_ (rB_ HLA.out hb4); have n4_ := Z_ (rB_ HHA.out hb4); have n2_ := Z_ (fS_ HX.out hb4); have BT := Z_ hbox; have NG := Z_ (show w.heap.size <= g9 /\ (∀ k, (Value.slice AL (linesL diffs flow).length cL).ownBlock = some k -> k ≠ g9) /\ (∀ k, (Value.slice AU (usedL flow 0).length cU).ownBlock = some k -> k ≠ g9) /\ (∀ k, (Value.slice AA la.length cA).ownBlock = some k -> k ≠ g9) /\ (∀ k, (Value.slice AH ha.length cH).ownBlock = some k -> k ≠ g9) from ⟨by rw [hg9]; exact HX.out.size, fun k e => by have := Kd.R_lt HLI.out k e; omega, fun k e => by have := Kd.R_lt HU.out k e; omega, fun k e => by have := Kd.R_lt HLA.out k e; omega, fun k e => by have := Kd.R_lt HHA.out k e; omega⟩); clear HX HLI HU HLA HHA hb4 hbox hg9; have HX := n2_; have HLI := n0_; have HU := n1_; have HLA := n3_; have HHA := n4_; clear n0_ n1_ n2_ n3_ n4_)
  | (refine gate_store (t := 88) (p := 9) (v := .tmp 27) rfl ?_; refine store_box rfl rfl 88 (.tmp 9) (.tmp 27) rfl [vlo, .slice AH ha.length cH, .slice AA la.length cA] (by rfl) g9 rfl _ rfl (by have := VLO.out; obtain ⟨Ao, no, co, rfl⟩ := this; rfl) (by intro q hq; simp only [List.mem_cons, List.not_mem_nil, or_false] at hq; obtain ⟨Ao, no, co, e⟩ := VLO.out; rcases hq with rfl | rfl | rfl; (subst e; rfl); rfl; rfl) _ BT.out rfl ?_; intro w5 hb5 hg5; have HS := Z_ (St.mk (vF := .slice AF flow.length cF) (vW := .slice AW want.length cW) (blk_grown (bB_ BU.out HX.out) hg5 (fun e => by have := blk_lt BU.out; have := NG.out.1; have := oI_ e; omega)) hb5 (Kd.R_grown2 (rB_ HF.out HX.out) rfl hg5 (fun k e e2 => by have := Kd.R_lt HF.out k e2.symm; have := NG.out.1; have := oI_ e; omega)) (Kd.R_grown2 (rB_ HW.out HX.out) rfl hg5 (fun k e e2 => by have := Kd.R_lt HW.out k e2.symm; have := NG.out.1; have := oI_ e; omega)) (rL_ (Kd.R_grown2 HLI.out rfl hg5 (fun k e e2 => NG.out.2.1 k e2.symm (oI_ e).symm)) HB.out.size) (rL_ (Kd.R_grown2 HU.out rfl hg5 (fun k e e2 => NG.out.2.2.1 k e2.symm (oI_ e).symm)) HB.out.size) (rL_ (Kd.R_grown2 HLA.out rfl hg5 (fun k e e2 => NG.out.2.2.2.1 k e2.symm (oI_ e).symm)) HB.out.size) ((fS_ HB.out HX.out).grown hg5 (Nat.le_trans HB.out.size HX.out.size) (fun k e => by have := NG.out.1; have := HB.out.size; have := oI_ e; omega))); have HA5 := Z_ (Kd.R_grown2 HHA.out rfl hg5 (fun k e e2 => NG.out.2.2.2.2 k e2.symm (oI_ e).symm)); have hz0 : w5.cell? ⟨g9, 1, none⟩ = some (.slice AH ha.length cH) := (bC_ hb5 1).trans rfl; clear BT hb5 hg5; (obtain ⟨adh, eh, hx0⟩ := Kd.at_bool (rR_ HA5.out).2.2 tg HTO.out.1 HTO.out.2.1); cases eh; rw [HV.out] at hx0; have p0 := HTO.out.1; have p1 := HTO.out.2.1))
 go_loopg [11, 12] k (fun kq v11 v12 w' => ∃ (acc : List Int) (v : Int), v12 = .int .i64 v /\ Aside0 (pathL (linesL diffs flow) la kq v acc = some (pl, pv)) /\ Aside0 (Kd.R (Kd.int .i64) 3 w' w0.heap.size (fun _ => True) v11 acc) /\ Aside0 (∀ k, v11.ownBlock = some k -> Away g g9 (Value.slice AF flow.length cF) (Value.slice AW want.length cW) (Value.slice AL (linesL diffs flow).length cL) (Value.slice AU (usedL flow 0).length cU) (Value.slice AA la.length cA) w0 k) /\ Aside0 (St g g9 #[Value.int IntKind.i64 n0, Value.slice AD diffs.length cD, Value.slice AF flow.length cF, Value.slice AW want.length cW] #[vlo, Value.slice (some adh) ha.length cH, Value.slice AA la.length cA] (Value.slice AF flow.length cF) (Value.slice AW want.length cW) (Value.slice AL (linesL diffs flow).length cL) (Value.slice AU (usedL flow 0).length cU) (Value.slice AA la.length cA) (linesL diffs flow) (usedL flow 0) la w0 flow want w'))
 case atStart => exact ⟨[], tg, rfl, HP, ⟨Kd.R_nil _ _ _ _ _⟩, ⟨fun k e => by simp [Value.ownBlock] at e⟩, HS⟩
 case round =>
  clear HS hx0 hz0; obtain ⟨acc, v, rfl, HP, HO, HA, HS⟩ := hrel
  cases gk with
  | zero => exact absurd HP.out (by simp [pathL])
  | succ k1 =>
   have hP := HP.out; clear HP; unfold pathL at hP; by_cases c1 : 0 <= v /\ v < (la.length : Int)
   case neg => rw [if_neg c1] at hP; exact absurd hP (by simp)
   rw [if_pos c1] at hP; have q0 := c1.1; have q1 := c1.2; obtain ⟨ada, e1, hx1⟩ := Kd.at_int (rR_ HS.out.ra).2.2 v q0 q1; cases e1
   have hz1 : wr.cell? ⟨g9, 2, none⟩ = some (.slice (some ada) la.length cA) := (bC_ HS.out.bt 2).trans rfl; by_cases c2 : rd la v >= 0
   .rw [if_pos c2] at hP
    have c2b : decide (rd la v >= 0) = true := eT_ c2; by_cases c3 : rd la v < ((linesL diffs flow).length : Int) /\ acc.length < 65536
    case neg => rw [if_neg c3] at hP; exact absurd hP (by simp)
    rw [if_pos c3] at hP; have HP := Z_ hP; have q2 : 0 <= rd la v := c2; have q3 := c3.1; have q4 := c3.2; clear hP c1 c2 c3; go_wp2_with (first | ((with_reducible refine gate_builtin (b := .append) (xs := #[.tmp 51, .tmp 57]) rfl ?_); at_builtin; go_must (refine Kd.R_append (Kd.int .i64) (w0 := w0) w0.heap.size rfl (.tmp 51) (.tmp 57) 29 3 (.int .i64 0) 8 rfl Try.underlying29 info3 rfl (by decide) (by omega) u11 acc (rd la v) [.int .i64 (rd la v)] (fun _ => True) (fun _ => False) rfl rfl ?aP (fun _ hk => hk.elim) ?aF ?aO ?aB ?aS ?aL ?_; (case aP => exact rfl); (case aB => exact HS.out.hb); (case aF => exact (fun _ _ => trivial)); (case aO => exact HO.out); (case aS => exact (fZ_ HS.out.hb)); (case aL => omega); intro apx w8 ho hb hg hat; have HS1 := HS.out; have n0_ := Z_ (HS1.grown hg HA.out); have n1_ := Z_ (show ∀ k, apx.ownBlock = some k -> Away g g9 (Value.slice AF flow.length cF) (Value.slice AW want.length cW) (Value.slice AL (linesL diffs flow).length cL) (Value.slice AU (usedL flow 0).length cU) (Value.slice (some ada) la.length cA) w0 k from fun k e => (by rcases hat with e2 | ⟨b, e2, hb2⟩; exact HA.out k (e2.symm.trans e); exact HS1.away (by rw [e2] at e; cases e; exact hb2))); clear HS HA HO HS1 hg hat; have HS := n0_; have HA := n1_; have HO := Z_ ho; clear n0_ n1_ ho hb; have hz2 : w8.cell? ⟨g9, 2, none⟩ = some (.slice (some ada) la.length cA) := (bC_ HS.out.bt 2).trans rfl; (obtain ⟨bh9, e2, hx2⟩ := Kd.at_int (rR_ HS.out.ra).2.2 v q0 q1); cases e2; (obtain ⟨adl, e3, hy0, _⟩ := at_T39 (rR_ HS.out.rl).2.2 (rd la v) q2 q3); cases e3))); go_roundg k1
    case measure => omega
    case rel => exact ⟨acc ++ [rd la v], (rT39 (linesL diffs flow) (rd la v)).f0, rfl, HP, HO, HA, HS⟩
   rw [if_neg c2] at hP; have c2b : decide (rd la v >= 0) = false := eF_ c2; simp only [oJ_, pI_] at hP; obtain ⟨rfl, rfl⟩ := hP; have hh := HH.out; clear HH; by_cases cw : v < (want.length : Int)
   case neg => rw [if_neg cw] at hh; exact absurd hh (by simp)
   rw [if_pos cw] at hh; obtain ⟨m, hmu, hh⟩ := oS_.mp hh; obtain ⟨flow', hap, hh⟩ := oS_.mp hh; simp only [oJ_, pI_] at hh; obtain ⟨rfl, rfl, rfl⟩ := hh; have HMU := Z_ hmu; have HAP := Z_ hap; have HCW := Z_ (show 0 <= v /\ v < (want.length : Int) from ⟨q0, cw⟩); have HT0 := Z_ (show 0 <= tg /\ tg < (want.length : Int) from ⟨HTO.out.1, HTO.out.2.2⟩); clear hmu hap cw c1 p0 p1; obtain ⟨Al, cl, rfl⟩ := own_slice (Kd.own_of_R HO.out); go_upto_if 60 with (fail); go_cut [13] (fun v13 wc => v13 = .int .i64 (much1 want tg) /\ Aside0 (Kd.R (Kd.int .i64) 3 wc w0.heap.size (fun _ => True) (Value.slice Al acc.length cl) acc) /\ Aside0 (St g g9 #[Value.int IntKind.i64 n0, Value.slice AD diffs.length cD, Value.slice AF flow.length cF, Value.slice AW want.length cW] #[vlo, Value.slice (some adh) ha.length cH, Value.slice (some ada) la.length cA] (Value.slice AF flow.length cF) (Value.slice AW want.length cW) (Value.slice AL (linesL diffs flow).length cL) (Value.slice AU (usedL flow 0).length cU) (Value.slice (some ada) la.length cA) (linesL diffs flow) (usedL flow 0) la w0 flow want wc))
   case first =>
    by_cases ct : tg = 0
    .have ctb : (tg != 0) = false := bne_eq_false_iff_eq.mpr ct
     have e1 := Z_ (show much1 want tg = 1152921504606846976 from if_pos ct); clear ct; go_wp2; go_meet
     case rel => exact ⟨by rw [e1.out], HO, HS⟩
    have ctb : (tg != 0) = true := bne_iff_ne.mpr ct; have e1 := Z_ (show much1 want tg = rd want tg from if_neg ct); clear ct; obtain ⟨adw, ew, hw⟩ := Kd.at_int (rR_ HS.out.rw).2.2 tg HT0.out.1 HT0.out.2; cases ew
    have hg3 : wr.cell? ⟨g, 3, none⟩ = some (.slice (some adw) want.length cW) := (bC_ HS.out.bu 3).trans rfl; have p0 := HT0.out.1; have p1 := HT0.out.2; go_wp2; go_meet
    case rel => exact ⟨by rw [e1.out], HO, HS⟩
   case rest =>
    obtain ⟨rfl, HO, HS⟩ := hcut; go_upto_if 69 with (fail); go_cut [13] (fun v13 wd => v13 = .int .i64 (much2 want tg v) /\ Aside0 (Kd.R (Kd.int .i64) 3 wd w0.heap.size (fun _ => True) (Value.slice Al acc.length cl) acc) /\ Aside0 (St g g9 #[Value.int IntKind.i64 n0, Value.slice AD diffs.length cD, Value.slice AF flow.length cF, Value.slice AW want.length cW] #[vlo, Value.slice (some adh) ha.length cH, Value.slice (some ada) la.length cA] (Value.slice AF flow.length cF) (Value.slice AW want.length cW) (Value.slice AL (linesL diffs flow).length cL) (Value.slice AU (usedL flow 0).length cU) (Value.slice (some ada) la.length cA) (linesL diffs flow) (usedL flow 0) la w0 flow want wd))
    case first =>
     by_cases ct : v = 0
     .have ctb : (v != 0) = false := bne_eq_false_iff_eq.mpr ct
      have e1 := Z_ (show much2 want tg v = much1 want tg from if_pos ct); clear ct; go_wp2; go_meet
      case rel => exact ⟨by rw [e1.out], HO, HS⟩
     have ctb : (v != 0) = true := bne_iff_ne.mpr ct; have e1 := Z_ (show much2 want tg v = min (much1 want tg) (wrap64 (-(rd want v))) from if_neg ct); clear ct; obtain ⟨adw, ew, hw⟩ := Kd.at_int (rR_ HS.out.rw).2.2 v HCW.out.1 HCW.out.2; cases ew
     have hg3 : wc.cell? ⟨g, 3, none⟩ = some (.slice (some adw) want.length cW) := (bC_ HS.out.bu 3).trans rfl; have p0 := HCW.out.1; have p1 := HCW.out.2; go_wp2
     .go_meet
      case rel => exact ⟨by rw [e1.out, Int.min_eq_right (by omega)], HO, HS⟩
     go_meet
     case rel => exact ⟨by rw [e1.out, Int.min_eq_left (by omega)], HO, HS⟩
    case rest =>
     obtain ⟨rfl, HO, HS⟩ := hcut; go_wp2; go_loopg [13, 82] acc.length (fun kq v13 v82 w' => ∃ (mm i : Int), v13 = .int .i64 mm /\ v82 = .int .i64 i /\ Aside0 (0 <= i /\ (kq : Int) + i = acc.length /\ muchL (diffs.length : Int) flow (usedL flow 0) (acc.drop i.toNat) mm = some m) /\ Aside0 (Kd.R (Kd.int .i64) 3 w' w0.heap.size (fun _ => True) (Value.slice Al acc.length cl) acc) /\ Aside0 (St g g9 #[Value.int IntKind.i64 n0, Value.slice AD diffs.length cD, Value.slice AF flow.length cF, Value.slice AW want.length cW] #[vlo, Value.slice (some adh) ha.length cH, Value.slice (some ada) la.length cA] (Value.slice AF flow.length cF) (Value.slice AW want.length cW) (Value.slice AL (linesL diffs flow).length cL) (Value.slice AU (usedL flow 0).length cU) (Value.slice (some ada) la.length cA) (linesL diffs flow) (usedL flow 0) la w0 flow want w'))
     case atStart => exact ⟨_, 0, rfl, rfl, ⟨by omega, by omega, HMU.out⟩, HO, HS⟩
     case round =>
      obtain ⟨mm, i, rfl, rfl, HI, HO, HS⟩ := hrel; have h0 := HI.out.1; have hk := HI.out.2.1; have hM := HI.out.2.2; have hN := HL.out; by_cases hlt : i < (acc.length : Int)
      .obtain ⟨adk, ek, hxk⟩ := Kd.at_int (rR_ HO.out).2.2 i h0 hlt
       cases ek
       rw [drop_rd acc i h0 hlt] at hM; unfold muchL at hM; have hz1 : wr.cell? ⟨g, 1, none⟩ = some (.slice AD diffs.length cD) := (bC_ HS.out.bu 1).trans rfl; have hz2 : wr.cell? ⟨g, 2, none⟩ = some (.slice AF flow.length cF) := (bC_ HS.out.bu 2).trans rfl; have hmx := (rR_ HO.out).2.2.2.1; have aey : i + 1 <= 9223372036854775807 := by omega
       clear hmx; by_cases ck : rd acc i >= (diffs.length : Int)
       .rw [if_pos ck] at hM
        have ckb : decide (rd acc i >= (diffs.length : Int)) = true := eT_ ck; by_cases cc : (0 <= wrap64 (rd acc i - (diffs.length : Int)) /\ wrap64 (rd acc i - (diffs.length : Int)) < ((usedL flow 0).length : Int)) /\ 0 <= rd (usedL flow 0) (wrap64 (rd acc i - (diffs.length : Int))) /\ rd (usedL flow 0) (wrap64 (rd acc i - (diffs.length : Int))) < (flow.length : Int)
        case neg => rw [if_neg cc] at hM; exact absurd hM (by simp)
        rw [if_pos cc] at hM; have HM2 := Z_ hM; obtain ⟨⟨s0, s1⟩, s2, s3⟩ := cc; obtain ⟨adu, eu, hxu⟩ := Kd.at_int (rR_ HS.out.ru).2.2 _ s0 s1; cases eu
        obtain ⟨adf, ef, hxf⟩ := Kd.at_int (rR_ HS.out.rf).2.2 _ s2 s3; cases ef
        clear hM; by_cases cm : rd flow (rd (usedL flow 0) (wrap64 (rd acc i - (diffs.length : Int)))) < mm
        .have e1 := Z_ (Int.min_eq_right (a := mm) (b := rd flow (rd (usedL flow 0) (wrap64 (rd acc i - (diffs.length : Int))))) (by omega))
         go_wp2; go_quiet (fail); go_wp2; go_roundg (gk - 1)
         case measure => omega
         case rel => exact ⟨_, i + 1, rfl, rfl, ⟨by omega, by omega, by rw [<- e1.out]; exact HM2.out⟩, ⟨rN_ HO.out _⟩, ⟨HS.out.below (pB_ (Below.refl _ _) _)⟩⟩
        have e1 := Z_ (Int.min_eq_left (a := mm) (b := rd flow (rd (usedL flow 0) (wrap64 (rd acc i - (diffs.length : Int))))) (by omega)); go_wp2; go_quiet (fail); go_wp2; go_roundg (gk - 1)
        case measure => omega
        case rel => exact ⟨_, i + 1, rfl, rfl, ⟨by omega, by omega, by rw [<- e1.out]; exact HM2.out⟩, ⟨rN_ HO.out _⟩, ⟨HS.out.below (pB_ (Below.refl _ _) _)⟩⟩
       rw [if_neg ck] at hM; have ckb : decide (rd acc i >= (diffs.length : Int)) = false := eF_ ck; have HM2 := Z_ hM; clear hM; go_wp2; go_roundg (gk - 1)
       case measure => omega
       case rel => exact ⟨mm, i + 1, rfl, rfl, ⟨by omega, by omega, HM2.out⟩, HO, HS⟩
      have e0 := Z_ (show mm = m from by rw [List.drop_eq_nil_of_le (by omega)] at hM; exact oI_ hM); clear hM HMU; go_wp2; go_loopg [116] acc.length (fun kq aE1 w' => ∃ (fl : List Int) (i : Int), aE1 = .int .i64 i /\ Aside0 (0 <= i /\ (kq : Int) + i = acc.length /\ fl.length = flow.length /\ applyL (diffs.length : Int) (usedL flow 0) m (acc.drop i.toNat) fl = some flow') /\ Aside0 (Kd.R (Kd.int .i64) 3 w' w0.heap.size (fun _ => True) (Value.slice Al acc.length cl) acc) /\ Aside0 (St g g9 #[Value.int IntKind.i64 n0, Value.slice AD diffs.length cD, Value.slice AF flow.length cF, Value.slice AW want.length cW] #[vlo, Value.slice (some adh) ha.length cH, Value.slice (some ada) la.length cA] (Value.slice AF flow.length cF) (Value.slice AW want.length cW) (Value.slice AL (linesL diffs flow).length cL) (Value.slice AU (usedL flow 0).length cU) (Value.slice (some ada) la.length cA) (linesL diffs flow) (usedL flow 0) la w0 fl want w'))
      case atStart => exact ⟨flow, 0, rfl, ⟨by omega, by omega, rfl, HAP.out⟩, HO, HS⟩
      case round =>
       clear HO HS HI; obtain ⟨fl, i, rfl, HI, HO, HS⟩ := hrel; have h0 := HI.out.1; have hk := HI.out.2.1; have hfl := HI.out.2.2.1; have hM := HI.out.2.2.2; by_cases hlt : i < (acc.length : Int)
       .obtain ⟨adk, ek, hxk⟩ := Kd.at_int (rR_ HO.out).2.2 i h0 hlt
        cases ek
        rw [drop_rd acc i h0 hlt] at hM; unfold applyL at hM; have hz1 : wr.cell? ⟨g, 1, none⟩ = some (.slice AD diffs.length cD) := (bC_ HS.out.bu 1).trans rfl; have aey : i + 1 <= 9223372036854775807 := by have := (rR_ HO.out).2.2.2.1; omega
        by_cases ck : rd acc i >= (diffs.length : Int)
        .rw [if_pos ck] at hM
         have ckb : decide (rd acc i >= (diffs.length : Int)) = true := eT_ ck; obtain ⟨o1, ho1⟩ : ∃ o1, o1 = wrap64 (rd acc i - (diffs.length : Int)) := ⟨_, rfl⟩; rw [<- ho1] at hM; obtain ⟨o2, ho2⟩ : ∃ o2, o2 = rd (usedL flow 0) o1 := ⟨_, rfl⟩; rw [<- ho2] at hM; obtain ⟨o3, ho3⟩ : ∃ o3, o3 = wrap64 (rd fl o2 - m) := ⟨_, rfl⟩; rw [<- ho3] at hM; by_cases cc : (0 <= o1 /\ o1 < ((usedL flow 0).length : Int)) /\ 0 <= o2 /\ o2 < (fl.length : Int)
         case neg => rw [if_neg cc] at hM; exact absurd hM (by simp)
         rw [if_pos cc] at hM; have HM2 := Z_ hM; obtain ⟨⟨s0, s1⟩, s2, s3'⟩ := cc; have s3 : o2 < (flow.length : Int) := by rw [<- hfl]; exact s3'
         obtain ⟨adu, eu, hxu⟩ := Kd.at_int (rR_ HS.out.ru).2.2 o1 s0 s1; cases eu
         rw [<- ho2] at hxu; obtain ⟨gF, cF', eF, _, _, _⟩ := Kd.R_form HS.out.rf (by omega); injection eF with e1 e2 e3; subst e1; clear e2 e3; have hz2 : wr.cell? ⟨g, 2, none⟩ = some (.slice (some ⟨gF, 0, none⟩) flow.length cF) := (bC_ HS.out.bu 2).trans rfl; have hxf : wr.cell? ⟨gF, o2.toNat, none⟩ = some (.int .i64 (rd fl o2)) := (Kd.R_celln 0 HS.out.rf o2 s2 s3).1; have hff := (Kd.R_celln 0 HS.out.rf o2 s2 s3).2; have hwr : IntKind.i64.wrap (rd acc i - (diffs.length : Int)) = o1 := by rw [ho1]; exact i64_w _
         have hwv : IntKind.i64.wrap (rd fl o2 - mm) = o3 := by rw [ho3, e0.out]; exact i64_w _
         have N0 := Z_ (HS.out.below (pB_ (Below.refl _ _) 1)); have N1 := Z_ (rN_ HO.out 1); clear hM ho1 ho2 ho3; go_wp2; go_still_tail 20, (by kernel_rfl); change wpList _ _ _ _ _ (wr.drewN 1); have a6F : (wr.drewN 1).frozen? ⟨gF, o2.toNat, none⟩ = false := hff; have a3t : (wr.drewN 1).cell? ⟨gF, o2.toNat, none⟩ = some (.int .i64 (rd fl o2)) := hxf; generalize wr.drewN 1 = wq at N0 N1 a6F a3t ⊢; go_wp2; have N2 := Z_ (N0.out.putF o2 o3 DFW.out DFU.out DFA.out); have N3 := Z_ (Kd.R_grown2 N1.out rfl (grown_set wq ⟨gF, o2.toNat, none⟩ (.int .i64 o3)) (fun k e e2 => (HA.out k e2.symm).f e)); go_roundg (gk - 1)
         case measure => omega
         case rel => exact ⟨fl.set o2.toNat o3, i + 1, rfl, ⟨by omega, by omega, by rw [List.length_set]; exact hfl, HM2.out⟩, N3, N2⟩
        rw [if_neg ck] at hM; have ckb : decide (rd acc i >= (diffs.length : Int)) = false := eF_ ck; obtain ⟨o3, ho3⟩ : ∃ o3, o3 = wrap64 (rd fl (rd acc i) + m) := ⟨_, rfl⟩; rw [<- ho3] at hM; by_cases cc : 0 <= rd acc i /\ rd acc i < (fl.length : Int)
        case neg => rw [if_neg cc] at hM; exact absurd hM (by simp)
        rw [if_pos cc] at hM; have HM2 := Z_ hM; obtain ⟨s2, s3'⟩ := cc; have s3 : rd acc i < (flow.length : Int) := by rw [<- hfl]; exact s3'
        obtain ⟨gF, cF', eF, _, _, _⟩ := Kd.R_form HS.out.rf (by omega); injection eF with e1 e2 e3; subst e1; clear e2 e3; have hz2 : wr.cell? ⟨g, 2, none⟩ = some (.slice (some ⟨gF, 0, none⟩) flow.length cF) := (bC_ HS.out.bu 2).trans rfl; have hxf : wr.cell? ⟨gF, (rd acc i).toNat, none⟩ = some (.int .i64 (rd fl (rd acc i))) := (Kd.R_celln 0 HS.out.rf _ s2 s3).1; have hff := (Kd.R_celln 0 HS.out.rf _ s2 s3).2; have hwv : IntKind.i64.wrap (rd fl (rd acc i) + mm) = o3 := by rw [ho3, e0.out]; exact i64_w _
        have N2 := Z_ (HS.out.putF (rd acc i) o3 DFW.out DFU.out DFA.out); have N3 := Z_ (Kd.R_grown2 HO.out rfl (grown_set wr ⟨gF, (rd acc i).toNat, none⟩ (.int .i64 o3)) (fun k e e2 => (HA.out k e2.symm).f e)); clear hM ho3; go_wp2; go_roundg (gk - 1)
        case measure => omega
        case rel => exact ⟨fl.set (rd acc i).toNat o3, i + 1, rfl, ⟨by omega, by omega, by rw [List.length_set]; exact hfl, HM2.out⟩, N3, N2⟩
       have e1 := Z_ (show fl = flow' from by rw [List.drop_eq_nil_of_le (by omega)] at hM; exact oI_ hM); clear hM HAP; go_upto_if 160 with (fail); go_cut [13] (fun v13 wc => v13 = .int .i64 mm /\ Aside0 (St g g9 #[Value.int IntKind.i64 n0, Value.slice AD diffs.length cD, Value.slice AF flow.length cF, Value.slice AW want.length cW] #[vlo, Value.slice (some adh) ha.length cH, Value.slice (some ada) la.length cA] (Value.slice AF flow.length cF) (Value.slice AW want.length cW) (Value.slice AL (linesL diffs flow).length cL) (Value.slice AU (usedL flow 0).length cU) (Value.slice (some ada) la.length cA) (linesL diffs flow) (usedL flow 0) la w0 fl (want1 want tg m) wc))
       case first =>
        by_cases ct : tg = 0
        .have ctb : (tg != 0) = false := bne_eq_false_iff_eq.mpr ct
         have e2 := Z_ (show want1 want tg m = want from if_pos ct); clear ct; go_wp2; go_meet
         case rel => exact ⟨rfl, by rw [e2.out]; exact HS⟩
        have ctb : (tg != 0) = true := bne_iff_ne.mpr ct; obtain ⟨o3, ho3⟩ : ∃ o3, o3 = wrap64 (rd want tg - m) := ⟨_, rfl⟩; have e2 := Z_ (show want1 want tg m = want.set tg.toNat o3 from by rw [ho3]; exact if_neg ct); clear ct; have p0 := HT0.out.1; have p1 := HT0.out.2; obtain ⟨gF, cF', eF, _, _, _⟩ := Kd.R_form HS.out.rw (by omega); injection eF with ea eb ec; subst ea; clear eb ec; have hz3 : wr.cell? ⟨g, 3, none⟩ = some (.slice (some ⟨gF, 0, none⟩) want.length cW) := (bC_ HS.out.bu 3).trans rfl; have hxf : wr.cell? ⟨gF, tg.toNat, none⟩ = some (.int .i64 (rd want tg)) := (Kd.R_celln 0 HS.out.rw _ p0 p1).1; have hff := (Kd.R_celln 0 HS.out.rw _ p0 p1).2; have hwv : IntKind.i64.wrap (rd want tg - mm) = o3 := by rw [ho3, e0.out]; exact i64_w _
        have N2 := Z_ (HS.out.putW tg o3 DFW.out DWU.out DWA.out); clear ho3; go_wp2; go_meet
        case rel => exact ⟨rfl, by rw [e2.out]; exact N2⟩
       case rest =>
        obtain ⟨rfl, HS⟩ := hcut; have hlw : (want1 want tg m).length = want.length := by unfold want1; split; rfl; exact List.length_set ..
        have HLW := Z_ hlw; clear hlw; obtain ⟨wt, hwt⟩ : ∃ wt, wt = want1 want tg m := ⟨_, rfl⟩; rw [<- hwt] at HS HLW; have HWT := Z_ hwt; clear hwt; go_upto_if 172 with (fail); go_cut [13] (fun v13 wd => v13 = .int .i64 mm /\ Aside0 (St g g9 #[Value.int IntKind.i64 n0, Value.slice AD diffs.length cD, Value.slice AF flow.length cF, Value.slice AW want.length cW] #[vlo, Value.slice (some adh) ha.length cH, Value.slice (some ada) la.length cA] (Value.slice AF flow.length cF) (Value.slice AW want.length cW) (Value.slice AL (linesL diffs flow).length cL) (Value.slice AU (usedL flow 0).length cU) (Value.slice (some ada) la.length cA) (linesL diffs flow) (usedL flow 0) la w0 fl (want2 want tg v m) wd))
        case first =>
         by_cases ct : v = 0
         .have ctb : (v != 0) = false := bne_eq_false_iff_eq.mpr ct
          have e2 := Z_ (show want2 want tg v m = wt from (if_pos ct).trans HWT.out.symm); clear ct; go_wp2; go_meet
          case rel => exact ⟨rfl, by rw [e2.out]; exact HS⟩
         have ctb : (v != 0) = true := bne_iff_ne.mpr ct; obtain ⟨o3, ho3⟩ : ∃ o3, o3 = wrap64 (rd wt v + m) := ⟨_, rfl⟩; have e2 := Z_ (show want2 want tg v m = wt.set v.toNat o3 from by rw [ho3, HWT.out]; exact if_neg ct); clear ct; have p0 := HCW.out.1; have p1 := HCW.out.2; obtain ⟨gF, cF', eF, _, _, _⟩ := Kd.R_form HS.out.rw (by have := HLW.out; omega); injection eF with ea eb ec; subst ea; clear eb ec; have hz3 : wc.cell? ⟨g, 3, none⟩ = some (.slice (some ⟨gF, 0, none⟩) want.length cW) := (bC_ HS.out.bu 3).trans rfl; have hxf : wc.cell? ⟨gF, v.toNat, none⟩ = some (.int .i64 (rd wt v)) := (Kd.R_celln 0 HS.out.rw _ p0 p1).1; have hff := (Kd.R_celln 0 HS.out.rw _ p0 p1).2; have hwv : IntKind.i64.wrap (rd wt v + mm) = o3 := by rw [ho3, e0.out]; exact i64_w _
         have N2 := Z_ (HS.out.putW v o3 DFW.out DWU.out DWA.out); clear ho3; go_wp2; go_meet
         case rel => exact ⟨rfl, by rw [e2.out]; exact N2⟩
        case rest =>
         obtain ⟨rfl, HS⟩ := hcut; go_wp2; go_ret; have e4 := e1.out; subst e4; exact ⟨rfl, HS.out.bu, HS.out.rf, HS.out.rw, HS.out.hb⟩
end Go.Proofs.Ytpolojoeabmhdaa.A
/- fill: all nodes get what they want, step by step. -/
namespace Go.Proofs.Ytpolojoeabmhdaa.A
open Go.RowKit Go.Proofs.YtpolojoeabmhdaaW.PrintWords Go.Proofs.YtpolojoeabmhdaaW.PrintLast Go.Proofs.YtpolojoeabmhdaaW.PrintMore
def fillA (k : Nat) (n0 : Int) (diffs : List S39) : Nat -> Int -> List Int -> List Int -> Option (Bool × List Int × List Int)
 | 0, _, _, _ => none
 | q + 1, i, fl, wn => if i < n0 then (if 0 <= i /\ i < wn.length then (if rd wn i > 0 then ((stepL k n0 diffs fl wn i (0 :: giversL wn 0)).bind fun r => if r.1 = false then some (false, r.2.1, r.2.2) else fillA k n0 diffs q i r.2.1 r.2.2) else fillA k n0 diffs q (i + 1) fl wn) else none) else some (true, fl, wn)
def fillB (k : Nat) (n0 : Int) (diffs : List S39) : Nat -> Int -> List Int -> List Int -> Option (Bool × List Int × List Int)
 | 0, _, _, _ => none
 | q + 1, i, fl, wn => if i < n0 then (if 0 <= i /\ i < wn.length then (if rd wn i < 0 then ((stepL k n0 diffs fl wn 0 [i]).bind fun r => if r.1 = false then some (false, r.2.1, r.2.2) else fillB k n0 diffs q i r.2.1 r.2.2) else fillB k n0 diffs q (i + 1) fl wn) else none) else some (true, fl, wn)
def fillL (k : Nat) (n0 : Int) (diffs : List S39) (fl wn : List Int) : Option (Bool × List Int × List Int) :=
 (fillA k n0 diffs k 1 fl wn).bind fun r => if r.1 = false then some r else fillB k n0 diffs k 1 r.2.1 r.2.2
/-- What fill holds in the memory. -/
structure Us (g : Nat) (n0 : Int) (AD : Option Addr) (nD cD : Nat) (AF : Option Addr) (nF cF : Nat) (AW : Option Addr) (nW cW : Nat) (w0 : World) (fl wn : List Int) (W : World) : Prop where
 bu : W.heap[g]? = some (.cells #[.int .i64 n0, .slice AD nD cD, .slice AF nF cF, .slice AW nW cW] 96 (0, 0))
 rf : Kd.R (Kd.int .i64) 3 W w0.heap.size (fun _ => True) (.slice AF nF cF) fl
 rw : Kd.R (Kd.int .i64) 3 W w0.heap.size (fun _ => True) (.slice AW nW cW) wn
 hb : Below w0.heap.size w0 W
section
variable {g : Nat} {n0 : Int} {AD : Option Addr} {nD cD : Nat} {AF : Option Addr} {nF cF : Nat} {AW : Option Addr} {nW cW : Nat} {w0 : World} {fl wn : List Int} {W W1 : World}
theorem Us.below (h : Us g n0 AD nD cD AF nF cF AW nW cW w0 fl wn W) (hb : Below W.heap.size W W1) : Us g n0 AD nD cD AF nF cF AW nW cW w0 fl wn W1 :=
 ⟨bB_ h.bu hb, rB_ h.rf hb, rB_ h.rw hb, below_then h.hb h.hb.size hb⟩
theorem Us.grown (h : Us g n0 AD nD cD AF nF cF AW nW cW w0 fl wn W) (hg : W.grownBy W1 none) : Us g n0 AD nD cD AF nF cF AW nW cW w0 fl wn W1 :=
 ⟨blk_grown h.bu hg (by simp), Kd.R_grown h.rf hg (fun _ _ => by simp), Kd.R_grown h.rw hg (fun _ _ => by simp), h.hb.grown hg h.hb.size (fun k hk => by cases hk)⟩
theorem Us.givers (h : Us g n0 AD nD cD AF nF cF AW nW cW w0 fl wn W) (hn : nW <= 65536) : Calls Try.prog 127 #[.pointer (some ⟨g, 0, none⟩)] W fun e w' => ∃ v0_ : Value, e = .returned v0_ /\ Kd.R (Kd.int .i64) 3 w' W.heap.size (fun _ => True) v0_ (0 :: giversL wn 0) /\ Below W.heap.size W w' := by
 obtain ⟨rfl, h2, h3⟩ := rR_ h.rw; exact use_givers.calls g (.int .i64 n0) _ _ AW cW wn W h.bu h3 hn
end
theorem Us.step {g : Nat} {n0 : Int} {AD : Option Addr} {diffs : List S39} {cD : Nat} {AF : Option Addr} {nF cF : Nat} {AW : Option Addr} {nW cW : Nat} {w0 : World} {fl wn : List Int} {W : World} (h : Us g n0 AD diffs.length cD AF nF cF AW nW cW w0 fl wn W) {k : Nat} {tg : Int} {AG : Option Addr} {cG : Nat} {givers : List Int} {r1 : Bool} {r2 r3 : List Int}
  (hg : w0.heap.size <= g) (hD : Kd.C k39 w0 AD diffs.length diffs) (hcD : diffs.length <= cD) (hne : Dj (.slice AF nF cF) (.slice AW nW cW)) (hG : Kd.R (Kd.int .i64) 3 W w0.heap.size (fun _ => True) (.slice AG givers.length cG) givers) (hfd : nF = diffs.length) (hl : diffs.length <= 65536) (hm : ∀ d ∈ diffs, -4611686018427387904 <= d.f2 /\ d.f2 <= 4611686018427387904)
  (hs : stepL k n0 diffs fl wn tg givers = some (r1, r2, r3)) : Calls Try.prog 126 #[.pointer (some ⟨g, 0, none⟩), .int .i64 tg, .slice AG givers.length cG] W fun e w' => e = .returned (.bool r1) /\ Us g n0 AD diffs.length cD AF nF cF AW nW cW w0 r2 r3 w' := by
 have hr := rR_ hG; refine (use_step.calls k g n0 AD cD diffs _ _ fl wn tg AG cG givers r1 r2 r3 w0 W h.hb hg h.bu hD hcD h.rf h.rw hne hr.2.2 hr.2.1 ((rR_ h.rf).1.symm.trans hfd) hl hm hs).mono ?_; rintro e w' ⟨rfl, a, b, c, d⟩; exact ⟨rfl, a, b, c, d⟩
set_option maxHeartbeats 8000000
set_option maxRecDepth 100000
theorem use_fill.calls (k : Nat) (g : Nat) (n0 : Int) (AD : Option Addr) (cD : Nat) (diffs : List S39) (AF : Option Addr) (nF cF : Nat) (AW : Option Addr) (nW cW : Nat) (flow want : List Int) (r1 : Bool) (r2 r3 : List Int) (w0 w : World)
  (hU : Us g n0 AD diffs.length cD AF nF cF AW nW cW w0 flow want w) (hg : w0.heap.size <= g)
  (hD : Kd.C k39 w0 AD diffs.length diffs) (hcD : diffs.length <= cD) (hne : Dj (.slice AF nF cF) (.slice AW nW cW))
  (hfd : nF = diffs.length) (hl : diffs.length <= 65536) (hwl : nW <= 65536) (hn0 : n0 <= 4611686018427387904) (hm : ∀ d ∈ diffs, -4611686018427387904 <= d.f2 /\ d.f2 <= 4611686018427387904)
  (h : fillL k n0 diffs flow want = some (r1, r2, r3)) :
  Calls Try.prog 110 #[.pointer (some ⟨g, 0, none⟩)] w fun e w' => e = .returned (.bool r1) /\ Us g n0 AD diffs.length cD AF nF cF AW nW cW w0 r2 r3 w' := by
 unfold fillL at h; obtain ⟨⟨b, fm, wm⟩, hA, h⟩ := oS_.mp h; have HA := Z_ hA; have HH := Z_ h; have HS := Z_ hU; have HGE := Z_ hg; have HD := Z_ hD; have HCD := Z_ hcD; have HNE := Z_ hne; have HFD := Z_ hfd; have HL := Z_ hl; have HM := Z_ hm; have HWL := Z_ hwl; clear hA h hU hg hD hcD hne hfd hl hm hwl; go_enter Try.func110, Try.ntmps110; go_wp2; go_loopg [3] k (fun kq v3 w' => ∃ (i : Int) (fl wn : List Int), v3 = .int .i64 i /\ Aside0 (1 <= i /\ kq <= k /\ fillA k n0 diffs kq i fl wn = some (b, fm, wm)) /\ Aside0 (Us g n0 AD diffs.length cD AF nF cF AW nW cW w0 fl wn w'))
 case atStart => exact ⟨1, flow, want, rfl, ⟨by omega, by omega, HA.out⟩, HS⟩
 case round =>
  clear HS HA; obtain ⟨i, fl, wn, rfl, HA, HS⟩ := hrel
  cases gk with
  | zero => exact absurd HA.out.2.2 (by simp [fillA])
  | succ q =>
   have hA := HA.out.2.2; have hi1 := HA.out.1; have hqk := HA.out.2.1; have hz0 : wr.cell? ⟨g, 0, none⟩ = some (.int .i64 n0) := (bC_ HS.out.bu 0).trans rfl; unfold fillA at hA; by_cases c1 : i < n0
   .have hA0 := Z_ HA.out.2.2
    clear hA HA; have c1b : decide (i < n0) = true := eT_ c1; go_wp2; go_loopg [] (q + 1) (fun kq w' => ∃ (fl wn : List Int), Aside0 (kq <= q + 1 /\ fillA k n0 diffs kq i fl wn = some (b, fm, wm)) /\ Aside0 (Us g n0 AD diffs.length cD AF nF cF AW nW cW w0 fl wn w'))
    case atStart => exact ⟨fl, wn, ⟨nR_ _, hA0.out⟩, HS⟩
    case round =>
     clear HS hA0 hz0; obtain ⟨fl, wn, HA, HS⟩ := hrel
     cases gk with
     | zero => exact absurd HA.out.2 (by simp [fillA])
     | succ q2 =>
      have hA := HA.out.2; have hq2 := HA.out.1; clear HA; unfold fillA at hA; rw [if_pos c1] at hA; by_cases c2 : 0 <= i /\ i < (wn.length : Int)
      case neg => rw [if_neg c2] at hA; exact absurd hA (by simp)
      rw [if_pos c2] at hA; have hnw := (rR_ HS.out.rw).1; obtain ⟨adw, ew, hxw⟩ := Kd.at_int (rR_ HS.out.rw).2.2 i c2.1 c2.2; cases ew
      have p0 := c2.1; have p1 : i < (nW : Int) := by rw [hnw]; exact c2.2
      have hz3 : wr.cell? ⟨g, 3, none⟩ = some (.slice (some adw) nW cW) := (bC_ HS.out.bu 3).trans rfl; clear hnw c2; by_cases c3 : rd wn i > 0
      .rw [if_pos c3] at hA
       have c3b : decide (rd wn i > 0) = true := eT_ c3; obtain ⟨⟨b1, f1, n1⟩, hS, hA⟩ := oS_.mp hA; have HST := Z_ hS; have HA := Z_ hA; clear hS hA
       cases b1 with
       | false =>
        have hA := HA.out; clear HA; simp only [if_pos, oJ_, pI_] at hA; obtain ⟨rfl, rfl, rfl⟩ := hA; have hh := HH.out; clear HH; simp only [if_pos, oJ_, pI_] at hh; obtain ⟨rfl, rfl, rfl⟩ := hh
        go_wp2_with (first
         | ((with_reducible refine gate_callee (f := 127) rfl ?_); refine gL_ (some 25) Try.func127 #[.pointer (some ⟨g, 0, none⟩)] ?_; refine (HS.out.givers HWL.out).mono ?_; rintro e w1 ⟨vG, rfl, ho, hb⟩; refine ⟨_, rfl, ?_⟩; have n0_ := Z_ (HS.out.below hb); have HG := Z_ (rL_ ho HS.out.hb.size); clear HS ho hb; have HS := n0_; clear n0_; (obtain ⟨AG, cG, rfl⟩ := own_slice (Kd.own_of_R HG.out)))
         | ((with_reducible refine gate_callee (f := 126) rfl ?_); refine gL_ (some 26) Try.func126 #[.pointer (some ⟨g, 0, none⟩), .int .i64 i, .slice AG (0 :: giversL wn 0).length cG] ?_; refine (HS.out.step HGE.out HD.out HCD.out HNE.out HG.out HFD.out HL.out HM.out HST.out).mono ?_; rintro e w2 ⟨rfl, hu⟩; refine ⟨_, rfl, ?_⟩; have n0_ := Z_ hu; clear HS HG hu; have HS := n0_; clear n0_))
        go_ret; exact ⟨rfl, HS.out⟩
       | true =>
        go_wp2_with (first
         | ((with_reducible refine gate_callee (f := 127) rfl ?_); refine gL_ (some 25) Try.func127 #[.pointer (some ⟨g, 0, none⟩)] ?_; refine (HS.out.givers HWL.out).mono ?_; rintro e w1 ⟨vG, rfl, ho, hb⟩; refine ⟨_, rfl, ?_⟩; have n0_ := Z_ (HS.out.below hb); have HG := Z_ (rL_ ho HS.out.hb.size); clear HS ho hb; have HS := n0_; clear n0_; (obtain ⟨AG, cG, rfl⟩ := own_slice (Kd.own_of_R HG.out)))
         | ((with_reducible refine gate_callee (f := 126) rfl ?_); refine gL_ (some 26) Try.func126 #[.pointer (some ⟨g, 0, none⟩), .int .i64 i, .slice AG (0 :: giversL wn 0).length cG] ?_; refine (HS.out.step HGE.out HD.out HCD.out HNE.out HG.out HFD.out HL.out HM.out HST.out).mono ?_; rintro e w2 ⟨rfl, hu⟩; refine ⟨_, rfl, ?_⟩; have n0_ := Z_ hu; clear HS HG hu; have HS := n0_; clear n0_))
        go_roundg q2
        case measure => omega
        case rel => exact ⟨f1, n1, ⟨by omega, HA.out⟩, HS⟩
      rw [if_neg c3] at hA; have c3b : decide (rd wn i > 0) = false := eF_ c3; have HA := Z_ hA; have aey : i + 1 <= 9223372036854775807 := by omega
      clear hA; go_wp2; go_roundg q2
      case measure => omega
      case rel => exact ⟨i + 1, fl, wn, rfl, ⟨by omega, by omega, HA.out⟩, HS⟩
   rw [if_neg c1] at hA; have c1b : decide (i < n0) = false := eF_ c1; simp only [oJ_, pI_] at hA; obtain ⟨rfl, rfl, rfl⟩ := hA; have hh := HH.out; rw [if_neg (by simp)] at hh; have HB := Z_ hh; clear hh HH HA hqk hi1; go_wp2; go_loopg [4] k (fun kq v4 w' => ∃ (i : Int) (fl wn : List Int), v4 = .int .i64 i /\ Aside0 (1 <= i /\ kq <= k /\ fillB k n0 diffs kq i fl wn = some (r1, r2, r3)) /\ Aside0 (Us g n0 AD diffs.length cD AF nF cF AW nW cW w0 fl wn w'))
   case atStart => exact ⟨1, fl, wn, rfl, ⟨by omega, by omega, HB.out⟩, HS⟩
   case round =>
    clear HS HB; obtain ⟨i, fl, wn, rfl, HA, HS⟩ := hrel
    cases gk with
    | zero => exact absurd HA.out.2.2 (by simp [fillB])
    | succ q =>
     have hA := HA.out.2.2; have hi1 := HA.out.1; have hqk := HA.out.2.1; have hz0 : wr.cell? ⟨g, 0, none⟩ = some (.int .i64 n0) := (bC_ HS.out.bu 0).trans rfl; unfold fillB at hA; by_cases c1 : i < n0
     .have hA0 := Z_ HA.out.2.2
      clear hA HA; have c1b : decide (i < n0) = true := eT_ c1; go_wp2; go_loopg [] (q + 1) (fun kq w' => ∃ (fl wn : List Int), Aside0 (kq <= q + 1 /\ fillB k n0 diffs kq i fl wn = some (r1, r2, r3)) /\ Aside0 (Us g n0 AD diffs.length cD AF nF cF AW nW cW w0 fl wn w'))
      case atStart => exact ⟨fl, wn, ⟨nR_ _, hA0.out⟩, HS⟩
      case round =>
       clear HS hA0 hz0; obtain ⟨fl, wn, HA, HS⟩ := hrel
       cases gk with
       | zero => exact absurd HA.out.2 (by simp [fillB])
       | succ q2 =>
        have hA := HA.out.2; have hq2 := HA.out.1; clear HA; unfold fillB at hA; rw [if_pos c1] at hA; by_cases c2 : 0 <= i /\ i < (wn.length : Int)
        case neg => rw [if_neg c2] at hA; exact absurd hA (by simp)
        rw [if_pos c2] at hA; have hnw := (rR_ HS.out.rw).1; obtain ⟨adw, ew, hxw⟩ := Kd.at_int (rR_ HS.out.rw).2.2 i c2.1 c2.2; cases ew
        have p0 := c2.1; have p1 : i < (nW : Int) := by rw [hnw]; exact c2.2
        have hz3 : wr.cell? ⟨g, 3, none⟩ = some (.slice (some adw) nW cW) := (bC_ HS.out.bu 3).trans rfl; clear hnw c2; by_cases c3 : rd wn i < 0
        .rw [if_pos c3] at hA
         have c3b : decide (rd wn i < 0) = true := eT_ c3; obtain ⟨⟨b1, f1, n1⟩, hS, hA⟩ := oS_.mp hA; have HST := Z_ hS; have HA := Z_ hA; clear hS hA
         cases b1 with
         | false =>
          have hA := HA.out; clear HA; simp only [if_pos, oJ_, pI_] at hA; obtain ⟨rfl, rfl, rfl⟩ := hA
          go_wp2_with (first
           | ((with_reducible refine gate_dst (N := 47) rfl ?_); refine Kd.R_lit (w0 := w0) (Kd.int .i64) w0.heap.size 3 ?hg (N := 47) ?hd (xs := ([i] : List Int)) (inner := [.int .i64 i]) (ok := fun _ => True) (okp := fun _ => True) ?hr ?hp (fun _ hk => hk) trivial HS.out.hb HS.out.hb.size (by simp) ?_; (case hd => rfl); (case hg => rfl); (case hr => first | (go_simp; done) | (go_simp; rfl)); (case hp => exact (Reps.one (show Kd.M (Kd.int .i64) _ _ _ i [.int .i64 i] from rfl) (Reps.none _ _))); intro vG w1 ho hb hg_ hnew_; have n0_ := Z_ (HS.out.grown hg_); have HG := Z_ ho; clear HS ho hb hg_ hnew_; have HS := n0_; clear n0_; (obtain ⟨AG, cG, rfl⟩ := own_slice (Kd.own_of_R HG.out)))
           | ((with_reducible refine gate_callee (f := 126) rfl ?_); refine gL_ (some 48) Try.func126 #[.pointer (some ⟨g, 0, none⟩), .int .i64 0, .slice AG ([i]).length cG] ?_; refine (HS.out.step HGE.out HD.out HCD.out HNE.out HG.out HFD.out HL.out HM.out HST.out).mono ?_; rintro e w2 ⟨rfl, hu⟩; refine ⟨_, rfl, ?_⟩; have n0_ := Z_ hu; clear HS HG hu; have HS := n0_; clear n0_))
          go_ret; exact ⟨rfl, HS.out⟩
         | true =>
          go_wp2_with (first
           | ((with_reducible refine gate_dst (N := 47) rfl ?_); refine Kd.R_lit (w0 := w0) (Kd.int .i64) w0.heap.size 3 ?hg (N := 47) ?hd (xs := ([i] : List Int)) (inner := [.int .i64 i]) (ok := fun _ => True) (okp := fun _ => True) ?hr ?hp (fun _ hk => hk) trivial HS.out.hb HS.out.hb.size (by simp) ?_; (case hd => rfl); (case hg => rfl); (case hr => first | (go_simp; done) | (go_simp; rfl)); (case hp => exact (Reps.one (show Kd.M (Kd.int .i64) _ _ _ i [.int .i64 i] from rfl) (Reps.none _ _))); intro vG w1 ho hb hg_ hnew_; have n0_ := Z_ (HS.out.grown hg_); have HG := Z_ ho; clear HS ho hb hg_ hnew_; have HS := n0_; clear n0_; (obtain ⟨AG, cG, rfl⟩ := own_slice (Kd.own_of_R HG.out)))
           | ((with_reducible refine gate_callee (f := 126) rfl ?_); refine gL_ (some 48) Try.func126 #[.pointer (some ⟨g, 0, none⟩), .int .i64 0, .slice AG ([i]).length cG] ?_; refine (HS.out.step HGE.out HD.out HCD.out HNE.out HG.out HFD.out HL.out HM.out HST.out).mono ?_; rintro e w2 ⟨rfl, hu⟩; refine ⟨_, rfl, ?_⟩; have n0_ := Z_ hu; clear HS HG hu; have HS := n0_; clear n0_))
          go_roundg q2
          case measure => omega
          case rel => exact ⟨f1, n1, ⟨by omega, HA.out⟩, HS⟩
        rw [if_neg c3] at hA; have c3b : decide (rd wn i < 0) = false := eF_ c3; have HA := Z_ hA; have aey : i + 1 <= 9223372036854775807 := by omega
        clear hA; go_wp2; go_roundg q2
        case measure => omega
        case rel => exact ⟨i + 1, fl, wn, rfl, ⟨by omega, by omega, HA.out⟩, HS⟩
     rw [if_neg c1] at hA; have c1b : decide (i < n0) = false := eF_ c1; simp only [oJ_, pI_] at hA; obtain ⟨rfl, rfl, rfl⟩ := hA; go_wp2; go_ret; exact ⟨rfl, HS.out⟩
end Go.Proofs.Ytpolojoeabmhdaa.A
/- all and solve: the walks of Go's text, over any graph whose two methods answer. Turned from what wrap.py printed (mksolve.py). -/
namespace Go.Proofs.Ytpolojoeabmhdaa.A
open Go.RowKit Go.Proofs.YtpolojoeabmhdaaW.PrintWords Go.Proofs.YtpolojoeabmhdaaW.PrintLast Go.Proofs.YtpolojoeabmhdaaW.PrintMore
attribute [local go_sem] max2_int min2_int max_two min_two max_three min_three max_four min_four
theorem Graph.below {w W : World} {T : TypeId} {gv : Value} {n : Int} {l : List S39} (h : Graph w T gv n l) (hb : Below w.heap.size w W) : Graph W T gv n l := by
 obtain ⟨fL, fN, rL, rN, gL, gN, h1, h2, h3, h4, h5, h6⟩ := h.out; exact ⟨fL, fN, rL, rN, gL, gN, h1, h2, h3, h4, fun W' hW => h5 W' (below_then hb hb.size hW), fun W' hW => h6 W' (below_then hb hb.size hW)⟩
def d_all.l0 : Nat -> List Int -> Int -> Int -> Option (List Int)
 | 0, _, _, _ => none
 | k + 1, x3, x6, x7 => if x7 < x6 then (if x3.length < 17592186044416 then (d_all.l0 k (x3 ++ [x7]) x6 (wrap64 (x7 + 1))) else (none)) else (some x3)
def d_all.f (k : Nat) (ae : Int) (ac : List (S39)) : Option (List Int) := (d_plain_nodes.f ae ac).bind fun Q0 => (d_all.l0 k ([] : List Int) Q0 0)
theorem d_all.mono_l : ∀ k, (∀ y0 y1 y2, LeO (d_all.l0 k y0 y1 y2) (d_all.l0 (k + 1) y0 y1 y2))
 | 0 => fun _ _ _ r h => by simp [d_all.l0] at h
 | k + 1 => by
  have ih0 := d_all.mono_l k; intro y0 y1 y2; unfold d_all.l0; repeat' first | (with_reducible first | exact ih0 _ _ _ | exact LeO.refl _ | exact LeO.none _ | refine LeO.ite ?_ ?_ | refine LeO.bind ?_ (fun _ => ?_))
theorem d_all.mono : ∀ a0 a1 k, LeO (d_all.f k a0 a1) (d_all.f (k + 1) a0 a1) := by
 intro a0 a1 k; have ih0 := d_all.mono_l k; unfold d_all.f; repeat' first | (with_reducible first | exact ih0 _ _ _ | exact LeO.refl _ | exact LeO.none _ | refine LeO.ite ?_ ?_ | refine LeO.bind ?_ (fun _ => ?_))
set_option maxHeartbeats 8000000
set_option maxRecDepth 100000
theorem d_all.any (k : Nat) (T : TypeId) (gv : Value) (ae : Int) (ac : List (S39)) (r : List Int) (w : World) (hG : Graph w T gv ae ac) (h : d_all.f k ae ac = some r) :
  Calls Try.prog 111 #[.iface T gv] w fun e w' => ∃ v0_ : Value, e = .returned (v0_) /\ Kd.R (Kd.int .i64) 3 w' w.heap.size (fun _ => True) v0_ r /\ Below w.heap.size w w' := by
 obtain ⟨⟨fL, fN, rL, rN, gL, gN, azL, asp, aAg, atx, hL0, hN0⟩⟩ := hG; have hmN := Z_ asp; have hfN := Z_ atx; have HB := Z_ (Below.refl w.heap.size w); have H : ((d_plain_nodes.f ae ac).bind fun Q0 => (d_all.l0 k ([] : List Int) Q0 0)) = some r := h; clear h; replace H := oS_.mp H; obtain ⟨Q0, A20, H⟩ := H; replace H : (d_all.l0 k ([] : List Int) Q0 0) = some r := H; have A2 := Z_ A20; clear A20; have hN := Z_ (show ∀ W, Below w.heap.size w W -> Calls Try.prog fN #[rN] W fun e W' => e = .returned (.int .i64 Q0) /\ Below W.heap.size W W' from (oI_ A2.out : ae = Q0) ▸ hN0); clear azL asp aAg atx hL0 hN0; have H' := Z_ H; clear H; go_enter Try.func111, Try.ntmps111; go_wp2_with (first | (refine goesIL_ (some 6) rfl rfl rfl rfl (hmN.out _) hfN.out.1 hfN.out.2.1 hfN.out.2.2 ?_; refine (hN.out _ ?sN).mono ?_; (case sN => repeat (first | exact HB.out | apply fA_ | apply pB_ | apply fD_)); rintro e w3 ⟨rfl, hb⟩; refine ⟨_, rfl, ?_⟩; replace HB := Z_ (fS_ hB_ hb); (try clear hb))); go_loopg [3, 7] k (fun kq v3 v7 w' => ∃ (tG : List Int) (eB : Int), v7 = .int .i64 eB /\ Aside0 (d_all.l0 kq tG Q0 eB = some r) /\ Aside0 (kq <= k) /\ Aside0 (Kd.R (Kd.int .i64) 3 w' w.heap.size (fun _ => True) v3 tG) /\ Aside0 (Below w.heap.size w w'))
 case atStart => exact ⟨(([] : List Int)), (0), rf_, H', ⟨nR_ _⟩, ⟨by first | exact Kd.R_nil _ _ _ _ _ | exact Kd.N_nil _ _ _ _ _ | exact Kd.V_nil _ _ _ _ _ | exact Kd.Q_nil _ _ _ _ _ | exact Kd.S_nil _ _ _ _ _⟩, ⟨hB_⟩⟩
 case round =>
  clear H'; obtain ⟨tG, eB, rfl, HA, HK1, agy, HB⟩ := hrel
  cases gk with
  | zero => exact absurd HA.out (by simp [d_all.l0])
  | succ k1 =>
   have H := HA.out; clear HA; simp only [d_all.l0] at H; by_cases c4 : eB < Q0
   .rw [if_pos c4] at H
    replace c4 : decide (eB < Q0) = true := eT_ c4; by_cases c5 : tG.length < 17592186044416
    .rw [if_pos c5] at H
     have aiW := Z_ c5; clear c5; obtain ⟨aLm, aen⟩ : ∃ y_ : List Int, y_ = (tG ++ [eB]) := ⟨_, rfl⟩; replace H : (d_all.l0 k1 aLm Q0 (wrap64 (eB + 1))) = some r := by first | (rw [aen]; with_reducible exact H) | (have H2_ := (oB_ _ _).symm.trans H; rw [aen]; with_reducible exact H2_) | (have H2_ := (oB_ _ _).symm.trans H; with_reducible exact H2_) | with_reducible exact H | (rw [aen]; exact H) | exact H
     have aWL := Z_ aen; clear aen; have H' := Z_ H; clear H; go_wp2_with (first | ((with_reducible refine gate_builtin (b := .append) (xs := #[.tmp 10, .tmp 12]) rfl ?_); at_builtin; refine Kd.R_append (Kd.int .i64) (w0 := w) w.heap.size rfl (.tmp 10) (.tmp 12) 29 3 (.int .i64 0) 8 rfl Try.underlying29 info3 rfl (by decide) (by omega) u3 tG eB [.int .i64 eB] (fun _ => True) (fun _ => False) rfl rfl ?aP (fun _ hk => hk.elim) ?aF ?aO ?aB ?aS ?aL ?_; (case aP => exact rfl); (case aB => exact hB_); (case aF => exact (fun _ _ => trivial)); (case aO => exact (rK_ agy.out)); (case aS => exact (fZ_ hB_)); (case aL => have := aiW.out; omega); intro apx w6 ho hb hg hat; rw [<- aWL.out] at ho; replace HB := Z_ (hb); have aXi := Z_ (ho); clear agy; clear ho hb hg hat)); go_roundg k1
     case measure => have := HK1.out; omega
     case rel => exact ⟨(aLm), (wrap64 (eB + 1)), rf_, H', ⟨by have := HK1.out; omega⟩, ⟨rK_ aXi.out⟩, ⟨hB_⟩⟩
    exact nN_ c5 H
   rw [if_neg c4] at H; replace c4 : decide (eB < Q0) = false := eF_ c4; obtain rfl := oI_ H; go_wp2; go_ret; exact ⟨_, eW_, rK_ agy.out, hB_⟩
def d_solve.l0 : Nat -> List Int -> Int -> Int -> List Int -> List Bool -> List Int -> Option (List Int × List Int × List Bool × List Int × Int)
 | 0, _, _, _, _, _, _ => none
 | k + 1, x7, x24, x25, Rq, akc, akb => if x25 < x24 then (if 0 <= x25 then (if x25 < (x7.length : Int) then (if 0 < (Rq.length : Int) then (d_solve.l0 k (x7.set (x25 : Int).toNat (wrap64 ((rd x7 x25) - (rd Rq 0)))) x24 (wrap64 (x25 + 1)) Rq akc akb) else (none)) else (none)) else (none)) else (some (x7, Rq, akc, akb, (-1)))
def d_solve.f (k : Nat) (ae : Int) (ac : List (S39)) : Option (List Int × List Int × List Bool × List Int × Int) := (d_all.f k ae ac).bind fun nP => ((d_grow.f k ae ac nP).bind fun qR => (if qR.2.2.2 >= 0 then (some (([] : List Int), qR.1, qR.2.1, qR.2.2.1, qR.2.2.2)) else ((s_Clone_int_int.f qR.1).bind fun uP => (d_solve.l0 k uP (uP.length : Int) 0 qR.1 qR.2.1 qR.2.2.1))))
theorem d_solve.mono_l : ∀ k, (∀ y0 y1 y2 y3 y4 y5, LeO (d_solve.l0 k y0 y1 y2 y3 y4 y5) (d_solve.l0 (k + 1) y0 y1 y2 y3 y4 y5))
 | 0 => fun _ _ _ _ _ _ r h => by simp [d_solve.l0] at h
 | k + 1 => by
  have ih0 := d_solve.mono_l k; intro y0 y1 y2 y3 y4 y5; unfold d_solve.l0; repeat' first | (with_reducible first | exact ih0 _ _ _ _ _ _ | exact d_all.mono _ _ _ | exact d_grow.mono _ _ _ _ | exact LeO.refl _ | exact LeO.none _ | refine LeO.ite ?_ ?_ | refine LeO.bind ?_ (fun _ => ?_))
theorem d_solve.mono : ∀ a0 a1 k, LeO (d_solve.f k a0 a1) (d_solve.f (k + 1) a0 a1) := by
 intro a0 a1 k; have ih0 := d_solve.mono_l k; unfold d_solve.f; repeat' first | (with_reducible first | exact ih0 _ _ _ _ _ _ | exact d_all.mono _ _ _ | exact d_grow.mono _ _ _ _ | exact LeO.refl _ | exact LeO.none _ | refine LeO.ite ?_ ?_ | refine LeO.bind ?_ (fun _ => ?_))
def d_solve.T8 : Bool × List (List Nat × List Nat) := (true, [([], []), ([], []), ([0, 1], [0, 1]), ([2], [2]), ([], []), ([4], [4]), ([5], [5]), ([6], [6]), ([3, 7], [3, 7]), ([0, 1, 0, 1, 2, 3, 4, 5, 6, 7, 8], [0, 1]), ([9, 8, 0, 1, 2, 3, 4, 5, 6, 7, 8], [8, 9])])
def d_solve.B8 : List Nat := [0, 0, 3, 7, 0, 16, 48, 112, 255, 511, 1023]
theorem d_solve.tab8 : rtab .any (opsOf Try.f81 8) = d_solve.T8 := by kernel_rfl
theorem d_solve.bits8 : waitsOk d_solve.T8.2 d_solve.B8 = true := by kernel_rfl
theorem d_solve.any (k : Nat) (T : TypeId) (gv : Value) (ae : Int) (ac : List (S39)) (r1 : List Int) (r2 : List Int) (r3 : List Bool) (r4 : List Int) (r5 : Int) (w : World) (hG : Graph w T gv ae ac) (h : d_solve.f k ae ac = some (r1, r2, r3, r4, r5)) :
  Calls Try.prog 81 #[.iface T gv] w fun e w' => ∃ v0_ v1_ v2_ v3_ : Value, e = .returned (.tuple #[v0_, .agg #[v1_, v2_, v3_], .int .i64 r5]) /\ Kd.R (Kd.int .i64) 3 w' w.heap.size (fun k_ => some k_ ≠ (v1_ : Value).ownBlock /\ some k_ ≠ (v3_ : Value).ownBlock) v0_ r1 /\ Kd.R (Kd.int .i64) 3 w' w.heap.size (fun k_ => some k_ ≠ (v0_ : Value).ownBlock /\ some k_ ≠ (v3_ : Value).ownBlock) v1_ r2 /\ Kd.R Kd.bool 4 w' w.heap.size (fun _ => True) v2_ r3 /\ Kd.R (Kd.int .i64) 3 w' w.heap.size (fun k_ => some k_ ≠ (v0_ : Value).ownBlock /\ some k_ ≠ (v1_ : Value).ownBlock) v3_ r4 /\ Below w.heap.size w w' := by
 have Vj := Try.underlying88; have HG := Z_ hG; clear hG; have HB := Z_ (Below.refl w.heap.size w); have H : ((d_all.f k ae ac).bind fun nP => ((d_grow.f k ae ac nP).bind fun qR => (if qR.2.2.2 >= 0 then (some (([] : List Int), qR.1, qR.2.1, qR.2.2.1, qR.2.2.2)) else ((s_Clone_int_int.f qR.1).bind fun uP => (d_solve.l0 k uP (uP.length : Int) 0 qR.1 qR.2.1 qR.2.2.1))))) = some (r1, r2, r3, r4, r5) := h; clear h; replace H := oS_.mp H; obtain ⟨nP, A20, H⟩ := H; replace H : ((d_grow.f k ae ac nP).bind fun qR => (if qR.2.2.2 >= 0 then (some (([] : List Int), qR.1, qR.2.1, qR.2.2.1, qR.2.2.2)) else ((s_Clone_int_int.f qR.1).bind fun uP => (d_solve.l0 k uP (uP.length : Int) 0 qR.1 qR.2.1 qR.2.2.1)))) = some (r1, r2, r3, r4, r5) := H; have A2 := Z_ A20; clear A20; replace H := oS_.mp H; obtain ⟨⟨iD, mu, ni, ahx⟩, A30, H⟩ := H; replace H : (if ahx >= 0 then (some (([] : List Int), iD, mu, ni, ahx)) else ((s_Clone_int_int.f iD).bind fun uP => (d_solve.l0 k uP (uP.length : Int) 0 iD mu ni))) = some (r1, r2, r3, r4, r5) := H; have A3 := Z_ A30; clear A30; by_cases c4 : ahx >= 0
 .rw [if_pos c4] at H
  replace c4 : decide (0 <= ahx) = true := eT_ c4; simp only [oJ_, pI_] at H; obtain ⟨rfl, rfl, rfl, rfl, rfl⟩ := H; go_enter Try.func81, Try.ntmps81; try go_wp2_with (first | ((with_reducible refine gate_dst (N := 3) rfl ?_); refine bX_ 3 #[.slice none 0 0, .slice none 0 0, .slice none 0 0] 88 ?_; intro gV hg w5 hbox hb; have iA := Z_ (hbox); have aXX := Z_ ((by rw [hg]; exact (fZ_ hB_) : w.heap.size <= gV)); have agL := Z_ ((by rw [hg]; exact (fZ_ hB_) : w.heap.size <= gV)); replace HB := Z_ (fS_ hB_ hb); clear hb hbox hg) | ((with_reducible refine gate_callee (f := 111) rfl ?_); refine gL_ (some 12) Try.func111 #[.iface T gv] ?_; (with_reducible refine (d_all.any k T gv ae ac nP _ ?side1 A2.out).mono ?_); (case side1 => exact HG.out.below (by repeat (first | exact HB.out | apply fA_ | apply pB_ | apply fD_ | refine fE_ ?_ agL.out))); rintro e w6 ⟨aLA, rfl, ho0, hb⟩; refine ⟨_, rfl, ?_⟩; have mr := Z_ (rL_ ho0 (fZ_ hB_)); replace iA := Z_ (bS_ iA.out hb); replace HB := Z_ (fS_ hB_ hb); (try clear hb); (try clear ho0); obtain ⟨Ao7, co7, eo7⟩ := rS_ mr.out; subst eo7) | ((with_reducible refine gate_callee (f := 82) rfl ?_); refine gL_ (some 13) Try.func82 #[.iface T gv, .slice Ao7 nP.length co7] ?_; (with_reducible refine (d_grow.any k T gv ae ac _ _ nP iD mu ni ahx _ ?side1 ?side3 ?side4 A3.out).mono ?_); (case side1 => exact HG.out.below (by repeat (first | exact HB.out | apply fA_ | apply pB_ | apply fD_ | refine fE_ ?_ agL.out))); (case side3 => exact cS_ (rR_ mr.out).2.2); (case side4 => exact (rR_ mr.out).2.1); rintro e w8 ⟨ayr, ayq, a2Z, rfl, ho0, ho1, ho2, hb⟩; refine ⟨_, rfl, ?_⟩; have pB := Z_ (rL_ (Kd.R_new' ho0 (Kd.R_lt (rK_ mr.out))) (fZ_ hB_)); have pY := Z_ (rL_ ho1 (fZ_ hB_)); have As := Z_ (rL_ (Kd.R_new' ho2 (Kd.R_lt (rK_ mr.out))) (fZ_ hB_)); replace mr := Z_ (rM_ (Kd.R_told (Kd.R_told (Kd.R_old (rK_ mr.out) hb) (Kd.R_base ho0)) (Kd.R_base ho2)) (fun _ h_ => h_.1)); replace iA := Z_ (bS_ iA.out hb); replace HB := Z_ (fS_ hB_ hb); (try clear hb); (try clear ho0); (try clear ho1); (try clear ho2)) | ((with_reducible refine gate_dst (N := 5) rfl ?_); refine bX_ 5 #[.slice none 0 0, .slice none 0 0, .slice none 0 0] 88 ?_; intro eC hg w9 hbox hb; replace mr := Z_ (rB_ (rK_ mr.out) hb); replace pB := Z_ (rB_ (rK_ pB.out) hb); replace pY := Z_ (rB_ (rK_ pY.out) hb); replace As := Z_ (rB_ (rK_ As.out) hb); have lE := Z_ (hbox); have aXW := Z_ ((by rw [hg]; exact (fZ_ hB_) : w.heap.size <= eC)); have aYa := Z_ ((by rw [hg]; exact (fZ_ hB_) : w.heap.size <= eC)); replace HB := Z_ (fS_ hB_ hb); have vS := Z_ ((nB_ hg iA.out : gV ≠ eC)); have gp := Z_ ((by rw [hg]; exact Nat.ne_of_gt (blk_lt (g := gV) (o := .cells #[.slice none 0 0, .slice none 0 0, .slice none 0 0] 88 (0, 0)) (bR_ iA.out)) : eC ≠ gV)); replace iA := Z_ (bS_ iA.out hb); clear hb hbox hg; obtain ⟨ri, re, aiC⟩ := rS_ pB.out; subst aiC; have aCo := gp.out; have aB3 := vS.out; obtain ⟨⟨lS, lR, H2⟩, lO, lN, Hx⟩ := f3_ lE.out; obtain ⟨tj, sW, aiB⟩ := rS_ pY.out; subst aiB; obtain ⟨CO, Cw, aoJ⟩ := rS_ As.out; subst aoJ))
  have n0_ : Aside0 (Kd.R (Kd.int .i64) 3 (((w9.setCell ⟨eC, 0, none⟩ (.slice ri iD.length re)).setCell ⟨eC, 1, none⟩ (.slice tj mu.length sW)).setCell ⟨eC, 2, none⟩ (.slice CO ni.length Cw)) w.heap.size (fun k_ => some k_ ≠ (.slice ri iD.length re : Value).ownBlock /\ some k_ ≠ (.slice CO ni.length Cw : Value).ownBlock) (.slice Ao7 nP.length co7) nP) := ⟨by (with_reducible repeat (first | apply rA_ | apply rN_ | apply rD_)); exact rM_ (rF_ (p := ⟨eC, 2, none⟩) (rF_ (p := ⟨eC, 1, none⟩) (rF_ (p := ⟨eC, 0, none⟩) (Kd.R_types mr.out lE.out (by decide)) (fun _ hk => hk.2) (.slice ri iD.length re)) (fun _ hk => hk.2) (.slice tj mu.length sW)) (fun _ hk => hk.2) (.slice CO ni.length Cw)) (fun _ hk => ⟨hk.1.1.2, hk.1.2⟩)⟩; have n1_ : Aside0 (Kd.R (Kd.int .i64) 3 (((w9.setCell ⟨eC, 0, none⟩ (.slice ri iD.length re)).setCell ⟨eC, 1, none⟩ (.slice tj mu.length sW)).setCell ⟨eC, 2, none⟩ (.slice CO ni.length Cw)) w.heap.size (fun k_ => some k_ ≠ (.slice Ao7 nP.length co7 : Value).ownBlock /\ some k_ ≠ (.slice CO ni.length Cw : Value).ownBlock) (.slice ri iD.length re) iD) := ⟨by (with_reducible repeat (first | apply rA_ | apply rN_ | apply rD_)); exact rM_ (rF_ (p := ⟨eC, 2, none⟩) (rF_ (p := ⟨eC, 1, none⟩) (rF_ (p := ⟨eC, 0, none⟩) (Kd.R_types pB.out lE.out (by decide)) (fun _ hk => hk.2) (.slice ri iD.length re)) (fun _ hk => hk.2) (.slice tj mu.length sW)) (fun _ hk => hk.2) (.slice CO ni.length Cw)) (fun _ hk => ⟨hk.1.2, hk.1.1⟩)⟩; have n2_ : Aside0 (Kd.R Kd.bool 4 (((w9.setCell ⟨eC, 0, none⟩ (.slice ri iD.length re)).setCell ⟨eC, 1, none⟩ (.slice tj mu.length sW)).setCell ⟨eC, 2, none⟩ (.slice CO ni.length Cw)) w.heap.size (fun _ => True) (.slice tj mu.length sW) mu) := ⟨by (with_reducible repeat (first | apply rA_ | apply rN_ | apply rD_)); exact rM_ (rF_ (p := ⟨eC, 2, none⟩) (rF_ (p := ⟨eC, 1, none⟩) (rF_ (p := ⟨eC, 0, none⟩) (Kd.R_types pY.out lE.out (by decide)) (fun _ hk => hk.2) (.slice ri iD.length re)) (fun _ hk => hk.2) (.slice tj mu.length sW)) (fun _ hk => hk.2) (.slice CO ni.length Cw)) (fun _ hk => trivial)⟩; have n3_ : Aside0 (Kd.R (Kd.int .i64) 3 (((w9.setCell ⟨eC, 0, none⟩ (.slice ri iD.length re)).setCell ⟨eC, 1, none⟩ (.slice tj mu.length sW)).setCell ⟨eC, 2, none⟩ (.slice CO ni.length Cw)) w.heap.size (fun k_ => some k_ ≠ (.slice Ao7 nP.length co7 : Value).ownBlock /\ some k_ ≠ (.slice ri iD.length re : Value).ownBlock) (.slice CO ni.length Cw) ni) := ⟨by (with_reducible repeat (first | apply rA_ | apply rN_ | apply rD_)); exact rM_ (rF_ (p := ⟨eC, 2, none⟩) (rF_ (p := ⟨eC, 1, none⟩) (rF_ (p := ⟨eC, 0, none⟩) (Kd.R_types As.out lE.out (by decide)) (fun _ hk => hk.2) (.slice ri iD.length re)) (fun _ hk => hk.2) (.slice tj mu.length sW)) (fun _ hk => hk.2) (.slice CO ni.length Cw)) (fun _ hk => ⟨hk.1.2, hk.1.1⟩)⟩; have n4_ : Aside0 ((((w9.setCell ⟨eC, 0, none⟩ (.slice ri iD.length re)).setCell ⟨eC, 1, none⟩ (.slice tj mu.length sW)).setCell ⟨eC, 2, none⟩ (.slice CO ni.length Cw)).heap[gV]? = some (.cells #[.slice none 0 0, .slice none 0 0, .slice none 0 0] 88 (0, 0))) := ⟨bQ_ iA.out⟩; have n5_ : Aside0 ((((w9.setCell ⟨eC, 0, none⟩ (.slice ri iD.length re)).setCell ⟨eC, 1, none⟩ (.slice tj mu.length sW)).setCell ⟨eC, 2, none⟩ (.slice CO ni.length Cw)).heap[eC]? = some (.cells #[.slice ri iD.length re, .slice tj mu.length sW, .slice CO ni.length Cw] 88 (0, 0))) := ⟨by (with_reducible repeat (first | refine bN_ ?_ _ | refine bD_ ?_ | refine bA_ ?_ _)); refine blk_put (cs := #[.slice ri iD.length re, .slice tj mu.length sW, .slice none 0 0]) ?_ 2 _ rfl; (with_reducible repeat (first | refine bN_ ?_ _ | refine bD_ ?_ | refine bA_ ?_ _)); refine blk_put (cs := #[.slice ri iD.length re, .slice none 0 0, .slice none 0 0]) ?_ 1 _ rfl; (with_reducible repeat (first | refine bN_ ?_ _ | refine bD_ ?_ | refine bA_ ?_ _)); refine blk_put (cs := #[.slice none 0 0, .slice none 0 0, .slice none 0 0]) ?_ 0 _ rfl; (with_reducible repeat (first | refine bN_ ?_ _ | refine bD_ ?_ | refine bA_ ?_ _)); exact lE.out⟩; have n6_ : Aside0 (Below w.heap.size w (((w9.setCell ⟨eC, 0, none⟩ (.slice ri iD.length re)).setCell ⟨eC, 1, none⟩ (.slice tj mu.length sW)).setCell ⟨eC, 2, none⟩ (.slice CO ni.length Cw))) := ⟨hB_⟩; (try clear mr)
  (try clear pB)
  (try clear pY)
  (try clear As)
  (try clear iA)
  (try clear lE)
  (try clear HB)
  generalize (((w9.setCell ⟨eC, 0, none⟩ (.slice ri iD.length re)).setCell ⟨eC, 1, none⟩ (.slice tj mu.length sW)).setCell ⟨eC, 2, none⟩ (.slice CO ni.length Cw)) = w15 at n0_ n1_ n2_ n3_ n4_ n5_ n6_ ⊢; have mr := n0_; have pB := n1_; have pY := n2_; have As := n3_; have iA := n4_; have lE := n5_; have HB := n6_; clear n0_ n1_ n2_ n3_ n4_ n5_ n6_; replace mr := Z_ (rD_ mr.out); replace pB := Z_ (rD_ pB.out); replace pY := Z_ (rD_ pY.out); replace As := Z_ (rD_ As.out); replace iA := Z_ (bD_ iA.out); replace lE := Z_ (bD_ lE.out); replace HB := Z_ (fD_ HB.out); refine start_ (n := 5) (S := fun w' => w'.cell? ⟨eC, 0, none⟩ = some (.slice ri iD.length re) /\ w'.cell? ⟨eC, 1, none⟩ = some (.slice tj mu.length sW) /\ w'.cell? ⟨eC, 2, none⟩ = some (.slice CO ni.length Cw)) (ds := []) _ (by kernel_rfl) rfl rfl ⟨(bC_ lE.out 0).trans rfl, (bC_ lE.out 1).trans rfl, (bC_ lE.out 2).trans rfl⟩ (fun hHeld => ?_); generalize w15.drew = w16 at mr pB pY As iA lE HB hHeld ⊢; refine pP_ 1 19 ?_; refine pP_ 2 2 ?_; refine pT_ 0 18 ?_; refine oN_ 3 none (fun K hK => ?_); have bhG : w16.cell? ⟨gV, 0, none⟩ = some (.slice none 0 0) := (bC_ iA.out 0).trans rfl; have bbp := bF_ iA.out 0; have aZT := gp.out; have a0T := vS.out; have bhF : w16.cell? ⟨gV, 1, none⟩ = some (.slice none 0 0) := (bC_ iA.out 1).trans rfl; have bbo := bF_ iA.out 1; have aZS := gp.out; have a0S := vS.out; have bhE : w16.cell? ⟨gV, 2, none⟩ = some (.slice none 0 0) := (bC_ iA.out 2).trans rfl; have bbn := bF_ iA.out 2; have aZR := gp.out; have a0R := vS.out; refine skip_ (w1 := ?_) (by rfl) rfl ?_ ?_; rotate_left
  .go_simp
   rfl
  refine hK.out _ _ ⟨((cell_far (p := ⟨gV, _, none⟩) gp.out _).trans (((cell_far (p := ⟨gV, _, none⟩) gp.out _).trans (((cell_far (p := ⟨gV, _, none⟩) gp.out _).trans (hHeld.1)))))), ((cell_far (p := ⟨gV, _, none⟩) gp.out _).trans (((cell_far (p := ⟨gV, _, none⟩) gp.out _).trans (((cell_far (p := ⟨gV, _, none⟩) gp.out _).trans (hHeld.2.1)))))), ((cell_far (p := ⟨gV, _, none⟩) gp.out _).trans (((cell_far (p := ⟨gV, _, none⟩) gp.out _).trans (((cell_far (p := ⟨gV, _, none⟩) gp.out _).trans (hHeld.2.2))))))⟩ (fun hHeld => ?_); clear hK K; refine pP_ 4 4 ?_; refine dN_ ?_; try go_wp2
  refine bodyPost_ret (results_list (rs := [.tmp 2, .cell 3 88, .tmp 4]) rfl (by simp) (.tmp (.cell gV 88 #[.slice ri iD.length re, .slice tj mu.length sW, .slice CO ni.length Cw] (0, 0) _ rfl (by (with_reducible repeat (first | refine bN_ ?_ _ | refine bD_ ?_ | refine bA_ ?_ _)); refine blk_put (cs := #[.slice ri iD.length re, .slice tj mu.length sW, .slice none 0 0]) ?_ 2 _ rfl; (with_reducible repeat (first | refine bN_ ?_ _ | refine bD_ ?_ | refine bA_ ?_ _)); refine blk_put (cs := #[.slice ri iD.length re, .slice none 0 0, .slice none 0 0]) ?_ 1 _ rfl; (with_reducible repeat (first | refine bN_ ?_ _ | refine bD_ ?_ | refine bA_ ?_ _)); refine blk_put (cs := #[.slice none 0 0, .slice none 0 0, .slice none 0 0]) ?_ 0 _ rfl; (with_reducible repeat (first | refine bN_ ?_ _ | refine bD_ ?_ | refine bA_ ?_ _)); exact iA.out) Try.underlying88 rfl (by kernel_rfl) (.tmp .nil)))) rfl ?_; exact ⟨_, _, _, _, eW_, by first | exact Kd.R_nil _ _ _ _ _ | exact Kd.N_nil _ _ _ _ _ | exact Kd.V_nil _ _ _ _ _ | exact Kd.Q_nil _ _ _ _ _ | exact Kd.S_nil _ _ _ _ _, by (with_reducible repeat (first | apply rA_ | apply rN_ | apply rD_)); exact rM_ (rF_ (p := ⟨gV, 2, none⟩) (rF_ (p := ⟨gV, 1, none⟩) (rF_ (p := ⟨gV, 0, none⟩) (Kd.R_types pB.out iA.out (by decide)) (fun _ hk => hk.2) (.slice ri iD.length re)) (fun _ hk => hk.2) (.slice tj mu.length sW)) (fun _ hk => hk.2) (.slice CO ni.length Cw)) (fun _ hk => ⟨(by simp [Value.ownBlock]), hk.1.2⟩), by (with_reducible repeat (first | apply rA_ | apply rN_ | apply rD_)); exact rM_ (rF_ (p := ⟨gV, 2, none⟩) (rF_ (p := ⟨gV, 1, none⟩) (rF_ (p := ⟨gV, 0, none⟩) (Kd.R_types pY.out iA.out (by decide)) (fun _ hk => hk.2) (.slice ri iD.length re)) (fun _ hk => hk.2) (.slice tj mu.length sW)) (fun _ hk => hk.2) (.slice CO ni.length Cw)) (fun _ hk => trivial), by (with_reducible repeat (first | apply rA_ | apply rN_ | apply rD_)); exact rM_ (rF_ (p := ⟨gV, 2, none⟩) (rF_ (p := ⟨gV, 1, none⟩) (rF_ (p := ⟨gV, 0, none⟩) (Kd.R_types As.out iA.out (by decide)) (fun _ hk => hk.2) (.slice ri iD.length re)) (fun _ hk => hk.2) (.slice tj mu.length sW)) (fun _ hk => hk.2) (.slice CO ni.length Cw)) (fun _ hk => ⟨(by simp [Value.ownBlock]), hk.1.2⟩), hB_⟩
 rw [if_neg c4] at H; replace c4 : decide (0 <= ahx) = false := eF_ c4; replace H := oS_.mp H; obtain ⟨uP, G0, H⟩ := H; replace H : (d_solve.l0 k uP (uP.length : Int) 0 iD mu ni) = some (r1, r2, r3, r4, r5) := H; have A20 := Z_ G0; clear G0; have H' := Z_ H; clear H; go_enter Try.func81, Try.ntmps81; go_wp2_with (first | ((with_reducible refine gate_dst (N := 3) rfl ?_); refine bX_ 3 #[.slice none 0 0, .slice none 0 0, .slice none 0 0] 88 ?_; intro gV hg w21 hbox hb; have iA := Z_ (hbox); have aXX := Z_ ((by rw [hg]; exact (fZ_ hB_) : w.heap.size <= gV)); have agL := Z_ ((by rw [hg]; exact (fZ_ hB_) : w.heap.size <= gV)); replace HB := Z_ (fS_ hB_ hb); clear hb hbox hg) | ((with_reducible refine gate_callee (f := 111) rfl ?_); refine gL_ (some 12) Try.func111 #[.iface T gv] ?_; (with_reducible refine (d_all.any k T gv ae ac nP _ ?side1 A2.out).mono ?_); (case side1 => exact HG.out.below (by repeat (first | exact HB.out | apply fA_ | apply pB_ | apply fD_ | refine fE_ ?_ agL.out))); rintro e w22 ⟨aLA, rfl, ho0, hb⟩; refine ⟨_, rfl, ?_⟩; have mr := Z_ (rL_ ho0 (fZ_ hB_)); replace iA := Z_ (bS_ iA.out hb); replace HB := Z_ (fS_ hB_ hb); (try clear hb); (try clear ho0); obtain ⟨EO, wH, afK⟩ := rS_ mr.out; subst afK) | ((with_reducible refine gate_callee (f := 82) rfl ?_); refine gL_ (some 13) Try.func82 #[.iface T gv, .slice EO nP.length wH] ?_; (with_reducible refine (d_grow.any k T gv ae ac _ _ nP iD mu ni ahx _ ?side1 ?side3 ?side4 A3.out).mono ?_); (case side1 => exact HG.out.below (by repeat (first | exact HB.out | apply fA_ | apply pB_ | apply fD_ | refine fE_ ?_ agL.out))); (case side3 => exact cS_ (rR_ mr.out).2.2); (case side4 => exact (rR_ mr.out).2.1); rintro e w24 ⟨ayr, ayq, a2Z, rfl, ho0, ho1, ho2, hb⟩; refine ⟨_, rfl, ?_⟩; have pB := Z_ (rL_ (Kd.R_new' ho0 (Kd.R_lt (rK_ mr.out))) (fZ_ hB_)); have pY := Z_ (rL_ ho1 (fZ_ hB_)); have As := Z_ (rL_ (Kd.R_new' ho2 (Kd.R_lt (rK_ mr.out))) (fZ_ hB_)); replace mr := Z_ (rM_ (Kd.R_told (Kd.R_told (Kd.R_old (rK_ mr.out) hb) (Kd.R_base ho0)) (Kd.R_base ho2)) (fun _ h_ => h_.1)); replace iA := Z_ (bS_ iA.out hb); replace HB := Z_ (fS_ hB_ hb); (try clear hb); (try clear ho0); (try clear ho1); (try clear ho2)) | ((with_reducible refine gate_dst (N := 5) rfl ?_); refine bX_ 5 #[.slice none 0 0, .slice none 0 0, .slice none 0 0] 88 ?_; intro eC hg w25 hbox hb; replace mr := Z_ (rB_ (rK_ mr.out) hb); replace pB := Z_ (rB_ (rK_ pB.out) hb); replace pY := Z_ (rB_ (rK_ pY.out) hb); replace As := Z_ (rB_ (rK_ As.out) hb); have lE := Z_ (hbox); have aXW := Z_ ((by rw [hg]; exact (fZ_ hB_) : w.heap.size <= eC)); have aYa := Z_ ((by rw [hg]; exact (fZ_ hB_) : w.heap.size <= eC)); replace HB := Z_ (fS_ hB_ hb); have vS := Z_ ((nB_ hg iA.out : gV ≠ eC)); have gp := Z_ ((by rw [hg]; exact Nat.ne_of_gt (blk_lt (g := gV) (o := .cells #[.slice none 0 0, .slice none 0 0, .slice none 0 0] 88 (0, 0)) (bR_ iA.out)) : eC ≠ gV)); replace iA := Z_ (bS_ iA.out hb); clear hb hbox hg; obtain ⟨CH, Ac, aIN⟩ := rS_ pB.out; subst aIN; have Vr := gp.out; have Vn := vS.out; obtain ⟨⟨qL, qK, N6⟩, qH, qG, NS⟩ := f3_ lE.out; obtain ⟨s8, sV, abA⟩ := rS_ pY.out; subst abA; obtain ⟨oP, oJ, Ph⟩ := rS_ As.out; subst Ph) | ((with_reducible refine gate_callee (f := 99) rfl ?_); refine gL_ (some 22) Try.func99 #[.slice CH iD.length Ac] ?_; (with_reducible refine (s_Clone_int_int.calls _ _ iD uP _ ?side1 ?side2 A20.out).mono ?_); (case side1 => refine (rR_ (e := 3) (base := w.heap.size) (ok := fun k_ => (some k_ ≠ (.slice oP ni.length oJ : Value).ownBlock /\ some k_ ≠ (.slice EO nP.length wH : Value).ownBlock)) (n := iD.length) (c := Ac) ?_).2.2; exact (rK_ (rM_ (rF_ (p := ⟨eC, 2, none⟩) (rF_ (p := ⟨eC, 1, none⟩) (rF_ (p := ⟨eC, 0, none⟩) (Kd.R_types pB.out lE.out (by decide)) (fun _ hk => hk.2) (.slice CH iD.length Ac)) (fun _ hk => hk.2) (.slice s8 mu.length sV)) (fun _ hk => hk.2) (.slice oP ni.length oJ)) (fun _ h_ => h_.1)))); (case side2 => exact (rR_ pB.out).2.1); rintro e w31 ⟨a2X, rfl, ho0, hb⟩; refine ⟨_, rfl, ?_⟩; replace pY := Z_ (rB_ (rK_ (rM_ (rF_ (p := ⟨eC, 2, none⟩) (rF_ (p := ⟨eC, 1, none⟩) (rF_ (p := ⟨eC, 0, none⟩) (Kd.R_types pY.out lE.out (by decide)) (fun _ hk => hk.2) (.slice CH iD.length Ac)) (fun _ hk => hk.2) (.slice s8 mu.length sV)) (fun _ hk => hk.2) (.slice oP ni.length oJ)) (fun _ h_ => h_.1))) hb); have WE := Z_ (rL_ (Kd.R_new' (Kd.R_new' (Kd.R_new' ho0 (Kd.R_lt (rK_ (rM_ (rF_ (p := ⟨eC, 2, none⟩) (rF_ (p := ⟨eC, 1, none⟩) (rF_ (p := ⟨eC, 0, none⟩) (Kd.R_types mr.out lE.out (by decide)) (fun _ hk => hk.2) (.slice CH iD.length Ac)) (fun _ hk => hk.2) (.slice s8 mu.length sV)) (fun _ hk => hk.2) (.slice oP ni.length oJ)) (fun _ h_ => h_.1))))) (Kd.R_lt (rK_ (rM_ (rF_ (p := ⟨eC, 2, none⟩) (rF_ (p := ⟨eC, 1, none⟩) (rF_ (p := ⟨eC, 0, none⟩) (Kd.R_types pB.out lE.out (by decide)) (fun _ hk => hk.2) (.slice CH iD.length Ac)) (fun _ hk => hk.2) (.slice s8 mu.length sV)) (fun _ hk => hk.2) (.slice oP ni.length oJ)) (fun _ h_ => h_.1))))) (Kd.R_lt (rK_ (rM_ (rF_ (p := ⟨eC, 2, none⟩) (rF_ (p := ⟨eC, 1, none⟩) (rF_ (p := ⟨eC, 0, none⟩) (Kd.R_types As.out lE.out (by decide)) (fun _ hk => hk.2) (.slice CH iD.length Ac)) (fun _ hk => hk.2) (.slice s8 mu.length sV)) (fun _ hk => hk.2) (.slice oP ni.length oJ)) (fun _ h_ => h_.1))))) (fZ_ hB_)); replace mr := Z_ (Kd.R_elder' (rK_ (rM_ (rF_ (p := ⟨eC, 2, none⟩) (rF_ (p := ⟨eC, 1, none⟩) (rF_ (p := ⟨eC, 0, none⟩) (Kd.R_types mr.out lE.out (by decide)) (fun _ hk => hk.2) (.slice CH iD.length Ac)) (fun _ hk => hk.2) (.slice s8 mu.length sV)) (fun _ hk => hk.2) (.slice oP ni.length oJ)) (fun _ h_ => h_.1))) (Kd.R_base ho0) hb); replace pB := Z_ (Kd.R_elder' (rK_ (rM_ (rF_ (p := ⟨eC, 2, none⟩) (rF_ (p := ⟨eC, 1, none⟩) (rF_ (p := ⟨eC, 0, none⟩) (Kd.R_types pB.out lE.out (by decide)) (fun _ hk => hk.2) (.slice CH iD.length Ac)) (fun _ hk => hk.2) (.slice s8 mu.length sV)) (fun _ hk => hk.2) (.slice oP ni.length oJ)) (fun _ h_ => h_.1))) (Kd.R_base ho0) hb); replace As := Z_ (Kd.R_elder' (rK_ (rM_ (rF_ (p := ⟨eC, 2, none⟩) (rF_ (p := ⟨eC, 1, none⟩) (rF_ (p := ⟨eC, 0, none⟩) (Kd.R_types As.out lE.out (by decide)) (fun _ hk => hk.2) (.slice CH iD.length Ac)) (fun _ hk => hk.2) (.slice s8 mu.length sV)) (fun _ hk => hk.2) (.slice oP ni.length oJ)) (fun _ h_ => h_.1))) (Kd.R_base ho0) hb); replace iA := Z_ (bB_ (g := gV) (o := .cells #[.slice none 0 0, .slice none 0 0, .slice none 0 0] 88 (0, 0)) (bQ_ iA.out) hb); replace lE := Z_ (bB_ (g := eC) (o := .cells #[.slice CH iD.length Ac, .slice s8 mu.length sV, .slice oP ni.length oJ] 88 (0, 0)) (by (with_reducible repeat (first | refine bN_ ?_ _ | refine bD_ ?_ | refine bA_ ?_ _)); refine blk_put (cs := #[.slice CH iD.length Ac, .slice s8 mu.length sV, .slice none 0 0]) ?_ 2 _ rfl; (with_reducible repeat (first | refine bN_ ?_ _ | refine bD_ ?_ | refine bA_ ?_ _)); refine blk_put (cs := #[.slice CH iD.length Ac, .slice none 0 0, .slice none 0 0]) ?_ 1 _ rfl; (with_reducible repeat (first | refine bN_ ?_ _ | refine bD_ ?_ | refine bA_ ?_ _)); refine blk_put (cs := #[.slice none 0 0, .slice none 0 0, .slice none 0 0]) ?_ 0 _ rfl; (with_reducible repeat (first | refine bN_ ?_ _ | refine bD_ ?_ | refine bA_ ?_ _)); exact lE.out) hb); replace HB := Z_ (fS_ hB_ hb); (try clear hb); (try clear ho0); obtain ⟨J7, JD, Q8⟩ := rS_ WE.out; subst Q8)); go_loopg [25] k (fun kq v25 w' => ∃ (eB : List Int) (rm : Int), v25 = .int .i64 rm /\ Aside0 (d_solve.l0 kq eB (uP.length : Int) rm iD mu ni = some (r1, r2, r3, r4, r5)) /\ Aside0 (kq <= k) /\ Aside0 (Kd.R (Kd.int .i64) 3 w' w.heap.size (fun k_ => some k_ ≠ ((.slice CH iD.length Ac) : Value).ownBlock /\ some k_ ≠ ((.slice oP ni.length oJ) : Value).ownBlock) (.slice J7 uP.length JD) eB) /\ Aside0 (Kd.R (Kd.int .i64) 3 w' w.heap.size (fun k_ => some k_ ≠ ((.slice J7 uP.length JD) : Value).ownBlock /\ some k_ ≠ ((.slice oP ni.length oJ) : Value).ownBlock) (.slice CH iD.length Ac) iD) /\ Aside0 (Kd.R Kd.bool 4 w' w.heap.size (fun _ => True) (.slice s8 mu.length sV) mu) /\ Aside0 (Kd.R (Kd.int .i64) 3 w' w.heap.size (fun k_ => some k_ ≠ ((.slice J7 uP.length JD) : Value).ownBlock /\ some k_ ≠ ((.slice CH iD.length Ac) : Value).ownBlock) (.slice oP ni.length oJ) ni) /\ Aside0 (w'.heap[gV]? = some (.cells #[(.slice none 0 0), (.slice none 0 0), (.slice none 0 0)] 88 (0, 0))) /\ Aside0 (w'.heap[eC]? = some (.cells #[(.slice CH iD.length Ac), (.slice s8 mu.length sV), (.slice oP ni.length oJ)] 88 (0, 0))) /\ Aside0 (Below w.heap.size w w'))
 case atStart => exact ⟨(uP), (0), rf_, H', ⟨nR_ _⟩, ⟨by (with_reducible repeat (first | apply rA_ | apply rN_ | apply rD_)); exact rM_ WE.out (fun _ hk => ⟨hk.1.2, hk.2⟩)⟩, ⟨by (with_reducible repeat (first | apply rA_ | apply rN_ | apply rD_)); exact rM_ pB.out (fun _ hk => ⟨hk.2, hk.1.1⟩)⟩, ⟨rK_ pY.out⟩, ⟨by (with_reducible repeat (first | apply rA_ | apply rN_ | apply rD_)); exact rM_ As.out (fun _ hk => ⟨hk.2, hk.1.1⟩)⟩, ⟨bR_ iA.out⟩, ⟨bR_ lE.out⟩, ⟨hB_⟩⟩
 case round =>
  clear H'; obtain ⟨eB, rm, rfl, HA, HK1, au, tF, vV, vT, iA, lE, HB⟩ := hrel; have Ea := (rR_ au.out).1; rw [Ea] at au; (try simp only [Ea])
  (try simp only [Ea] at iA)
  (try simp only [Ea] at lE)
  (try simp only [Ea] at tF)
  (try simp only [Ea] at vV)
  (try simp only [Ea] at vT)
  cases gk with
  | zero => exact absurd HA.out (by simp [d_solve.l0])
  | succ k1 =>
   have H := HA.out; clear HA; simp only [d_solve.l0] at H; by_cases c33 : rm < (uP.length : Int)
   .rw [if_pos c33] at H
    have ww : decide (rm < (uP.length : Int)) = true := eT_ c33; clear c33; by_cases c34 : 0 <= rm
    .rw [if_pos c34] at H
     replace c34 := eT_ c34; by_cases c35 : rm < (eB.length : Int)
     .rw [if_pos c35] at H
      replace c35 := eT_ c35; by_cases c36 : 0 < (iD.length : Int)
      .rw [if_pos c36] at H
       have Ep : decide (0 < (iD.length : Int)) = true := eT_ c36; have am0 : decide (0 < iD.length) = true := eT_ (by omega); clear c36; obtain ⟨aLl, aeh⟩ : ∃ y_ : List Int, y_ = (eB.set (rm : Int).toNat (wrap64 ((rd eB rm) - (rd iD 0)))) := ⟨_, rfl⟩; replace H : (d_solve.l0 k1 aLl (uP.length : Int) (wrap64 (rm + 1)) iD mu ni) = some (r1, r2, r3, r4, r5) := by first | (rw [aeh]; with_reducible exact H) | (have H2_ := (oB_ _ _).symm.trans H; rw [aeh]; with_reducible exact H2_) | (have H2_ := (oB_ _ _).symm.trans H; with_reducible exact H2_) | with_reducible exact H | (rw [aeh]; exact H) | exact H
       have aWJ := Z_ aeh; clear aeh; have H' := Z_ H; clear H; try go_wp2
       replace au := Z_ (rD_ au.out); replace tF := Z_ (rD_ tF.out); replace vV := Z_ (rD_ vV.out); replace vT := Z_ (rD_ vT.out); replace iA := Z_ (bD_ iA.out); replace lE := Z_ (bD_ lE.out); replace HB := Z_ (fD_ HB.out); have UD : 0 <= (rm : Int) := dT_ as_; have Uk : rm < (eB.length : Int) := dT_ as_; obtain ⟨am8, avx, Ds⟩ := Kd.at_int (rR_ au.out).2.2 rm UD Uk; cases avx
       replace UD := eq_true UD; replace Uk := eq_true Uk; have aii : 0 <= (0 : Int) := (by omega); have ahU : 0 < (iD.length : Int) := dT_ as_; obtain ⟨am7, aJj, Nw⟩ := Kd.at_int (rR_ tF.out).2.2 0 aii ahU; cases aJj
       have baF : (0 < iD.length) = True := eq_true (by omega); (try rw [show ((0 : Int)).toNat = 0 from rfl] at Nw)
       (try rw [Addr.add_zero'] at Nw)
       replace aii := eq_true aii; replace ahU := eq_true ahU; have p37 : 0 <= (rm : Int) := dT_ as_; have q37 : (rm : Int) < ((eB.length : Int) : Int) := dT_ as_; obtain ⟨aoz, V2, abz, aTg, a61, bh1, aXy⟩ := Kd.R_form au.out (by omega); (first | cases abz | (injection abz with ea_ en_ ec_; (first | subst ea_ | (injection ea_ with ea_; subst ea_)); subst ec_; clear en_))
       have bip := Z_ aTg; have aX0 := Z_ aXy; clear aTg a61 aXy; (first | simp only [add_plain] at Ds | skip)
       obtain ⟨aHE, aIv⟩ := Kd.R_celln 0 au.out (rm : Int) p37 q37; replace p37 := eq_true p37; replace q37 := eq_true q37; have aKk := Kd.R_putn au.out (rm : Int) (wrap64 ((rd eB rm) - (rd iD 0))); rw [<- aWJ.out] at aKk; have aW3 := Z_ aKk; clear aKk; refine start_ (n := 11) (S := fun w' => w'.cell? ⟨eC, 0, none⟩ = some (.slice (some am7) iD.length Ac) /\ w'.cell? ⟨eC, 1, none⟩ = some (.slice s8 mu.length sV) /\ w'.cell? ⟨eC, 2, none⟩ = some (.slice oP ni.length oJ) /\ w'.cell? ⟨aoz, (rm).toNat, none⟩ = some (.int .i64 (rd eB rm)) /\ w'.cell? am7 = some (.int .i64 (rd iD 0))) (ds := [10]) _ (by kernel_rfl) rfl rfl ⟨(bC_ lE.out 0).trans rfl, (bC_ lE.out 1).trans rfl, (bC_ lE.out 2).trans rfl, Ds, Nw⟩ (fun hHeld => ?_); refine with_tabW d_solve.tab8 d_solve.bits8 (fun HT_ HW_ => ?_); generalize wr.drew = w38 at au tF vV vT iA lE HB aX0 aW3 aIv Ds Nw aHE hHeld ⊢; refine pP_ 0 28 ?_; refine pP_ 1 29 ?_; refine pP_ 2 30 ?_; refine pP_ 4 32 ?_; refine pT_ 3 31 ?_; refine pT_ 5 33 ?_; refine pP_ 6 34 ?_; refine pT_ 7 35 ?_; refine pP_ 8 36 ?_; refine pP_ 9 37 ?_; refine lN_ 10 none (fun K hK => ?_); refine skip_ (w1 := ?_) (by rfl) rfl ?_ ?_; rotate_left
       .go_simp
        rfl
       refine hK.out _ _ ?_; clear hK K; refine dN_ ?_; try go_wp2
       (try simp only [<- Ea])
       go_roundg k1
       case measure => have := HK1.out; omega
       case rel => exact ⟨(aLl), (wrap64 (rm + 1)), rf_, H', ⟨by have := HK1.out; omega⟩, ⟨by (try simp only [Ea]); (with_reducible repeat (first | apply rA_ | apply rN_ | apply rD_)); exact aW3.out⟩, ⟨by (try simp only [Ea]); (with_reducible repeat (first | apply rA_ | apply rN_ | apply rD_)); exact rM_ (rF_ (p := ⟨aoz, (rm : Int).toNat, none⟩) (rM_ tF.out (fun k_ hk => (⟨hk, fun e_ => hk.1 (by rw [e_]; rfl)⟩ : _ /\ k_ ≠ aoz))) (fun _ hk => hk.2) (.int .i64 (wrap64 ((rd eB rm) - (rd iD 0))))) (fun _ hk => ⟨hk.1.1, hk.1.2⟩)⟩, ⟨by (try simp only [Ea]); (with_reducible repeat (first | apply rA_ | apply rN_ | apply rD_)); exact rM_ (rF_ (p := ⟨aoz, (rm : Int).toNat, none⟩) (Kd.R_types vV.out aX0.out (by decide)) (fun _ hk => hk.2) (.int .i64 (wrap64 ((rd eB rm) - (rd iD 0))))) (fun _ hk => trivial)⟩, ⟨by (try simp only [Ea]); (with_reducible repeat (first | apply rA_ | apply rN_ | apply rD_)); exact rM_ (rF_ (p := ⟨aoz, (rm : Int).toNat, none⟩) (rM_ vT.out (fun k_ hk => (⟨hk, fun e_ => hk.1 (by rw [e_]; rfl)⟩ : _ /\ k_ ≠ aoz))) (fun _ hk => hk.2) (.int .i64 (wrap64 ((rd eB rm) - (rd iD 0))))) (fun _ hk => ⟨hk.1.1, hk.1.2⟩)⟩, ⟨by (try simp only [Ea]); (with_reducible repeat (first | refine bN_ ?_ _ | refine bD_ ?_ | refine bA_ ?_ _)); refine blk_far ?_ (by have h_ := Kd.R_ne au.out iA.out (by decide); intro e_; exact h_ (by rw [e_]; rfl)) _; (with_reducible repeat (first | refine bN_ ?_ _ | refine bD_ ?_ | refine bA_ ?_ _)); exact iA.out⟩, ⟨by (try simp only [Ea]); (with_reducible repeat (first | refine bN_ ?_ _ | refine bD_ ?_ | refine bA_ ?_ _)); refine blk_far ?_ (by have h_ := Kd.R_ne au.out lE.out (by decide); intro e_; exact h_ (by rw [e_]; rfl)) _; (with_reducible repeat (first | refine bN_ ?_ _ | refine bD_ ?_ | refine bA_ ?_ _)); exact lE.out⟩, ⟨hB_⟩⟩
      exact nN_ c36 H
     exact nN_ c35 H
    exact nN_ c34 H
   rw [if_neg c33] at H; have ww : decide (rm < (uP.length : Int)) = false := eF_ c33; have c33z := ww; simp only [Ea] at c33z; clear c33; simp only [oJ_, pI_] at H; obtain ⟨rfl, rfl, rfl, rfl, rfl⟩ := H; try go_wp2
   replace au := Z_ (rD_ au.out); replace tF := Z_ (rD_ tF.out); replace vV := Z_ (rD_ vV.out); replace vT := Z_ (rD_ vT.out); replace iA := Z_ (bD_ iA.out); replace lE := Z_ (bD_ lE.out); replace HB := Z_ (fD_ HB.out); refine start_ (n := 5) (S := fun w' => w'.cell? ⟨eC, 0, none⟩ = some (.slice CH iD.length Ac) /\ w'.cell? ⟨eC, 1, none⟩ = some (.slice s8 mu.length sV) /\ w'.cell? ⟨eC, 2, none⟩ = some (.slice oP ni.length oJ)) (ds := []) _ (by kernel_rfl) rfl rfl ⟨(bC_ lE.out 0).trans rfl, (bC_ lE.out 1).trans rfl, (bC_ lE.out 2).trans rfl⟩ (fun hHeld => ?_); generalize wr.drew = w40 at au tF vV vT iA lE HB hHeld ⊢; refine pP_ 0 39 ?_; refine pP_ 2 2 ?_; refine pT_ 1 40 ?_; refine oN_ 3 none (fun K hK => ?_); have a3D : w40.cell? ⟨gV, 0, none⟩ = some (.slice none 0 0) := (bC_ iA.out 0).trans rfl; have aPQ := bF_ iA.out 0; have azr := gp.out; have azC := vS.out; have bhw : w40.cell? ⟨gV, 1, none⟩ = some (.slice none 0 0) := (bC_ iA.out 1).trans rfl; have bbf := bF_ iA.out 1; have aZm := gp.out; have a0m := vS.out; have a3C : w40.cell? ⟨gV, 2, none⟩ = some (.slice none 0 0) := (bC_ iA.out 2).trans rfl; have aPP := bF_ iA.out 2; have azq := gp.out; have azB := vS.out; refine skip_ (w1 := ?_) (by rfl) rfl ?_ ?_; rotate_left
   .go_simp
    rfl
   refine hK.out _ _ ⟨((cell_far (p := ⟨gV, _, none⟩) gp.out _).trans (((cell_far (p := ⟨gV, _, none⟩) gp.out _).trans (((cell_far (p := ⟨gV, _, none⟩) gp.out _).trans (hHeld.1)))))), ((cell_far (p := ⟨gV, _, none⟩) gp.out _).trans (((cell_far (p := ⟨gV, _, none⟩) gp.out _).trans (((cell_far (p := ⟨gV, _, none⟩) gp.out _).trans (hHeld.2.1)))))), ((cell_far (p := ⟨gV, _, none⟩) gp.out _).trans (((cell_far (p := ⟨gV, _, none⟩) gp.out _).trans (((cell_far (p := ⟨gV, _, none⟩) gp.out _).trans (hHeld.2.2))))))⟩ (fun hHeld => ?_); clear hK K; refine pP_ 4 4 ?_; refine dN_ ?_; try go_wp2
   refine bodyPost_ret (results_list (rs := [.tmp 2, .cell 3 88, .tmp 4]) rfl (by simp) (.tmp (.cell gV 88 #[.slice CH iD.length Ac, .slice s8 mu.length sV, .slice oP ni.length oJ] (0, 0) _ rfl (by (with_reducible repeat (first | refine bN_ ?_ _ | refine bD_ ?_ | refine bA_ ?_ _)); refine blk_put (cs := #[.slice CH iD.length Ac, .slice s8 mu.length sV, .slice none 0 0]) ?_ 2 _ rfl; (with_reducible repeat (first | refine bN_ ?_ _ | refine bD_ ?_ | refine bA_ ?_ _)); refine blk_put (cs := #[.slice CH iD.length Ac, .slice none 0 0, .slice none 0 0]) ?_ 1 _ rfl; (with_reducible repeat (first | refine bN_ ?_ _ | refine bD_ ?_ | refine bA_ ?_ _)); refine blk_put (cs := #[.slice none 0 0, .slice none 0 0, .slice none 0 0]) ?_ 0 _ rfl; (with_reducible repeat (first | refine bN_ ?_ _ | refine bD_ ?_ | refine bA_ ?_ _)); exact iA.out) Try.underlying88 rfl (by kernel_rfl) (.tmp .nil)))) rfl ?_; exact ⟨_, _, _, _, eW_, by (with_reducible repeat (first | apply rA_ | apply rN_ | apply rD_)); exact rM_ (rF_ (p := ⟨gV, 2, none⟩) (rF_ (p := ⟨gV, 1, none⟩) (rF_ (p := ⟨gV, 0, none⟩) (Kd.R_types au.out iA.out (by decide)) (fun _ hk => hk.2) (.slice CH iD.length Ac)) (fun _ hk => hk.2) (.slice s8 mu.length sV)) (fun _ hk => hk.2) (.slice oP ni.length oJ)) (fun _ hk => ⟨hk.1.1, hk.1.2⟩), by (with_reducible repeat (first | apply rA_ | apply rN_ | apply rD_)); exact rM_ (rF_ (p := ⟨gV, 2, none⟩) (rF_ (p := ⟨gV, 1, none⟩) (rF_ (p := ⟨gV, 0, none⟩) (Kd.R_types tF.out iA.out (by decide)) (fun _ hk => hk.2) (.slice CH iD.length Ac)) (fun _ hk => hk.2) (.slice s8 mu.length sV)) (fun _ hk => hk.2) (.slice oP ni.length oJ)) (fun _ hk => ⟨hk.1.1, hk.1.2⟩), by (with_reducible repeat (first | apply rA_ | apply rN_ | apply rD_)); exact rM_ (rF_ (p := ⟨gV, 2, none⟩) (rF_ (p := ⟨gV, 1, none⟩) (rF_ (p := ⟨gV, 0, none⟩) (Kd.R_types vV.out iA.out (by decide)) (fun _ hk => hk.2) (.slice CH iD.length Ac)) (fun _ hk => hk.2) (.slice s8 mu.length sV)) (fun _ hk => hk.2) (.slice oP ni.length oJ)) (fun _ hk => trivial), by (with_reducible repeat (first | apply rA_ | apply rN_ | apply rD_)); exact rM_ (rF_ (p := ⟨gV, 2, none⟩) (rF_ (p := ⟨gV, 1, none⟩) (rF_ (p := ⟨gV, 0, none⟩) (Kd.R_types vT.out iA.out (by decide)) (fun _ hk => hk.2) (.slice CH iD.length Ac)) (fun _ hk => hk.2) (.slice s8 mu.length sV)) (fun _ hk => hk.2) (.slice oP ni.length oJ)) (fun _ hk => ⟨hk.1.1, hk.1.2⟩), hB_⟩
end Go.Proofs.Ytpolojoeabmhdaa.A
/- grow over a net as it stands: its two methods, and what grow answers. -/
namespace Go.Proofs.Ytpolojoeabmhdaa.A
open Go.RowKit Go.Proofs.YtpolojoeabmhdaaW.PrintWords Go.Proofs.YtpolojoeabmhdaaW.PrintLast Go.Proofs.YtpolojoeabmhdaaW.PrintMore
set_option maxHeartbeats 8000000
theorem plain_nodes.calls (n : Int) (A : Option Addr) (m c : Nat) (w : World) :
  Calls Try.prog 151 #[.agg #[.int .i64 n, .slice A m c]] w fun e w' => e = .returned (.int .i64 n) /\ Below w.heap.size w w' := by
 have aMi := Try.underlying100; have ja := Try.underlying24; go_enter Try.func151, Try.ntmps151; go_wp2; go_ret; exact ⟨rfl, fA_ (Below.refl _ _) _⟩
theorem plain_lines.calls (n : Int) (A : Option Addr) (m c : Nat) (w : World) :
  Calls Try.prog 150 #[.agg #[.int .i64 n, .slice A m c]] w fun e w' => e = .returned (.slice A m c) /\ Below w.heap.size w w' := by
 have aMi := Try.underlying100; have ja := Try.underlying24; go_enter Try.func150, Try.ntmps150; go_wp2; go_ret; exact ⟨rfl, fA_ (Below.refl _ _) _⟩
theorem graph_plain {w : World} {ae : Int} {ag : Option Addr} {af : Nat} {ac : List S39} (aA : Kd.C k39 w ag ac.length ac) (aC : ac.length <= af) : Graph w 100 (.agg #[.int .i64 ae, .slice ag ac.length af]) ae ac :=
 ⟨150, 151, _, _, _, _, fun W => m_plain_lines _ W, fun W => m_plain_nodes _ W, ⟨Try.func150, by kernel_rfl, rfl⟩, ⟨Try.func151, by kernel_rfl, rfl⟩,
  fun W hW => (plain_lines.calls _ _ _ _ W).mono fun e W' h => ⟨ag, af, h.1, aC, cB_ (cB_ aA hW) h.2, h.2⟩,
  fun W hW => (plain_nodes.calls _ _ _ _ W).mono fun e W' h => h⟩
theorem d_grow.calls (k : Nat) (ae : Int) (ag : Option Addr) (af : Nat) (ac : List (S39)) (A1 : Option Addr) (c1 : Nat) (l1 : List Int) (r1 : List Int) (r2 : List Bool) (r3 : List Int) (r4 : Int) (w : World) (aA : Kd.C k39 w ag ac.length ac) (aC : ac.length <= af) (hr1 : Kd.C (Kd.int .i64) w A1 l1.length l1) (hc1 : l1.length <= c1) (h : d_grow.f k ae ac l1 = some (r1, r2, r3, r4)) :
  Calls Try.prog 82 #[.iface 100 (.agg #[.int .i64 ae, .slice ag ac.length af]), .slice A1 l1.length c1] w fun e w' => ∃ v0_ v1_ v2_ : Value, e = .returned (.tuple #[.agg #[v0_, v1_, v2_], .int .i64 r4]) /\ Kd.R (Kd.int .i64) 3 w' w.heap.size (fun k_ => some k_ ≠ (v2_ : Value).ownBlock) v0_ r1 /\ Kd.R Kd.bool 4 w' w.heap.size (fun _ => True) v1_ r2 /\ Kd.R (Kd.int .i64) 3 w' w.heap.size (fun k_ => some k_ ≠ (v0_ : Value).ownBlock) v2_ r3 /\ Below w.heap.size w w' :=
 d_grow.any k 100 _ ae ac A1 c1 l1 r1 r2 r3 r4 w (graph_plain aA aC) hr1 hc1 h
end Go.Proofs.Ytpolojoeabmhdaa.A
/- solve over a net as it stands. -/
namespace Go.Proofs.Ytpolojoeabmhdaa.A
open Go.RowKit Go.Proofs.YtpolojoeabmhdaaW.PrintWords Go.Proofs.YtpolojoeabmhdaaW.PrintLast Go.Proofs.YtpolojoeabmhdaaW.PrintMore
theorem d_solve.calls (k : Nat) (ae : Int) (ag : Option Addr) (af : Nat) (ac : List (S39)) (r1 : List Int) (r2 : List Int) (r3 : List Bool) (r4 : List Int) (r5 : Int) (w : World) (aA : Kd.C k39 w ag ac.length ac) (aC : ac.length <= af) (h : d_solve.f k ae ac = some (r1, r2, r3, r4, r5)) :
  Calls Try.prog 81 #[.iface 100 (.agg #[.int .i64 ae, .slice ag ac.length af])] w fun e w' => ∃ v0_ v1_ v2_ v3_ : Value, e = .returned (.tuple #[v0_, .agg #[v1_, v2_, v3_], .int .i64 r5]) /\ Kd.R (Kd.int .i64) 3 w' w.heap.size (fun k_ => some k_ ≠ (v1_ : Value).ownBlock /\ some k_ ≠ (v3_ : Value).ownBlock) v0_ r1 /\ Kd.R (Kd.int .i64) 3 w' w.heap.size (fun k_ => some k_ ≠ (v0_ : Value).ownBlock /\ some k_ ≠ (v3_ : Value).ownBlock) v1_ r2 /\ Kd.R Kd.bool 4 w' w.heap.size (fun _ => True) v2_ r3 /\ Kd.R (Kd.int .i64) 3 w' w.heap.size (fun k_ => some k_ ≠ (v0_ : Value).ownBlock /\ some k_ ≠ (v1_ : Value).ownBlock) v3_ r4 /\ Below w.heap.size w w' :=
 d_solve.any k 100 _ ae ac r1 r2 r3 r4 r5 w (graph_plain aA aC) h
end Go.Proofs.Ytpolojoeabmhdaa.A
namespace Go.Proofs.Ytpolojoeabmhdaa.A
open Go.RowKit Go.Proofs.YtpolojoeabmhdaaW.PrintWords Go.Proofs.YtpolojoeabmhdaaW.PrintLast Go.Proofs.YtpolojoeabmhdaaW.PrintMore
attribute [local go_sem] max2_int min2_int max_two min_two max_three min_three max_four min_four
def s_Index_bool_bool.l0 : Nat -> List Bool -> Bool -> Int -> Int -> Option (Int)
 | 0, _, _, _, _ => none
 | k + 1, x0, x1, x7, x8 => if x8 < x7 then (if 0 <= x8 then (if x8 < (x0.length : Int) then (if (x1 == (rdOf false x0 x8)) = true then (some x8) else (s_Index_bool_bool.l0 k x0 x1 x7 (wrap64 (x8 + 1)))) else (none)) else (none)) else (some (-1))
def s_Index_bool_bool.f (k : Nat) (l0 : List Bool) (a1 : Bool) : Option (Int) := s_Index_bool_bool.l0 k l0 a1 (l0.length : Int) 0
theorem s_Index_bool_bool.mono_l : ∀ k, (∀ y0 y1 y2 y3, LeO (s_Index_bool_bool.l0 k y0 y1 y2 y3) (s_Index_bool_bool.l0 (k + 1) y0 y1 y2 y3))
 | 0 => fun _ _ _ _ r h => by simp [s_Index_bool_bool.l0] at h
 | k + 1 => by
  have ih0 := s_Index_bool_bool.mono_l k; intro y0 y1 y2 y3; unfold s_Index_bool_bool.l0; repeat' first | (with_reducible first | exact ih0 _ _ _ _ | exact LeO.refl _ | exact LeO.none _ | refine LeO.ite ?_ ?_ | refine LeO.bind ?_ (fun _ => ?_))
theorem s_Index_bool_bool.mono : ∀ a0 a1 k, LeO (s_Index_bool_bool.f k a0 a1) (s_Index_bool_bool.f (k + 1) a0 a1) := by
 intro a0 a1 k; have ih0 := s_Index_bool_bool.mono_l k; unfold s_Index_bool_bool.f; repeat' first | (with_reducible first | exact ih0 _ _ _ _ | exact LeO.refl _ | exact LeO.none _ | refine LeO.ite ?_ ?_ | refine LeO.bind ?_ (fun _ => ?_))
set_option maxHeartbeats 8000000
set_option maxRecDepth 100000
theorem s_Index_bool_bool.calls (k : Nat) (A0 : Option Addr) (c0 : Nat) (l0 : List Bool) (a1 : Bool) (r : Int) (w : World) (hr0 : Kd.C Kd.bool w A0 l0.length l0) (hc0 : l0.length <= c0) (h : s_Index_bool_bool.f k l0 a1 = some r) :
  Calls Try.prog 125 #[.slice A0 l0.length c0, .bool a1] w fun e w' => e = .returned (.int .i64 r) /\ Drawn0 w w' := by
 have HR0 := Z_ hr0; have HC0 := Z_ hc0; clear hr0 hc0; have H : (s_Index_bool_bool.l0 k l0 a1 (l0.length : Int) 0) = some r := h; clear h; have H' := Z_ H; clear H; go_enter Try.func125, Try.ntmps125; go_wp2; go_loopg [8] k (fun kq v8 w' => ∃ (iC : Int), v8 = .int .i64 iC /\ Aside0 (s_Index_bool_bool.l0 kq l0 a1 (l0.length : Int) iC = some r) /\ Aside0 (kq <= k) /\ Drawn0 w w')
 case atStart => exact ⟨(0), rf_, H', ⟨nR_ _⟩, by repeat (first | exact Drawn0.refl _ | apply Drawn0.step)⟩
 case round =>
  clear H'; obtain ⟨iC, rfl, HA, HK1, ⟨m1, rfl⟩⟩ := hrel
  cases gk with
  | zero => exact absurd HA.out (by simp [s_Index_bool_bool.l0])
  | succ k1 =>
   have H := HA.out; clear HA; simp only [s_Index_bool_bool.l0] at H; by_cases c3 : iC < (l0.length : Int)
   .rw [if_pos c3] at H
    replace c3 := eT_ c3; by_cases c4 : 0 <= iC
    .rw [if_pos c4] at H
     replace c4 := eT_ c4; by_cases c5 : iC < (l0.length : Int)
     .rw [if_pos c5] at H
      replace c5 := eT_ c5; by_cases c6 : (a1 == (rdOf false l0 iC)) = true
      .rw [if_pos c6] at H
       have rx : (a1 == (rdOf false l0 iC)) = true := c6; (try (have Ok : decide (a1 = (rdOf false l0 iC)) = true := by simpa using c6))
       (try (have aiS : (a1 == (rdOf false l0 iC)) = true := by simpa using c6))
       clear c6; obtain rfl := oI_ H; have aih : 0 <= (iC : Int) := dT_ as_; have ahT : iC < (l0.length : Int) := dT_ as_; obtain ⟨aV5, aJi, azn⟩ := Kd.at_bool HR0.out iC aih ahT; cases aJi
       replace aih := eq_true aih; replace ahT := eq_true ahT; go_wp2; go_ret; exact ⟨rf_, by repeat (first | exact Drawn0.refl _ | apply Drawn0.step)⟩
      rw [if_neg c6] at H; have rx : (a1 == (rdOf false l0 iC)) = false := by simpa using c6
      (try (have Ok : decide (a1 = (rdOf false l0 iC)) = false := by simpa using c6))
      (try (have aiS : (a1 == (rdOf false l0 iC)) = false := by simpa using c6))
      (try (have bh6 : ¬ (a1 = (rdOf false l0 iC)) := by simpa using c6))
      clear c6; have H' := Z_ H; clear H; have aih : 0 <= (iC : Int) := dT_ as_; have ahT : iC < (l0.length : Int) := dT_ as_; obtain ⟨aV5, aJi, azn⟩ := Kd.at_bool HR0.out iC aih ahT; cases aJi
      replace aih := eq_true aih; replace ahT := eq_true ahT; go_wp2; go_roundg k1
      case measure => have := HK1.out; omega
      case rel => exact ⟨(wrap64 (iC + 1)), rf_, H', ⟨by have := HK1.out; omega⟩, by repeat (first | exact Drawn0.refl _ | apply Drawn0.step)⟩
     exact nN_ c5 H
    exact nN_ c4 H
   rw [if_neg c3] at H; replace c3 := eF_ c3; obtain rfl := oI_ H; go_wp2; go_ret; exact ⟨rf_, by repeat (first | exact Drawn0.refl _ | apply Drawn0.step)⟩
def s_Contains_bool_bool.f (k : Nat) (l0 : List Bool) (a1 : Bool) : Option (Bool) := (s_Index_bool_bool.f k l0 a1).bind fun apY => (some (decide (apY >= 0)))
theorem s_Contains_bool_bool.mono : ∀ a0 a1 k, LeO (s_Contains_bool_bool.f k a0 a1) (s_Contains_bool_bool.f (k + 1) a0 a1) := by
 intro a0 a1 k; unfold s_Contains_bool_bool.f; repeat' first | (with_reducible first | exact s_Index_bool_bool.mono _ _ _ | exact LeO.refl _ | exact LeO.none _ | refine LeO.ite ?_ ?_ | refine LeO.bind ?_ (fun _ => ?_))
theorem s_Contains_bool_bool.calls (k : Nat) (A0 : Option Addr) (c0 : Nat) (l0 : List Bool) (a1 : Bool) (r : Bool) (w : World) (hr0 : Kd.C Kd.bool w A0 l0.length l0) (hc0 : l0.length <= c0) (h : s_Contains_bool_bool.f k l0 a1 = some r) :
  Calls Try.prog 109 #[.slice A0 l0.length c0, .bool a1] w fun e w' => e = .returned (.bool r) /\ Drawn0 w w' := by
 have HR0 := Z_ hr0; have HC0 := Z_ hc0; clear hr0 hc0; have H : ((s_Index_bool_bool.f k l0 a1).bind fun apY => (some (decide (apY >= 0)))) = some r := h; clear h; obtain ⟨apY, A3, H⟩ := oZ_ H; obtain rfl := oI_ H; go_enter Try.func109, Try.ntmps109; go_wp2_with (first | ((with_reducible refine gate_callee (f := 125) rfl ?_); refine gL_ (some 7) Try.func125 #[.slice A0 l0.length c0, .bool a1] ?_; (with_reducible refine (s_Index_bool_bool.calls k _ _ l0 a1 apY _ ?side1 ?side2 A3.out).mono ?_); (case side1 => exact cS_ HR0.out); (case side2 => exact HC0.out); rintro e w' ⟨rfl, ⟨nd, rfl⟩⟩; refine ⟨_, rfl, ?_⟩)); go_ret; exact ⟨rf_, by repeat (first | exact Drawn0.refl _ | apply Drawn0.step)⟩
def d_in.f (a0 : Int) (a1 : Int) (a2 : Int) : Option (Bool) := if a0 >= a1 then (some (decide (a0 <= a2))) else (some false)
theorem d_in.calls (a0 : Int) (a1 : Int) (a2 : Int) (r : Bool) (w : World) (h : d_in.f a0 a1 a2 = some r) :
  Calls Try.prog 75 #[.int .i64 a0, .int .i64 a1, .int .i64 a2] w fun e w' => e = .returned (.bool r) /\ Drawn0 w w' := by
 have H : (if a0 >= a1 then (some (decide (a0 <= a2))) else (some false)) = some r := h; clear h; by_cases c4 : a0 >= a1
 .rw [if_pos c4] at H
  replace c4 : decide (a1 <= a0) = true := eT_ c4; obtain rfl := oI_ H; go_enter Try.func75, Try.ntmps75; go_wp2; go_ret; exact ⟨rf_, by repeat (first | exact Drawn0.refl _ | apply Drawn0.step)⟩
 rw [if_neg c4] at H; replace c4 : decide (a1 <= a0) = false := eF_ c4; obtain rfl := oI_ H; go_enter Try.func75, Try.ntmps75; go_wp2; go_ret; exact ⟨rf_, by repeat (first | exact Drawn0.refl _ | apply Drawn0.step)⟩
def d_right.f (ae : Int) (EA : Int) (vN : Int) (a1 : Int) : Option (Bool) := (d_in.f ae 0 (wrap64 (a1 - 1))).bind fun ap9 => (if ap9 = true then ((d_in.f EA 0 (wrap64 (a1 - 1))).bind fun ap8 => (if ap8 = true then ((d_in.f vN (-1073741824) 1073741824).bind fun ap7 => (some ap7)) else (some false))) else (some false))
theorem d_right.calls (ae : Int) (EA : Int) (vN : Int) (a1 : Int) (r : Bool) (w : World) (h : d_right.f ae EA vN a1 = some r) :
  Calls Try.prog 76 #[.agg #[.int .i64 ae, .int .i64 EA, .int .i64 vN], .int .i64 a1] w fun e w' => e = .returned (.bool r) /\ Below w.heap.size w w' := by
 have zm := Try.underlying39; have HB := Z_ (Below.refl w.heap.size w); have H : ((d_in.f ae 0 (wrap64 (a1 - 1))).bind fun ap9 => (if ap9 = true then ((d_in.f EA 0 (wrap64 (a1 - 1))).bind fun ap8 => (if ap8 = true then ((d_in.f vN (-1073741824) 1073741824).bind fun ap7 => (some ap7)) else (some false))) else (some false))) = some r := h; clear h; obtain ⟨ap9, A3, H⟩ := oZ_ H; by_cases c4 : ap9 = true
 .subst c4
  rw [if_pos rfl] at H; obtain ⟨ap8, A5, H⟩ := oZ_ H; by_cases c6 : ap8 = true
  .subst c6
   rw [if_pos rfl] at H; obtain ⟨ap7, A7, H⟩ := oZ_ H; obtain rfl := oI_ H; go_enter Try.func76, Try.ntmps76; go_wp2_with (first | ((with_reducible refine gate_dst (N := 2) rfl ?_); refine bX_ 2 #[.int .i64 ae, .int .i64 EA, .int .i64 vN] 39 ?_; intro Qm hg w8 hbox hb; have agS := Z_ (hbox); have aD8 := Z_ ((by rw [hg]; exact (fZ_ hB_) : w.heap.size <= Qm)); have aEo := Z_ ((by rw [hg]; exact (fZ_ hB_) : w.heap.size <= Qm)); replace HB := Z_ (fS_ hB_ hb); clear hb hbox hg; obtain ⟨⟨lZ, lY, F7⟩, lX, lW, F6⟩ := f3_ agS.out) | ((with_reducible refine gate_callee (f := 75) rfl ?_); refine gL_ (some 9) Try.func75 #[.int .i64 ae, .int .i64 0, .int .i64 (wrap64 (a1 - 1))] ?_; (with_reducible refine (d_in.calls ae 0 (wrap64 (a1 - 1)) true _ A3.out).mono ?_); rintro e w' ⟨rfl, ⟨nd, rfl⟩⟩; refine ⟨_, rfl, ?_⟩) | (go_at_call 75; (with_reducible refine (d_in.calls EA 0 (wrap64 (a1 - 1)) true _ A5.out).mono ?_); rintro e w' ⟨rfl, ⟨nd, rfl⟩⟩) | (go_at_call 75; (with_reducible refine (d_in.calls vN (-1073741824) 1073741824 ap7 _ A7.out).mono ?_); rintro e w' ⟨rfl, ⟨nd, rfl⟩⟩)); go_ret; exact ⟨eW_, hB_⟩
  replace c6 := bE_.mpr c6; subst c6; have H1 : (some false) = some r := by rw [if_neg (show ¬ (false = true) by decide)] at H; exact H
  clear H; have H := H1; clear H1; obtain rfl := oI_ H; go_enter Try.func76, Try.ntmps76; go_wp2_with (first | ((with_reducible refine gate_dst (N := 2) rfl ?_); refine bX_ 2 #[.int .i64 ae, .int .i64 EA, .int .i64 vN] 39 ?_; intro Qm hg w10 hbox hb; have agS := Z_ (hbox); have aD8 := Z_ ((by rw [hg]; exact (fZ_ hB_) : w.heap.size <= Qm)); have aEo := Z_ ((by rw [hg]; exact (fZ_ hB_) : w.heap.size <= Qm)); replace HB := Z_ (fS_ hB_ hb); clear hb hbox hg; obtain ⟨⟨ls, lr, N8⟩, ln, ll, NU⟩ := f3_ agS.out) | ((with_reducible refine gate_callee (f := 75) rfl ?_); refine gL_ (some 9) Try.func75 #[.int .i64 ae, .int .i64 0, .int .i64 (wrap64 (a1 - 1))] ?_; (with_reducible refine (d_in.calls ae 0 (wrap64 (a1 - 1)) true _ A3.out).mono ?_); rintro e w' ⟨rfl, ⟨nd, rfl⟩⟩; refine ⟨_, rfl, ?_⟩) | (go_at_call 75; (with_reducible refine (d_in.calls EA 0 (wrap64 (a1 - 1)) false _ A5.out).mono ?_); rintro e w' ⟨rfl, ⟨nd, rfl⟩⟩)); go_ret; exact ⟨eW_, hB_⟩
 replace c4 := bE_.mpr c4; subst c4; have H1 : (some false) = some r := by rw [if_neg (show ¬ (false = true) by decide)] at H; exact H
 clear H; have H := H1; clear H1; obtain rfl := oI_ H; go_enter Try.func76, Try.ntmps76; go_wp2_with (first | ((with_reducible refine gate_dst (N := 2) rfl ?_); refine bX_ 2 #[.int .i64 ae, .int .i64 EA, .int .i64 vN] 39 ?_; intro Qm hg w12 hbox hb; have agS := Z_ (hbox); have aD8 := Z_ ((by rw [hg]; exact (fZ_ hB_) : w.heap.size <= Qm)); have aEo := Z_ ((by rw [hg]; exact (fZ_ hB_) : w.heap.size <= Qm)); replace HB := Z_ (fS_ hB_ hb); clear hb hbox hg; obtain ⟨⟨vK, vJ, FA⟩, vI, vH, Ft⟩ := f3_ agS.out) | ((with_reducible refine gate_callee (f := 75) rfl ?_); refine gL_ (some 9) Try.func75 #[.int .i64 ae, .int .i64 0, .int .i64 (wrap64 (a1 - 1))] ?_; (with_reducible refine (d_in.calls ae 0 (wrap64 (a1 - 1)) false _ A3.out).mono ?_); rintro e w' ⟨rfl, ⟨nd, rfl⟩⟩; refine ⟨_, rfl, ?_⟩)); go_ret; exact ⟨eW_, hB_⟩
mutual
def d_Check.j0 : Nat -> Bool -> Int -> List (S39) -> Option (Int)
 | 0, _, _, _ => none
 | k + 1, x14, Rz, MC => if x14 = true then (some 40) else (d_Check.l0 k MC (MC.length : Int) 0 Rz MC)
def d_Check.l0 : Nat -> List (S39) -> Int -> Int -> Int -> List (S39) -> Option (Int)
 | 0, _, _, _, _, _ => none
 | k + 1, x16, x17, x18, Rz, MC => if x18 < x17 then (if 0 <= x18 then (if x18 < (x16.length : Int) then ((d_right.f ((rT39 x16 x18).f0) ((rT39 x16 x18).f1) ((rT39 x16 x18).f2) Rz).bind fun ayE => (if ayE = true then (d_Check.l0 k x16 x17 (wrap64 (x18 + 1)) Rz MC) else (some 40))) else (none)) else (none)) else (some 0)
end
def d_Check.f (k : Nat) (ae : Int) (ac : List (S39)) : Option (Int) := (d_in.f ae 1 256).bind fun ap6 => (if ap6 = true then (d_Check.j0 k (decide ((ac.length : Int) > 4096)) ae ac) else (d_Check.j0 k true ae ac))
theorem d_Check.mono_l : ∀ k, (∀ y0 y1 y2, LeO (d_Check.j0 k y0 y1 y2) (d_Check.j0 (k + 1) y0 y1 y2)) /\ (∀ y0 y1 y2 y3 y4, LeO (d_Check.l0 k y0 y1 y2 y3 y4) (d_Check.l0 (k + 1) y0 y1 y2 y3 y4))
 | 0 => ⟨fun _ _ _ r h => by simp [d_Check.j0] at h, fun _ _ _ _ _ r h => by simp [d_Check.l0] at h⟩
 | k + 1 => by
  obtain ⟨ih0, ih1⟩ := d_Check.mono_l k; refine ⟨?_, ?_⟩ <;> intros <;> (first | unfold d_Check.j0 | unfold d_Check.l0) <;> repeat' first | (with_reducible first | exact ih0 _ _ _ | exact ih1 _ _ _ _ _ | exact LeO.refl _ | exact LeO.none _ | refine LeO.ite ?_ ?_ | refine LeO.bind ?_ (fun _ => ?_))
theorem d_Check.mono : ∀ a0 a1 k, LeO (d_Check.f k a0 a1) (d_Check.f (k + 1) a0 a1) := by
 intro a0 a1 k; obtain ⟨ih0, ih1⟩ := d_Check.mono_l k; unfold d_Check.f; repeat' first | (with_reducible first | exact ih0 _ _ _ | exact ih1 _ _ _ _ _ | exact LeO.refl _ | exact LeO.none _ | refine LeO.ite ?_ ?_ | refine LeO.bind ?_ (fun _ => ?_))
set_option maxHeartbeats 8000000
set_option maxRecDepth 100000
theorem d_Check.calls (k : Nat) (ae : Int) (ag : Option Addr) (af : Nat) (ac : List (S39)) (r : Int) (w : World) (aA : Kd.C k39 w ag ac.length ac) (aC : ac.length <= af) (h : d_Check.f k ae ac = some r) :
  Calls Try.prog 29 #[.agg #[.int .i64 ae, .slice ag ac.length af]] w fun e w' => e = .returned (.int .i64 r) /\ Below w.heap.size w w' := by
 have ja := Try.underlying24; have zm := Try.underlying39; have ah := Z_ aA; have ai := Z_ aC; clear aA aC; have HB := Z_ (Below.refl w.heap.size w); have H : ((d_in.f ae 1 256).bind fun ap6 => (if ap6 = true then (d_Check.j0 k (decide ((ac.length : Int) > 4096)) ae ac) else (d_Check.j0 k true ae ac))) = some r := h; clear h; have HC2 := Z_ H; clear H; go_enter Try.func29, Try.ntmps29; go_upto_region 1 with (first | ((with_reducible refine gate_dst (N := 1) rfl ?_); (try (refine gate_guard (by rfl) ?_; dsimp only)); refine bX_ 1 #[.int .i64 ae, .slice ag ac.length af] 24 ?_; intro Ql hg w3 hbox hb; have Db := Z_ (hbox); have bdJ := Z_ ((by rw [hg]; exact (fZ_ hB_) : w.heap.size <= Ql)); have beS := Z_ ((by rw [hg]; exact (fZ_ hB_) : w.heap.size <= Ql)); replace HB := Z_ (fS_ hB_ hb); clear hb hbox hg)); (try simp only [Act.put, sT_, sZ_, sS_])
 go_cut [14] (fun v14 wc => ∃ (kq : Nat) (aka : Bool), v14 = .bool aka /\ Aside0 (d_Check.j0 kq aka ae ac = some r) /\ Aside0 (kq <= k) /\ Aside0 (wc.heap[Ql]? = some (.cells #[.int .i64 ae, (.slice ag ac.length af)] 24 (0, 0))) /\ Aside0 (Below w.heap.size w wc))
 case first =>
  have H := HC2.out; clear HC2; obtain ⟨ap6, A4, H⟩ := oZ_ H; by_cases c5 : ap6 = true
  .subst c5
   rw [if_pos rfl] at H; have H' := Z_ H; clear H; obtain ⟨⟨rV, rU⟩, rT, rS⟩ := f2_ Db.out; go_wp2_with (first | ((with_reducible refine gate_callee (f := 75) rfl ?_); refine gL_ (some 7) Try.func75 #[.int .i64 ae, .int .i64 1, .int .i64 256] ?_; (with_reducible refine (d_in.calls ae 1 256 true _ A4.out).mono ?_); rintro e w' ⟨rfl, ⟨nd, rfl⟩⟩; refine ⟨_, rfl, ?_⟩)); go_meet
   case rel => exact ⟨_, (decide ((ac.length : Int) > 4096)), rf_, H', ⟨oL_⟩, ⟨bR_ Db.out⟩, ⟨hB_⟩⟩
  replace c5 := bE_.mpr c5; subst c5; have H1 : (d_Check.j0 k true ae ac) = some r := by rw [if_neg (show ¬ (false = true) by decide)] at H; exact H
  clear H; have H := H1; clear H1; have H' := Z_ H; clear H; obtain ⟨⟨nT, nS⟩, nR, nQ⟩ := f2_ Db.out; go_wp2_with (first | ((with_reducible refine gate_callee (f := 75) rfl ?_); refine gL_ (some 7) Try.func75 #[.int .i64 ae, .int .i64 1, .int .i64 256] ?_; (with_reducible refine (d_in.calls ae 1 256 false _ A4.out).mono ?_); rintro e w' ⟨rfl, ⟨nd, rfl⟩⟩; refine ⟨_, rfl, ?_⟩)); go_meet
  case rel => exact ⟨_, (true), rf_, H', ⟨oL_⟩, ⟨bR_ Db.out⟩, ⟨hB_⟩⟩
 case rest =>
  clear HC2; obtain ⟨kq, aka, rfl, HA, HJ1, Db, HB⟩ := hcut
  cases kq with
  | zero => exact absurd HA.out (by simp [d_Check.j0])
  | succ kj1 =>
   have H := HA.out; clear HA; simp only [d_Check.j0] at H; by_cases c8 : aka = true
   .subst c8
    rw [if_pos rfl] at H; obtain rfl := oI_ H; go_wp2; go_ret; exact ⟨eW_, hB_⟩
   replace c8 := bE_.mpr c8; subst c8; have H1 : (d_Check.l0 kj1 ac (ac.length : Int) 0 ae ac) = some r := by rw [if_neg (show ¬ (false = true) by decide)] at H; exact H
   clear H; have H := H1; clear H1; have H' := Z_ H; clear H; obtain ⟨⟨lZ, lY⟩, lX, lW⟩ := f2_ Db.out; go_wp2; go_loopg [18] kj1 (fun kq v18 w' => ∃ (wa : Int), v18 = .int .i64 wa /\ Aside0 (d_Check.l0 kq ac (ac.length : Int) wa ae ac = some r) /\ Aside0 (kq <= kj1) /\ Aside0 (w'.heap[Ql]? = some (.cells #[.int .i64 ae, (.slice ag ac.length af)] 24 (0, 0))) /\ Aside0 (Below w.heap.size w w'))
   case atStart => exact ⟨(0), rf_, H', ⟨nR_ _⟩, ⟨bR_ Db.out⟩, ⟨hB_⟩⟩
   case round =>
    clear H'; obtain ⟨wa, rfl, HA, HK2, Db, HB⟩ := hrel
    cases gk with
    | zero => exact absurd HA.out (by simp [d_Check.l0])
    | succ k2 =>
     have H := HA.out; clear HA; simp only [d_Check.l0] at H; by_cases c10 : wa < (ac.length : Int)
     .rw [if_pos c10] at H
      replace c10 := eT_ c10; by_cases c11 : 0 <= wa
      .rw [if_pos c11] at H
       replace c11 := eT_ c11; by_cases c12 : wa < (ac.length : Int)
       .rw [if_pos c12] at H
        replace c12 := eT_ c12; obtain ⟨ayE, A13, H⟩ := oZ_ H; have J5 := Z_ H; clear H; have aHs : 0 <= (wa : Int) := dT_ as_; have aGn : wa < (ac.length : Int) := dT_ as_; obtain ⟨aDd, a8F, alA, alz, aly⟩ := at_T39 ah.out wa aHs aGn; cases a8F
        replace alA := pw_cell_below HB.out alA; replace alz := pw_cell_below HB.out alz; replace aly := pw_cell_below HB.out aly; replace aHs := eq_true aHs; replace aGn := eq_true aGn; go_upto_if 26 with (first | ((with_reducible refine gate_dst (N := 4) rfl ?_); (try (refine gate_guard (by rfl) ?_; dsimp only)); refine bX_ 4 #[.int .i64 0, .int .i64 0, .int .i64 0] 39 ?_; intro afH hg w15 hbox hb; have axz := Z_ (hbox); have bdI := Z_ ((by rw [hg]; exact (fZ_ hB_) : w.heap.size <= afH)); have beR := Z_ ((by rw [hg]; exact (fZ_ hB_) : w.heap.size <= afH)); replace HB := Z_ (fS_ hB_ hb); have apc := Z_ ((nB_ hg Db.out : Ql ≠ afH)); have apb := Z_ ((by rw [hg]; exact Nat.ne_of_gt (blk_lt (g := Ql) (o := .cells #[.int .i64 ae, .slice (some aDd) ac.length af] 24 (0, 0)) (bR_ Db.out)) : afH ≠ Ql)); replace Db := Z_ (bS_ Db.out hb); clear hb hbox hg; have Qd := apb.out; have P9 := apc.out; obtain ⟨⟨fM, fK, B4⟩, fJ, fI, BO⟩ := f3_ axz.out; obtain ⟨⟨kw, kv⟩, kr, kp⟩ := f2_ Db.out) | ((with_reducible refine gate_callee (f := 76) rfl ?_); refine gL_ (some 25) Try.func76 #[.agg #[.int .i64 ((rT39 ac wa).f0), .int .i64 ((rT39 ac wa).f1), .int .i64 ((rT39 ac wa).f2)], .int .i64 ae] ?_; (with_reducible refine (d_right.calls ((rT39 ac wa).f0) ((rT39 ac wa).f1) ((rT39 ac wa).f2) ae ayE _ A13.out).mono ?_); rintro e w19 ⟨rfl, hb⟩; refine ⟨_, rfl, ?_⟩; replace Db := Z_ (bB_ (g := Ql) (o := .cells #[.int .i64 ae, .slice (some aDd) ac.length af] 24 (0, 0)) (bQ_ Db.out) hb); replace axz := Z_ (bB_ (g := afH) (o := .cells #[.int .i64 ((rT39 ac wa).f0), .int .i64 ((rT39 ac wa).f1), .int .i64 ((rT39 ac wa).f2)] 39 (0, 0)) (by refine bM_ ?_; refine blk_put (cs := #[.int .i64 ((rT39 ac wa).f0), .int .i64 ((rT39 ac wa).f1), .int .i64 0]) ?_ 2 _ rfl; refine bM_ ?_; refine blk_put (cs := #[.int .i64 ((rT39 ac wa).f0), .int .i64 0, .int .i64 0]) ?_ 1 _ rfl; refine bM_ ?_; refine blk_put (cs := #[.int .i64 0, .int .i64 0, .int .i64 0]) ?_ 0 _ rfl; exact bR_ axz.out) hb); replace HB := Z_ (fS_ hB_ hb); (try clear hb))); (try simp only [Act.put, sT_, sZ_, sS_])
        have H := J5.out; clear J5; by_cases c20 : ayE = true
        .subst c20
         rw [if_pos rfl] at H; have H' := Z_ H; clear H; go_wp2; go_roundg k2
         case measure => have := HJ1.out; have := HK2.out; omega
         case rel => exact ⟨(wrap64 (wa + 1)), rf_, H', ⟨by have := HJ1.out; have := HK2.out; omega⟩, ⟨bR_ Db.out⟩, ⟨hB_⟩⟩
        replace c20 := bE_.mpr c20; subst c20; have H1 : (some 40) = some r := by rw [if_neg (show ¬ (false = true) by decide)] at H; exact H
        clear H; have H := H1; clear H1; obtain rfl := oI_ H; go_wp2; go_ret; exact ⟨eW_, hB_⟩
       exact nN_ c12 H
      exact nN_ c11 H
     rw [if_neg c10] at H; replace c10 := eF_ c10; obtain rfl := oI_ H; go_wp2; go_ret; exact ⟨eW_, hB_⟩
def d_asked.f (k : Nat) (ae : Int) (ac : List (S39)) (l1 : List Bool) : Option (Int) := (d_Check.f k ae ac).bind fun acw => (if acw = 0 then ((s_Contains_bool_bool.f k l1 false).bind fun aoo => (if aoo = true then (some 1) else (some 0))) else (some acw))
theorem d_asked.mono : ∀ a0 a1 a2 k, LeO (d_asked.f k a0 a1 a2) (d_asked.f (k + 1) a0 a1 a2) := by
 intro a0 a1 a2 k; unfold d_asked.f; repeat' first | (with_reducible first | exact d_Check.mono _ _ _ | exact s_Contains_bool_bool.mono _ _ _ | exact LeO.refl _ | exact LeO.none _ | refine LeO.ite ?_ ?_ | refine LeO.bind ?_ (fun _ => ?_))
theorem d_asked.calls (k : Nat) (ae : Int) (ag : Option Addr) (af : Nat) (ac : List (S39)) (A1 : Option Addr) (c1 : Nat) (l1 : List Bool) (r : Int) (w : World) (aA : Kd.C k39 w ag ac.length ac) (aC : ac.length <= af) (hr1 : Kd.C Kd.bool w A1 l1.length l1) (hc1 : l1.length <= c1) (h : d_asked.f k ae ac l1 = some r) :
  Calls Try.prog 77 #[.agg #[.int .i64 ae, .slice ag ac.length af], .slice A1 l1.length c1] w fun e w' => e = .returned (.int .i64 r) /\ Below w.heap.size w w' := by
 have ja := Try.underlying24; have ah := Z_ aA; have ai := Z_ aC; clear aA aC; have HR1 := Z_ hr1; have HC1 := Z_ hc1; clear hr1 hc1; have HB := Z_ (Below.refl w.heap.size w); have H : ((d_Check.f k ae ac).bind fun acw => (if acw = 0 then ((s_Contains_bool_bool.f k l1 false).bind fun aoo => (if aoo = true then (some 1) else (some 0))) else (some acw))) = some r := h; clear h; obtain ⟨acw, A3, H⟩ := oZ_ H; have HF4 := Z_ H; clear H; go_enter Try.func77, Try.ntmps77; go_upto_if 9 with (first | ((with_reducible refine gate_dst (N := 2) rfl ?_); refine bX_ 2 #[.int .i64 ae, .slice ag ac.length af] 24 ?_; intro aCw hg w5 hbox hb; have axy := Z_ (hbox); have bdu := Z_ ((by rw [hg]; exact (fZ_ hB_) : w.heap.size <= aCw)); have beD := Z_ ((by rw [hg]; exact (fZ_ hB_) : w.heap.size <= aCw)); replace HB := Z_ (fS_ hB_ hb); clear hb hbox hg; obtain ⟨⟨rV, rU⟩, rT, rS⟩ := f2_ axy.out) | ((with_reducible refine gate_callee (f := 29) rfl ?_); refine gL_ (some 7) Try.func29 #[.agg #[.int .i64 ae, .slice ag ac.length af]] ?_; (with_reducible refine (d_Check.calls k ae _ _ ac acw _ ?side1 ?side2 A3.out).mono ?_); (case side1 => exact cS_ (cB_ ah.out HB.out)); (case side2 => exact ai.out); rintro e w7 ⟨rfl, hb⟩; refine ⟨_, rfl, ?_⟩; replace axy := Z_ (bS_ axy.out hb); replace HB := Z_ (fS_ hB_ hb); (try clear hb))); (try simp only [Act.put, sT_, sZ_, sS_])
 have H := HF4.out; clear HF4; by_cases c8 : acw = 0
 .rw [if_pos c8] at H
  obtain ⟨oK, xr⟩ := be_ c8; clear c8; (try rw [oK])
  obtain ⟨aoo, A9, H⟩ := oZ_ H; have GU := Z_ H; clear H; go_upto_if 12 with (first | ((with_reducible refine gate_callee (f := 109) rfl ?_); refine gL_ (some 12) Try.func109 #[.slice A1 l1.length c1, .bool false] ?_; (with_reducible refine (s_Contains_bool_bool.calls k _ _ l1 false aoo _ ?side1 ?side2 A9.out).mono ?_); (case side1 => exact cS_ (cB_ HR1.out HB.out)); (case side2 => exact HC1.out); rintro e w' ⟨rfl, ⟨nd, rfl⟩⟩; refine ⟨_, rfl, ?_⟩)); (try simp only [Act.put, sT_, sZ_, sS_])
  have H := GU.out; clear GU; by_cases c11 : aoo = true
  .subst c11
   rw [if_pos rfl] at H; obtain rfl := oI_ H; go_wp2; go_ret; exact ⟨eW_, hB_⟩
  replace c11 := bE_.mpr c11; subst c11; have H1 : (some 0) = some r := by rw [if_neg (show ¬ (false = true) by decide)] at H; exact H
  clear H; have H := H1; clear H1; obtain rfl := oI_ H; go_wp2; go_ret; exact ⟨eW_, hB_⟩
 rw [if_neg c8] at H; obtain ⟨oK, xr⟩ := bn_ c8; (try rw [oK])
 obtain rfl := oI_ H; go_wp2; go_ret; exact ⟨eW_, hB_⟩
end Go.Proofs.Ytpolojoeabmhdaa.A
