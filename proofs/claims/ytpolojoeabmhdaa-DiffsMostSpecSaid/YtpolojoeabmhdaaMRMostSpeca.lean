import Derived.Test.YtpolojoeabmhdaaMYcoreb
import Derived.Test.YtpolojoeabmhdaaMYcoree
import Derived.Test.YtpolojoeabmhdaaMYcoreg
import Derived.Test.YtpolojoeabmhdaaMYcoreh
import Derived.Test.YtpolojoeabmhdaaMYflowa
set_option linter.unusedVariables false
set_option linter.unusedSimpArgs false
namespace Go.Proofs.Ytpolojoeabmhdaa.A
open Go.RowKit Go.Proofs.YtpolojoeabmhdaaW.PrintWords Go.Proofs.YtpolojoeabmhdaaW.PrintLast Go.Proofs.YtpolojoeabmhdaaW.PrintMore
attribute [local go_sem] max2_int min2_int max_two min_two max_three min_three max_four min_four
def r_Sum.l0 : Nat -> List Int -> List Int -> Int -> Int -> Option (Int)
 | 0, _, _, _, _ => none
 | k + 1, x0, x1, x5, x6 => if x6 < (x0.length : Int) then (if 0 <= x6 then (if x6 < (x1.length : Int) then (r_Sum.l0 k x0 x1 (wrap64 (x5 + (wrap64 ((rd x0 x6) * (rd x1 x6))))) (wrap64 (x6 + 1))) else (none)) else (none)) else (some x5)
def r_Sum.f (k : Nat) (l0 : List Int) (l1 : List Int) : Option (Int) := r_Sum.l0 k l0 l1 0 1
theorem r_Sum.mono_l : ∀ k, (∀ y0 y1 y2 y3, LeO (r_Sum.l0 k y0 y1 y2 y3) (r_Sum.l0 (k + 1) y0 y1 y2 y3))
 | 0 => fun _ _ _ _ r h => by simp [r_Sum.l0] at h
 | k + 1 => by
  have ih0 := r_Sum.mono_l k; intro y0 y1 y2 y3; unfold r_Sum.l0; repeat' first | (with_reducible first | exact ih0 _ _ _ _ | exact LeO.refl _ | exact LeO.none _ | refine LeO.ite ?_ ?_ | refine LeO.bind ?_ (fun _ => ?_))
theorem r_Sum.mono : ∀ a0 a1 k, LeO (r_Sum.f k a0 a1) (r_Sum.f (k + 1) a0 a1) := by
 intro a0 a1 k; have ih0 := r_Sum.mono_l k; unfold r_Sum.f; repeat' first | (with_reducible first | exact ih0 _ _ _ _ | exact LeO.refl _ | exact LeO.none _ | refine LeO.ite ?_ ?_ | refine LeO.bind ?_ (fun _ => ?_))
set_option maxHeartbeats 8000000
set_option maxRecDepth 100000
theorem r_Sum.calls (k : Nat) (A0 : Option Addr) (c0 : Nat) (l0 : List Int) (A1 : Option Addr) (c1 : Nat) (l1 : List Int) (r : Int) (w : World) (hr0 : Kd.C (Kd.int .i64) w A0 l0.length l0) (hc0 : l0.length <= c0) (hr1 : Kd.C (Kd.int .i64) w A1 l1.length l1) (hc1 : l1.length <= c1) (h : r_Sum.f k l0 l1 = some r) :
  Calls Try.prog 54 #[.slice A0 l0.length c0, .slice A1 l1.length c1] w fun e w' => e = .returned (.int .i64 r) /\ Drawn0 w w' := by
 have HR0 := Z_ hr0; have HC0 := Z_ hc0; clear hr0 hc0; have HR1 := Z_ hr1; have HC1 := Z_ hc1; clear hr1 hc1; have H : (r_Sum.l0 k l0 l1 0 1) = some r := h; clear h; have H' := Z_ H; clear H; go_enter Try.func54, Try.ntmps54; go_wp2; repeat (go_quiet (fail); try go_wp2)
 go_loopg [5, 6] k (fun kq v5 v6 w' => ∃ (dp : Int) (dt : Int), v5 = .int .i64 dp /\ v6 = .int .i64 dt /\ Aside0 (r_Sum.l0 kq l0 l1 dp dt = some r) /\ Aside0 (kq <= k) /\ Drawn0 w w')
 case atStart => exact ⟨(0), (1), rf_, rf_, H', ⟨nR_ _⟩, by repeat (first | exact Drawn0.refl _ | apply Drawn0.step)⟩
 case round =>
  clear H'; obtain ⟨dp, dt, rfl, rfl, HA, HK1, ⟨m1, rfl⟩⟩ := hrel
  cases gk with
  | zero => exact absurd HA.out (by simp [r_Sum.l0])
  | succ k1 =>
   have H := HA.out; clear HA; simp only [r_Sum.l0] at H; by_cases c3 : dt < (l0.length : Int)
   .rw [if_pos c3] at H
    replace c3 := eT_ c3; by_cases c4 : 0 <= dt
    .rw [if_pos c4] at H
     replace c4 := eT_ c4; by_cases c5 : dt < (l1.length : Int)
     .rw [if_pos c5] at H
      replace c5 := eT_ c5; have H' := Z_ H; clear H; have aqR : 0 <= (dt : Int) := dT_ as_; have aqm : dt < (l0.length : Int) := dT_ as_; obtain ⟨a82, aUg, aMf⟩ := Kd.at_int HR0.out dt aqR aqm; cases aUg
      replace aqR := eq_true aqR; replace aqm := eq_true aqm; have aqQ : 0 <= (dt : Int) := dT_ as_; have aql : dt < (l1.length : Int) := dT_ as_; obtain ⟨a81, aUf, aMe⟩ := Kd.at_int HR1.out dt aqQ aql; cases aUf
      replace aqQ := eq_true aqQ; replace aql := eq_true aql; go_wp2; repeat (go_quiet (fail); try go_wp2)
      go_roundg k1
      case measure => have := HK1.out; omega
      case rel => exact ⟨(wrap64 (dp + (wrap64 ((rd l0 dt) * (rd l1 dt))))), (wrap64 (dt + 1)), rf_, rf_, H', ⟨by have := HK1.out; omega⟩, by repeat (first | exact Drawn0.refl _ | apply Drawn0.step)⟩
     exact nN_ c5 H
    exact nN_ c4 H
   rw [if_neg c3] at H; replace c3 := eF_ c3; obtain rfl := oI_ H; go_wp2; repeat (go_quiet (fail); try go_wp2)
   go_ret; exact ⟨rf_, by repeat (first | exact Drawn0.refl _ | apply Drawn0.step)⟩
end Go.Proofs.Ytpolojoeabmhdaa.A
/- CheckFlow, Sum: what they answer. -/
namespace Go.Proofs.Ytpolojoeabmhdaa.A
open Go.RowKit Go.Proofs.YtpolojoeabmhdaaW.PrintWords Go.Proofs.YtpolojoeabmhdaaW.PrintLast Go.Proofs.YtpolojoeabmhdaaW.PrintMore
theorem netF_snoc : ∀ (D : List S39) (F : List Int) (d : S39) (f v : Int), F.length = D.length -> netF (D ++ [d]) (F ++ [f]) v = netF D F v + f * ind d.f0 d.f1 v
 | [], [], d, f, v, _ => by
  simp only [List.nil_append, netF, ind]
  split <;> split <;> omega
 | [], _ :: _, _, _, _, h => by simp at h
 | _ :: _, [], _, _, _, h => by simp at h
 | e :: es, g :: gs, d, f, v, h => by
  have ih := netF_snoc es gs d f v (by simpa using h)
  simp only [List.cons_append, netF]
  rw [ih]; omega
section
variable {n : Nat} {D : List S39} {w F : List Int}
theorem netF_take (hl : F.length = D.length) {i : Int} (h0 : 0 <= i) (h1 : i < D.length) (v : Int) : netF (D.take (i + 1).toNat) (F.take (i + 1).toNat) v = netF (D.take i.toNat) (F.take i.toNat) v + rd F i * ind (rT39 D i).f0 (rT39 D i).f1 v := by
 have e1 : rT39 D i = D[i.toNat]'(by omega) := by
  unfold rT39
  rw [List.getD_eq_getElem?_getD, List.getElem?_eq_getElem (by omega)]; rfl
 have e2 : rd F i = F[i.toNat]'(by omega) := by
  unfold rd
  rw [List.getD_eq_getElem?_getD, List.getElem?_eq_getElem (by omega)]; rfl
 rw [show (i + 1).toNat = i.toNat + 1 from by omega, take_snoc D _ (by omega), take_snoc F _ (by omega), netF_snoc _ _ _ _ _ (by rw [List.length_take, List.length_take]; omega), e1, e2]
structure FlowIs (n : Nat) (D : List S39) (w F : List Int) (a : Int) : Prop where
 hw : Weighty n w
 f : Feas n D w F
 u : ∀ k, 0 <= k -> k < (D.length : Int) -> rd F k <= 1048576
 c : costF D F <= a
theorem cflow_l0 (hV : Valid n D) (hw : Weighty n w) (hl : F.length = D.length) (hF : ∀ k, 0 <= k -> k < (D.length : Int) -> 0 <= rd F k /\ rd F k <= 1048576) (a : Int) : ∀ (q : Nat) (i : Int) (s : List Int), (q : Int) + i = D.length -> 0 <= i -> s.length = n -> (∀ v, 0 <= v -> v < (n : Int) -> rd s v = rd w v - netF (D.take i.toNat) (F.take i.toNat) v /\ -(4096 + i * 1048576) <= rd s v /\ rd s v <= 4096 + i * 1048576) ->
  ∃ e, Ev (fun k => d_CheckFlow.l0 k a F s D D.length i n D) e /\ (e = 0 ∨ e = 43) /\ (e = 0 <-> FlowIs n D w F a)
 | 0, i, s, hq, hi, hs, hz => by
  have hn := hV.n1
  have hD := hV.l
  have hT : Ev (fun k => d_CheckFlow.j2 k true) 43 := Ev.step (f := fun _ => some 43) (fun k => by rw [d_CheckFlow.j2]; rfl) (Ev.now _)
  have hend : ∀ {b e}, ((s.set (0 : Int).toNat 0).any fun x => x != 0) = b -> Ev (fun k => if b = true then d_CheckFlow.j2 k true else ((d_cost.f k n D F).bind fun Xh => d_CheckFlow.j2 k (decide (Xh > a)))) e -> Ev (fun k => d_CheckFlow.l0 k a F s D D.length i n D) e := fun hb h =>
   Ev.step (fun k => by rw [d_CheckFlow.l0, if_neg (by omega), if_pos (by omega)]; unfold cf100.f; rw [Option.bind_some, hb]) h
  have hrd : ∀ v, 0 <= v -> v < (n : Int) -> rd (s.set (0 : Int).toNat 0) v = if v = 0 then 0 else rd w v - netF D F v := fun v v0 v1 => by
   rw [rd_set _ _ _ _ (by omega) (by omega) v0, (hz v v0 v1).1, List.take_of_length_le (by omega), List.take_of_length_le (by omega)]
  cases hb : ((s.set (0 : Int).toNat 0).any fun x => x != 0) with
  | true =>
   refine ⟨43, hend hb (Ev.pos rfl hT), Or.inr rfl, fun h => absurd h (by decide), fun h => ?_⟩
   obtain ⟨x, hx, hx2⟩ := List.any_eq_true.1 hb
   obtain ⟨v, v0, v1, rfl⟩ := mem_rd hx
   rw [List.length_set] at v1
   have := hrd v v0 (by omega)
   by_cases e : v = 0
   .rw [if_pos e] at this; rw [this] at hx2; exact absurd hx2 (by decide)
   .rw [if_neg e, h.f.bal v (by omega) (by omega)] at this
    rw [show rd (s.set (0 : Int).toNat 0) v = 0 from by omega] at hx2
    exact absurd hx2 (by decide)
  | false =>
   have hfe : Feas n D w F := ⟨hl, fun k k0 k1 => (hF k k0 k1).1, fun v v0 v1 => by
    have h1 := hrd v (by omega) v1
    rw [if_neg (by omega)] at h1
    have h2 := List.any_eq_false.1 hb (rd (s.set (0 : Int).toNat 0) v) (rd_mem (by omega) (by rw [List.length_set]; omega))
    have h3 : rd (s.set (0 : Int).toNat 0) v = 0 := by simpa using h2
    omega⟩
   obtain ⟨c1, _⟩ := cost_ev hV.e hl hD hF (n : Int)
   by_cases hc : costF D F > a
   .refine ⟨43, hend hb (Ev.neg (by decide) (c1.bind ?_)), Or.inr rfl, fun h => absurd h (by decide), fun h => by have := h.c; omega⟩
    rw [decide_eq_true hc]; exact hT
   .refine ⟨0, hend hb (Ev.neg (by decide) (c1.bind ?_)), Or.inl rfl, fun _ => ⟨hw, hfe, fun k k0 k1 => (hF k k0 k1).2, by omega⟩, fun _ => rfl⟩
    rw [decide_eq_false hc]
    exact Ev.step (f := fun _ => some 0) (fun k => by rw [d_CheckFlow.j2]; rfl) (Ev.now _)
 | q + 1, i, s, hq, hi, hs, hz => by
  have hlt : i < (D.length : Int) := by omega
  have hD := hV.l
  have he := hV.e i hi hlt
  have d0 := he.a
  have d1 := he.b
  have d2 := he.c
  have d3 := he.g
  obtain ⟨f0, f1⟩ := hF i hi hlt
  have z1 := hz (rT39 D i).f1 d2 d3
  have z0 := hz (rT39 D i).f0 d0 d1
  have r1 : ∀ v, 0 <= v -> v < (n : Int) -> rd (s.set (rT39 D i).f1.toNat (rd s (rT39 D i).f1 - rd F i)) v = if v = (rT39 D i).f1 then rd s (rT39 D i).f1 - rd F i else rd s v := fun v v0 v1 => rd_set _ _ _ _ d2 (by omega) v0
  have r0 := r1 (rT39 D i).f0 d0 d1
  have hb0 : -9223372036854775808 <= rd (s.set (rT39 D i).f1.toNat (rd s (rT39 D i).f1 - rd F i)) (rT39 D i).f0 + rd F i /\ rd (s.set (rT39 D i).f1.toNat (rd s (rT39 D i).f1 - rd F i)) (rT39 D i).f0 + rd F i < 9223372036854775808 := by
   rw [r0]; split <;> omega
  have l1 : (s.set (rT39 D i).f1.toNat (rd s (rT39 D i).f1 - rd F i)).length = n := by rw [List.length_set]; exact hs
  obtain ⟨e, h1, h2, h3⟩ := cflow_l0 hV hw hl hF a q (i + 1) ((s.set (rT39 D i).f1.toNat (rd s (rT39 D i).f1 - rd F i)).set (rT39 D i).f0.toNat (rd (s.set (rT39 D i).f1.toNat (rd s (rT39 D i).f1 - rd F i)) (rT39 D i).f0 + rd F i)) (by omega) (by omega) (by rw [List.length_set]; exact l1) (fun v v0 v1 => by
   have zv := hz v v0 v1
   rw [rd_set _ _ _ _ d0 (by omega) v0, netF_take hl hi hlt, r0, r1 v v0 v1]
   unfold ind
   by_cases e0 : v = (rT39 D i).f0
   .by_cases e1 : (rT39 D i).f0 = (rT39 D i).f1
    .rw [if_pos e0, if_pos e1, if_pos (by omega), if_pos (by omega)]
     have e3 : v = (rT39 D i).f1 := by omega
     rw [<- e3] at z1 ⊢
     omega
    .rw [if_pos e0, if_neg e1, if_neg (by omega), if_pos e0.symm, <- e0]
     omega
   .rw [if_neg e0]
    by_cases e1 : v = (rT39 D i).f1
    .rw [if_pos e1, if_pos e1.symm, if_neg (fun h => e0 h.symm), <- e1]
     omega
    .rw [if_neg e1, if_neg (fun h => e1 h.symm), if_neg (fun h => e0 h.symm)]
     omega)
  refine ⟨e, Ev.step (fun k => ?_) h1, h2, h3⟩
  rw [d_CheckFlow.l0, if_pos hlt, if_pos hi, if_pos hlt, if_pos d2, if_pos (by omega), if_pos (by omega), wrap_id (x := rd s _ - _) (by omega) (by omega), Option.bind_some, if_pos d0, if_pos (by omega), wrap_id hb0.1 hb0.2, wrap_id (x := i + 1) (by omega) (by omega)]
structure FlowArg (n : Nat) (D : List S39) (w F : List Int) : Prop where
 w : Weighty n w
 l : F.length = D.length
 b : ∀ k, 0 <= k -> k < (D.length : Int) -> 0 <= rd F k /\ rd F k <= 1048576
theorem FlowIs.arg {a : Int} (h : FlowIs n D w F a) : FlowArg n D w F := ⟨h.hw, h.f.lf, fun k k0 k1 => ⟨h.f.pos k k0 k1, h.u k k0 k1⟩⟩
theorem cflow_code (hV : Valid n D) (w F : List Int) (a : Int) : ∃ e, Ev (fun k => d_CheckFlow.f k n D w a F) e /\ (e = 0 <-> FlowIs n D w F a) /\ (¬ FlowArg n D w F -> e = 1) /\ (FlowArg n D w F -> ¬ FlowIs n D w F a -> e = 43) := by
 have hask := fun p q : Bool => asked_ev n D [p, q] (by simp)
 simp only [if_pos (validB_iff.2 hV)] at hask
 have hbad : ∀ p q : Bool, (p && q) = false -> Ev (fun k => d_asked.f k n D [p, q]) 1 := fun p q h => by
  have := hask p q
  rw [if_pos (by cases p <;> cases q <;> first | rfl | exact absurd h (by decide))] at this
  exact this
 -- what j0 answers, the flow's own bit being known
 have hj : ∀ b : Bool, (b = true <-> F.length = D.length /\ ∀ k, 0 <= k -> k < (D.length : Int) -> 0 <= rd F k /\ rd F k <= 1048576) -> ∃ e, Ev (fun k => d_CheckFlow.j0 k w a F b n D) e /\ (e = 0 <-> FlowIs n D w F a) /\ (¬ FlowArg n D w F -> e = 1) /\ (FlowArg n D w F -> ¬ FlowIs n D w F a -> e = 43) := fun b hb => by
  have hin : ∀ {e}, Ev (fun k => (d_asked.f k n D [weightyB n w, b]).bind fun MQ => (if MQ = 0 then ((s_Clone_int_int.f w).bind fun Xi => (d_CheckFlow.l0 k a F Xi D D.length 0 n D)) else some MQ)) e -> Ev (fun k => d_CheckFlow.j0 k w a F b n D) e := fun h =>
   Ev.step (fun k => by rw [d_CheckFlow.j0, weighty_some, Option.bind_some]) h
  cases hwb : weightyB n w with
  | false =>
   rw [hwb] at hin
   have hno : ¬ Weighty n w := fun h => by rw [weightyB_iff.2 h] at hwb; cases hwb
   exact ⟨1, hin ((hbad false b rfl).bind (Ev.neg (by decide) (Ev.now _))), ⟨fun h => absurd h (by decide), fun h => absurd h.hw hno⟩, fun _ => rfl, fun h => absurd h.w hno⟩
  | true =>
   rw [hwb] at hin
   cases b with
   | false =>
    have hno : ¬ FlowArg n D w F := fun h => absurd (hb.2 ⟨h.l, h.b⟩) (by decide)
    exact ⟨1, hin ((hbad true false rfl).bind (Ev.neg (by decide) (Ev.now _))), ⟨fun h => absurd h (by decide), fun h => absurd h.arg hno⟩, fun _ => rfl, fun h => absurd h hno⟩
   | true =>
    have hw := weightyB_iff.1 hwb
    have hwl := hw.l
    have hn2 := hV.n2
    obtain ⟨hl, hF⟩ := hb.1 rfl
    have h0 : Ev (fun k => d_asked.f k n D [true, true]) 0 := by
     have := hask true true
     rw [if_neg (by decide)] at this
     exact this
    obtain ⟨e, h1, h2, h3⟩ := cflow_l0 hV hw hl hF a D.length 0 w (by omega) (by omega) (by omega) (fun v v0 v1 => by
     have := hw.b v v0 v1
     simp only [show (0 : Int).toNat = 0 from rfl, List.take_zero, netF]
     omega)
    refine ⟨e, hin (h0.bind (Ev.pos rfl ?_)), h3, fun h => absurd ⟨hw, hl, hF⟩ h, fun _ h => h2.resolve_left (fun he => h (h3.1 he))⟩
    unfold s_Clone_int_int.f
    rw [if_pos (by omega)]
    simp only [Option.bind_some]
    exact h1
 unfold d_CheckFlow.f
 by_cases hl : (F.length : Int) = (D.length : Int)
 case neg =>
  obtain ⟨e, h1, h2⟩ := hj false ⟨fun h => (by cases h), fun h => absurd (by rw [h.1]) hl⟩
  exact ⟨e, Ev.neg hl h1, h2⟩
 have hany : (F.any fun x => !in_ x 0 1048576) = false <-> ∀ k, 0 <= k -> k < (D.length : Int) -> 0 <= rd F k /\ rd F k <= 1048576 := by
  rw [List.any_eq_false]
  constructor
  .intro h k k0 k1
   have := h (rd F k) (rd_mem k0 (by omega))
   simpa [in_] using this
  .intro h x hx
   obtain ⟨v, v0, v1, rfl⟩ := mem_rd hx
   have := h v v0 (by omega)
   simp [in_, this.1, this.2]
 unfold cf97.f
 simp only [Option.bind_some]
 cases hA : (F.any fun x => !in_ x 0 1048576) with
 | true =>
  obtain ⟨e, h1, h2⟩ := hj false ⟨fun h => (by cases h), fun h => by
   have := hany.2 h.2
   rw [hA] at this; cases this⟩
  exact ⟨e, Ev.pos hl h1, h2⟩
 | false =>
  obtain ⟨e, h1, h2⟩ := hj true ⟨fun _ => ⟨by omega, hany.1 hA⟩, fun _ => rfl⟩
  exact ⟨e, Ev.pos hl h1, h2⟩
theorem sum_l0 {x : List Int} (hw : Weighty n w) (hx : (x.length : Int) = n) (hn : n <= 256) (hb : ∀ v, 0 <= v -> v < (n : Int) -> -1099511627776 <= rd x v /\ rd x v <= 1099511627776) : ∀ (q : Nat) (i : Nat) (acc : Int), q + i = n -> acc = sumN (fun v => if v = 0 then 0 else rd w v * rd x v) i -> -((i : Int) * 4503599627370496) <= acc -> acc <= (i : Int) * 4503599627370496 -> 1 <= i ->
  Ev (fun k => r_Sum.l0 k w x acc i) (sumN (fun v => if v = 0 then 0 else rd w v * rd x v) n) := by
 intro q
 induction q with
 | zero =>
  intro i acc hq ha h1 h2 hi
  have hwl := hw.l
  have e : i = n := by omega
  rw [e] at ha
  rw [<- ha]
  exact Ev.step (f := fun _ => some acc) (fun k => by rw [r_Sum.l0, if_neg (by omega)]) (Ev.now _)
 | succ q ihq =>
  intro i acc hq ha h1 h2 hi
  have hwl := hw.l
  have bw := hw.b i (by omega) (by omega)
  have bx := hb i (by omega) (by omega)
  have key : ∀ p r : Int, 0 <= p -> p <= 4096 -> 0 <= r -> r <= 1099511627776 -> 0 <= p * r /\ p * r <= 4503599627370496 := fun p r p0 p1 r0 r1 => ⟨Int.mul_nonneg p0 r0, Int.mul_le_mul p1 r1 r0 (by omega)⟩
  have bp : -4503599627370496 <= rd w i * rd x i /\ rd w i * rd x i <= 4503599627370496 := by
   by_cases s1 : 0 <= rd w i
   .by_cases s2 : 0 <= rd x i
    .have := key _ _ s1 bw.2 s2 bx.2; omega
    .have := key (rd w i) (-(rd x i)) s1 bw.2 (by omega) (by omega)
     rw [Int.mul_neg] at this; omega
   .by_cases s2 : 0 <= rd x i
    .have := key (-(rd w i)) (rd x i) (by omega) (by omega) s2 bx.2
     rw [Int.neg_mul] at this; omega
    .have := key (-(rd w i)) (-(rd x i)) (by omega) (by omega) (by omega) (by omega)
     rw [Int.neg_mul_neg] at this; omega
  have ih := ihq (i + 1) (acc + rd w i * rd x i) (by omega) (by simp only [sumN]; rw [if_neg (by omega), ha]) (by push_cast; omega) (by push_cast; omega) (by omega)
  refine Ev.step (fun k => ?_) ih
  rw [r_Sum.l0, if_pos (by omega), if_pos (by omega), if_pos (by omega), wrap_id (x := rd w i * rd x i) (by omega) (by omega), wrap_id (by omega) (by omega), wrap_id (x := (i : Int) + 1) (by omega) (by omega)]
  rfl
theorem sum_ev {x : List Int} (hw : Weighty n w) (hx : (x.length : Int) = n) (hn0 : 0 < n) (hn : n <= 256) (hb : ∀ v, 0 <= v -> v < (n : Int) -> -1099511627776 <= rd x v /\ rd x v <= 1099511627776) : Ev (fun k => r_Sum.f k w x) (sumW n w (rd x)) :=
 sum_l0 hw hx hn hb (n - 1) 1 0 (by omega) (by simp [sumN]) (by omega) (by omega) (by omega)
end
end Go.Proofs.Ytpolojoeabmhdaa.A
namespace Go.Proofs.Ytpolojoeabmhdaa.A
open Go.RowKit Go.Proofs.YtpolojoeabmhdaaW.PrintWords Go.Proofs.YtpolojoeabmhdaaW.PrintLast Go.Proofs.YtpolojoeabmhdaaW.PrintMore
attribute [local go_sem] max2_int min2_int max_two min_two max_three min_three max_four min_four
def r_node.f (a0 : Int) (a1 : Int) : Option (Bool) := if a0 >= 0 then (some (decide (a0 < a1))) else (some false)
set_option maxHeartbeats 8000000
set_option maxRecDepth 100000
theorem r_node.calls (a0 : Int) (a1 : Int) (r : Bool) (w : World) (h : r_node.f a0 a1 = some r) :
  Calls Try.prog 96 #[.int .i64 a0, .int .i64 a1] w fun e w' => e = .returned (.bool r) /\ Drawn0 w w' := by
 have H : (if a0 >= 0 then (some (decide (a0 < a1))) else (some false)) = some r := h; clear h; by_cases c3 : a0 >= 0
 .rw [if_pos c3] at H
  replace c3 : decide (0 <= a0) = true := eT_ c3; obtain rfl := oI_ H; go_enter Try.func96, Try.ntmps96; go_wp2; go_ret; exact ⟨rf_, by repeat (first | exact Drawn0.refl _ | apply Drawn0.step)⟩
 rw [if_neg c3] at H; replace c3 : decide (0 <= a0) = false := eF_ c3; obtain rfl := oI_ H; go_enter Try.func96, Try.ntmps96; go_wp2; go_ret; exact ⟨rf_, by repeat (first | exact Drawn0.refl _ | apply Drawn0.step)⟩
def r_Valid.f (ae : Int) (EA : Int) (vN : Int) (a1 : Int) : Option (Bool) := (r_node.f ae a1).bind fun apV => (if apV = true then ((r_node.f EA a1).bind fun apU => (if apU = true then (if vN >= (-1073741824) then (some (decide (vN <= 1073741824))) else (some false)) else (some false))) else (some false))
theorem r_Valid.calls (ae : Int) (EA : Int) (vN : Int) (a1 : Int) (r : Bool) (w : World) (h : r_Valid.f ae EA vN a1 = some r) :
  Calls Try.prog 69 #[.agg #[.int .i64 ae, .int .i64 EA, .int .i64 vN], .int .i64 a1] w fun e w' => e = .returned (.bool r) /\ Below w.heap.size w w' := by
 have zm := Try.underlying39; have HB := Z_ (Below.refl w.heap.size w); have H : ((r_node.f ae a1).bind fun apV => (if apV = true then ((r_node.f EA a1).bind fun apU => (if apU = true then (if vN >= (-1073741824) then (some (decide (vN <= 1073741824))) else (some false)) else (some false))) else (some false))) = some r := h; clear h; obtain ⟨apV, A3, H⟩ := oZ_ H; by_cases c4 : apV = true
 .subst c4
  rw [if_pos rfl] at H; obtain ⟨apU, A5, H⟩ := oZ_ H; by_cases c6 : apU = true
  .subst c6
   rw [if_pos rfl] at H; by_cases c7 : vN >= (-1073741824)
   .rw [if_pos c7] at H
    replace c7 : decide ((-1073741824) <= vN) = true := eT_ c7; obtain rfl := oI_ H; go_enter Try.func69, Try.ntmps69; go_wp2_with (first | ((with_reducible refine gate_dst (N := 2) rfl ?_); refine bX_ 2 #[.int .i64 ae, .int .i64 EA, .int .i64 vN] 39 ?_; intro Jx hg w8 hbox hb; have WO := Z_ (hbox); have axl := Z_ ((by rw [hg]; exact (fZ_ hB_) : w.heap.size <= Jx)); have axs := Z_ ((by rw [hg]; exact (fZ_ hB_) : w.heap.size <= Jx)); replace HB := Z_ (fS_ hB_ hb); clear hb hbox hg; obtain ⟨⟨lZ, lY, F7⟩, lX, lW, F6⟩ := f3_ WO.out) | ((with_reducible refine gate_callee (f := 96) rfl ?_); refine gL_ (some 8) Try.func96 #[.int .i64 ae, .int .i64 a1] ?_; (with_reducible refine (r_node.calls ae a1 true _ A3.out).mono ?_); rintro e w' ⟨rfl, ⟨nd, rfl⟩⟩; refine ⟨_, rfl, ?_⟩) | (go_at_call 96; (with_reducible refine (r_node.calls EA a1 true _ A5.out).mono ?_); rintro e w' ⟨rfl, ⟨nd, rfl⟩⟩)); go_ret; exact ⟨eW_, hB_⟩
   rw [if_neg c7] at H; replace c7 : decide ((-1073741824) <= vN) = false := eF_ c7; obtain rfl := oI_ H; go_enter Try.func69, Try.ntmps69; go_wp2_with (first | ((with_reducible refine gate_dst (N := 2) rfl ?_); refine bX_ 2 #[.int .i64 ae, .int .i64 EA, .int .i64 vN] 39 ?_; intro Jx hg w10 hbox hb; have WO := Z_ (hbox); have axl := Z_ ((by rw [hg]; exact (fZ_ hB_) : w.heap.size <= Jx)); have axs := Z_ ((by rw [hg]; exact (fZ_ hB_) : w.heap.size <= Jx)); replace HB := Z_ (fS_ hB_ hb); clear hb hbox hg; obtain ⟨⟨ls, lr, N8⟩, ln, ll, NU⟩ := f3_ WO.out) | ((with_reducible refine gate_callee (f := 96) rfl ?_); refine gL_ (some 8) Try.func96 #[.int .i64 ae, .int .i64 a1] ?_; (with_reducible refine (r_node.calls ae a1 true _ A3.out).mono ?_); rintro e w' ⟨rfl, ⟨nd, rfl⟩⟩; refine ⟨_, rfl, ?_⟩) | (go_at_call 96; (with_reducible refine (r_node.calls EA a1 true _ A5.out).mono ?_); rintro e w' ⟨rfl, ⟨nd, rfl⟩⟩)); go_ret; exact ⟨eW_, hB_⟩
  replace c6 := bE_.mpr c6; subst c6; have H1 : (some false) = some r := by rw [if_neg (show ¬ (false = true) by decide)] at H; exact H
  clear H; have H := H1; clear H1; obtain rfl := oI_ H; go_enter Try.func69, Try.ntmps69; go_wp2_with (first | ((with_reducible refine gate_dst (N := 2) rfl ?_); refine bX_ 2 #[.int .i64 ae, .int .i64 EA, .int .i64 vN] 39 ?_; intro Jx hg w12 hbox hb; have WO := Z_ (hbox); have axl := Z_ ((by rw [hg]; exact (fZ_ hB_) : w.heap.size <= Jx)); have axs := Z_ ((by rw [hg]; exact (fZ_ hB_) : w.heap.size <= Jx)); replace HB := Z_ (fS_ hB_ hb); clear hb hbox hg; obtain ⟨⟨vK, vJ, FA⟩, vI, vH, Ft⟩ := f3_ WO.out) | ((with_reducible refine gate_callee (f := 96) rfl ?_); refine gL_ (some 8) Try.func96 #[.int .i64 ae, .int .i64 a1] ?_; (with_reducible refine (r_node.calls ae a1 true _ A3.out).mono ?_); rintro e w' ⟨rfl, ⟨nd, rfl⟩⟩; refine ⟨_, rfl, ?_⟩) | (go_at_call 96; (with_reducible refine (r_node.calls EA a1 false _ A5.out).mono ?_); rintro e w' ⟨rfl, ⟨nd, rfl⟩⟩)); go_ret; exact ⟨eW_, hB_⟩
 replace c4 := bE_.mpr c4; subst c4; have H1 : (some false) = some r := by rw [if_neg (show ¬ (false = true) by decide)] at H; exact H
 clear H; have H := H1; clear H1; obtain rfl := oI_ H; go_enter Try.func69, Try.ntmps69; go_wp2_with (first | ((with_reducible refine gate_dst (N := 2) rfl ?_); refine bX_ 2 #[.int .i64 ae, .int .i64 EA, .int .i64 vN] 39 ?_; intro Jx hg w14 hbox hb; have WO := Z_ (hbox); have axl := Z_ ((by rw [hg]; exact (fZ_ hB_) : w.heap.size <= Jx)); have axs := Z_ ((by rw [hg]; exact (fZ_ hB_) : w.heap.size <= Jx)); replace HB := Z_ (fS_ hB_ hb); clear hb hbox hg; obtain ⟨⟨mM, mL, abt⟩, mI, mH, aa9⟩ := f3_ WO.out) | ((with_reducible refine gate_callee (f := 96) rfl ?_); refine gL_ (some 8) Try.func96 #[.int .i64 ae, .int .i64 a1] ?_; (with_reducible refine (r_node.calls ae a1 false _ A3.out).mono ?_); rintro e w' ⟨rfl, ⟨nd, rfl⟩⟩; refine ⟨_, rfl, ?_⟩)); go_ret; exact ⟨eW_, hB_⟩
mutual
def r_Check.j0 : Nat -> Bool -> Int -> List (S39) -> Option (Int)
 | 0, _, _, _ => none
 | k + 1, x17, Rk, G8 => if x17 = true then (some 40) else (r_Check.l0 k 0 Rk G8)
def r_Check.l0 : Nat -> Int -> Int -> List (S39) -> Option (Int)
 | 0, _, _, _ => none
 | k + 1, x3, Rk, G8 => if x3 < (G8.length : Int) then (if 0 <= x3 then ((r_Valid.f ((rT39 G8 x3).f0) ((rT39 G8 x3).f1) ((rT39 G8 x3).f2) Rk).bind fun ayC => (if ayC = true then (r_Check.l0 k (wrap64 (x3 + 1)) Rk G8) else (some 40))) else (none)) else (some 0)
end
def r_Check.f (k : Nat) (ae : Int) (ac : List (S39)) : Option (Int) := if ae < 1 then (r_Check.j0 k true ae ac) else (if ae > 256 then (r_Check.j0 k true ae ac) else (r_Check.j0 k (decide ((ac.length : Int) > 4096)) ae ac))
theorem r_Check.mono_l : ∀ k, (∀ y0 y1 y2, LeO (r_Check.j0 k y0 y1 y2) (r_Check.j0 (k + 1) y0 y1 y2)) /\ (∀ y0 y1 y2, LeO (r_Check.l0 k y0 y1 y2) (r_Check.l0 (k + 1) y0 y1 y2))
 | 0 => ⟨fun _ _ _ r h => by simp [r_Check.j0] at h, fun _ _ _ r h => by simp [r_Check.l0] at h⟩
 | k + 1 => by
  obtain ⟨ih0, ih1⟩ := r_Check.mono_l k; refine ⟨?_, ?_⟩ <;> intros <;> (first | unfold r_Check.j0 | unfold r_Check.l0) <;> repeat' first | (with_reducible first | exact ih0 _ _ _ | exact ih1 _ _ _ | exact LeO.refl _ | exact LeO.none _ | refine LeO.ite ?_ ?_ | refine LeO.bind ?_ (fun _ => ?_))
theorem r_Check.mono : ∀ a0 a1 k, LeO (r_Check.f k a0 a1) (r_Check.f (k + 1) a0 a1) := by
 intro a0 a1 k; obtain ⟨ih0, ih1⟩ := r_Check.mono_l k; unfold r_Check.f; repeat' first | (with_reducible first | exact ih0 _ _ _ | exact ih1 _ _ _ | exact LeO.refl _ | exact LeO.none _ | refine LeO.ite ?_ ?_ | refine LeO.bind ?_ (fun _ => ?_))
def r_Check.T6 : Bool × List (List Nat × List Nat) := (true, [([], []), ([0], [0]), ([], []), ([1, 2], [1, 2]), ([3], [3]), ([], []), ([5], [5]), ([4, 6], [4, 6]), ([7], [7])])
def r_Check.B6 : List Nat := [0, 1, 0, 7, 15, 0, 32, 127, 255]
theorem r_Check.tab6 : rtab .any (opsOf Try.f22 6) = r_Check.T6 := by kernel_rfl
theorem r_Check.bits6 : waitsOk r_Check.T6.2 r_Check.B6 = true := by kernel_rfl
set_option maxHeartbeats 8000000
set_option maxRecDepth 100000
theorem r_Check.calls (k : Nat) (ae : Int) (ag : Option Addr) (af : Nat) (ac : List (S39)) (r : Int) (w : World) (aA : Kd.C k39 w ag ac.length ac) (aC : ac.length <= af) (h : r_Check.f k ae ac = some r) :
  Calls Try.prog 22 #[.agg #[.int .i64 ae, .slice ag ac.length af]] w fun e w' => e = .returned (.int .i64 r) /\ Below w.heap.size w w' := by
 have ja := Try.underlying24; have zm := Try.underlying39; have ah := Z_ aA; have ai := Z_ aC; clear aA aC; have HB := Z_ (Below.refl w.heap.size w); have H : (if ae < 1 then (r_Check.j0 k true ae ac) else (if ae > 256 then (r_Check.j0 k true ae ac) else (r_Check.j0 k (decide ((ac.length : Int) > 4096)) ae ac))) = some r := h; clear h; have HC2 := Z_ H; clear H; go_enter Try.func22, Try.ntmps22; go_upto_region 1 with (first | ((with_reducible refine gate_dst (N := 1) rfl ?_); (try (refine gate_guard (by rfl) ?_; dsimp only)); refine bX_ 1 #[.int .i64 ae, .slice ag ac.length af] 24 ?_; intro Yc hg w3 hbox hb; have xA := Z_ (hbox); have bdf := Z_ ((by rw [hg]; exact (fZ_ hB_) : w.heap.size <= Yc)); have beq := Z_ ((by rw [hg]; exact (fZ_ hB_) : w.heap.size <= Yc)); replace HB := Z_ (fS_ hB_ hb); clear hb hbox hg)); (try simp only [Act.put, sT_, sZ_, sS_])
 go_cut [17] (fun v17 wc => ∃ (kq : Nat) (aj7 : Bool), v17 = .bool aj7 /\ Aside0 (r_Check.j0 kq aj7 ae ac = some r) /\ Aside0 (kq <= k) /\ Aside0 (wc.heap[Yc]? = some (.cells #[.int .i64 ae, (.slice ag ac.length af)] 24 (0, 0))) /\ Aside0 (Below w.heap.size w wc))
 case first =>
  have H := HC2.out; clear HC2; by_cases c4 : ae < 1
  .rw [if_pos c4] at H
   replace c4 := eT_ c4; (try rw [c4])
   have H' := Z_ H; clear H; obtain ⟨⟨qe, qd⟩, qc, qb⟩ := f2_ xA.out; go_wp2; go_meet
   case rel => exact ⟨_, (true), rf_, H', ⟨oL_⟩, ⟨bR_ xA.out⟩, ⟨hB_⟩⟩
  rw [if_neg c4] at H; replace c4 := eF_ c4; (try rw [c4])
  by_cases c6 : ae > 256
  .rw [if_pos c6] at H
   replace c6 : decide (256 < ae) = true := eT_ c6; have H' := Z_ H; clear H; obtain ⟨⟨nT, nS⟩, nR, nQ⟩ := f2_ xA.out; go_wp2; go_meet
   case rel => exact ⟨_, (true), rf_, H', ⟨oL_⟩, ⟨bR_ xA.out⟩, ⟨hB_⟩⟩
  rw [if_neg c6] at H; replace c6 : decide (256 < ae) = false := eF_ c6; have H' := Z_ H; clear H; obtain ⟨⟨AR, AQ⟩, AP, AO⟩ := f2_ xA.out; go_wp2; go_meet
  case rel => exact ⟨_, (decide ((ac.length : Int) > 4096)), rf_, H', ⟨oL_⟩, ⟨bR_ xA.out⟩, ⟨hB_⟩⟩
 case rest =>
  clear HC2; obtain ⟨kq, aj7, rfl, HA, HJ1, xA, HB⟩ := hcut
  cases kq with
  | zero => exact absurd HA.out (by simp [r_Check.j0])
  | succ kj1 =>
   have H := HA.out; clear HA; simp only [r_Check.j0] at H; by_cases c9 : aj7 = true
   .subst c9
    rw [if_pos rfl] at H; obtain rfl := oI_ H; go_wp2; go_ret; exact ⟨eW_, hB_⟩
   replace c9 := bE_.mpr c9; subst c9; have H1 : (r_Check.l0 kj1 0 ae ac) = some r := by rw [if_neg (show ¬ (false = true) by decide)] at H; exact H
   clear H; have H := H1; clear H1; have H' := Z_ H; clear H; go_wp2; go_loopg [3] kj1 (fun kq v3 w' => ∃ (DK : Int), v3 = .int .i64 DK /\ Aside0 (r_Check.l0 kq DK ae ac = some r) /\ Aside0 (kq <= kj1) /\ Aside0 (w'.heap[Yc]? = some (.cells #[.int .i64 ae, (.slice ag ac.length af)] 24 (0, 0))) /\ Aside0 (Below w.heap.size w w'))
   case atStart => exact ⟨(0), rf_, H', ⟨nR_ _⟩, ⟨bR_ xA.out⟩, ⟨hB_⟩⟩
   case round =>
    clear H'; obtain ⟨DK, rfl, HA, HK2, xA, HB⟩ := hrel
    cases gk with
    | zero => exact absurd HA.out (by simp [r_Check.l0])
    | succ k2 =>
     have H := HA.out; clear HA; simp only [r_Check.l0] at H; by_cases c10 : DK < (ac.length : Int)
     .rw [if_pos c10] at H
      replace c10 := eT_ c10; by_cases c11 : 0 <= DK
      .rw [if_pos c11] at H
       replace c11 := eT_ c11; obtain ⟨ayC, A12, H⟩ := oZ_ H; have axe := Z_ H; clear H; obtain ⟨⟨lQ, lP⟩, lM, lL⟩ := f2_ xA.out; try go_wp2
       replace xA := Z_ (bD_ xA.out); replace HB := Z_ (fD_ HB.out); have aGZ : 0 <= (DK : Int) := dT_ as_; have aFU : DK < (ac.length : Int) := dT_ as_; obtain ⟨Yw, a8g, Sk, Sj, Si⟩ := at_T39 ah.out DK aGZ aFU; have Sy := Si; have Sz := Sj; have SA := Sk; cases a8g
       replace Sk := pw_cell_below HB.out Sk; replace Sj := pw_cell_below HB.out Sj; replace Si := pw_cell_below HB.out Si; replace aGZ := eq_true aGZ; replace aFU := eq_true aFU; refine start_ (n := 9) (S := fun w' => w'.cell? ⟨Yc, 0, none⟩ = some (.int .i64 ae) /\ w'.cell? ⟨Yc, 1, none⟩ = some (.slice (some Yw) ac.length af) /\ w'.cell? (Yw.add ((DK).toNat * 3)) = some (.int .i64 ((rT39 ac DK).f0)) /\ w'.cell? ⟨(Yw.add ((DK).toNat * 3)).block, (Yw.add ((DK).toNat * 3)).off + 1, none⟩ = some (.int .i64 ((rT39 ac DK).f1)) /\ w'.cell? ⟨(Yw.add ((DK).toNat * 3)).block, (Yw.add ((DK).toNat * 3)).off + 2, none⟩ = some (.int .i64 ((rT39 ac DK).f2))) (ds := []) _ (by kernel_rfl) rfl rfl ⟨(bC_ xA.out 0).trans rfl, (bC_ xA.out 1).trans rfl, ((HB.out.cell (World.block_lt_of_cell? w _ SA)).trans SA), ((HB.out.cell (World.block_lt_of_cell? w _ Sz)).trans Sz), ((HB.out.cell (World.block_lt_of_cell? w _ Sy)).trans Sy)⟩ (fun hHeld => ?_); refine with_tabW r_Check.tab6 r_Check.bits6 (fun HT_ HW_ => ?_); generalize wr.drew = w15 at xA HB Sk Sj Si hHeld ⊢; refine pP_ 0 25 ?_; refine pP_ 2 27 ?_; refine pP_ 5 30 ?_; refine pT_ 1 26 ?_; refine pP_ 3 28 ?_; refine pT_ 4 29 ?_; refine pT_ 6 31 ?_; refine oN_ 7 (some 32) (fun K hK => ?_); refine gO_ Try.func69 #[.agg #[.int .i64 ((rT39 ac DK).f0), .int .i64 ((rT39 ac DK).f1), .int .i64 ((rT39 ac DK).f2)], .int .i64 ae] ?_; with_reducible refine (r_Valid.calls ((rT39 ac DK).f0) ((rT39 ac DK).f1) ((rT39 ac DK).f2) ae ayC _ A12.out).mono ?_
       rintro e w16 ⟨rfl, hb⟩; refine ⟨_, rfl, ?_⟩; replace xA := Z_ (bS_ xA.out hb); replace HB := Z_ (fS_ hB_ hb); (try clear hb)
       refine hK.out _ _ ⟨(bC_ xA.out 0).trans rfl, (bC_ xA.out 1).trans rfl, ((HB.out.cell (World.block_lt_of_cell? w _ SA)).trans SA), ((HB.out.cell (World.block_lt_of_cell? w _ Sz)).trans Sz), ((HB.out.cell (World.block_lt_of_cell? w _ Sy)).trans Sy)⟩ (fun hHeld => ?_); clear hK K; refine nP_ 32 ?_; refine pP_ 8 33 ?_; refine dN_ ?_; go_upto_if 33 with (fail); have H := axe.out; clear axe; by_cases c17 : ayC = true
       .subst c17
        rw [if_pos rfl] at H; have H' := Z_ H; clear H; go_wp2; go_roundg k2
        case measure => have := HJ1.out; have := HK2.out; omega
        case rel => exact ⟨(wrap64 (DK + 1)), rf_, H', ⟨by have := HJ1.out; have := HK2.out; omega⟩, ⟨bR_ xA.out⟩, ⟨hB_⟩⟩
       replace c17 := bE_.mpr c17; subst c17; have H1 : (some 40) = some r := by rw [if_neg (show ¬ (false = true) by decide)] at H; exact H
       clear H; have H := H1; clear H1; obtain rfl := oI_ H; go_wp2; go_ret; exact ⟨eW_, hB_⟩
      exact nN_ c11 H
     rw [if_neg c10] at H; replace c10 := eF_ c10; obtain rfl := oI_ H; obtain ⟨⟨kw, kv⟩, kr, kp⟩ := f2_ xA.out; go_wp2; go_ret; exact ⟨eW_, hB_⟩
end Go.Proofs.Ytpolojoeabmhdaa.A
/- The reference: Check; equal lists. -/
namespace Go.Proofs.Ytpolojoeabmhdaa.A
open Go.RowKit Go.Proofs.YtpolojoeabmhdaaW.PrintWords Go.Proofs.YtpolojoeabmhdaaW.PrintLast Go.Proofs.YtpolojoeabmhdaaW.PrintMore
theorem ext_rdOf {α : Type} (d : α) {a b : List α} (hl : a.length = b.length) (h : ∀ v : Int, 0 <= v -> v < (a.length : Int) -> rdOf d a v = rdOf d b v) : a = b :=
 List.ext_getElem hl (fun i h1 h2 => by
  have p := h i (by omega) (by omega)
  unfold rdOf at p
  rw [List.getD_eq_getElem?_getD, List.getD_eq_getElem?_getD, Int.toNat_natCast, List.getElem?_eq_getElem h1, List.getElem?_eq_getElem h2] at p
  exact p)
theorem rvalid_some (d : S39) (n : Int) : r_Valid.f d.f0 d.f1 d.f2 n = some (edgeB n d) := by
 unfold r_Valid.f r_node.f edgeB
 by_cases h0 : d.f0 >= 0
 .rw [if_pos h0, Option.bind_some]
  by_cases h1 : d.f0 < n
  .rw [if_pos (decide_eq_true h1)]
   by_cases h2 : d.f1 >= 0
   .rw [if_pos h2, Option.bind_some]
    by_cases h3 : d.f1 < n
    .rw [if_pos (decide_eq_true h3)]
     by_cases h4 : d.f2 >= -1073741824
     .rw [if_pos h4]; simp [show 0 <= d.f0 from h0, h1, show 0 <= d.f1 from h2, h3, show -1073741824 <= d.f2 from h4]
     .rw [if_neg h4]; simp [show ¬ -1073741824 <= d.f2 from h4]
    .rw [if_neg (by simpa using h3)]; simp [h3]
   .rw [if_neg h2, Option.bind_some, if_neg (by simp)]; simp [show ¬ 0 <= d.f1 from h2]
  .rw [if_neg (by simpa using h1)]; simp [h1]
 .rw [if_neg h0, Option.bind_some, if_neg (by simp)]; simp [show ¬ 0 <= d.f0 from h0]
theorem rcheck_l0 (n : Int) (L : List S39) (hl : L.length <= 4096) : ∀ (q : Nat) (i : Int) (f : Nat), (q : Int) + i = L.length -> 0 <= i ->
  r_Check.l0 (f + q + 1) i n L = some (if (L.drop i.toNat).all (edgeB n) = true then 0 else 40)
 | 0, i, f, hq, hi => by
  rw [r_Check.l0, if_neg (by omega), List.drop_eq_nil_of_le (by omega)]
  rfl
 | q + 1, i, f, hq, hi => by
  have hlt : i < (L.length : Int) := by omega
  rw [show f + (q + 1) + 1 = (f + q + 1) + 1 from by omega, r_Check.l0, if_pos hlt, if_pos hi, rvalid_some, rT39_drop L i hi hlt]
  simp only [Option.bind_some]
  by_cases c : edgeB n (rT39 L i) = true
  .have e : (rT39 L i :: L.drop (i + 1).toNat).all (edgeB n) = (L.drop (i + 1).toNat).all (edgeB n) := by rw [List.all_cons, c, Bool.true_and]
   rw [if_pos c, e, wrap_id (by omega) (by omega)]
   exact rcheck_l0 n L hl q (i + 1) f (by omega) (by omega)
  .have e : (rT39 L i :: L.drop (i + 1).toNat).all (edgeB n) = false := by
    rw [Bool.not_eq_true] at c
    rw [List.all_cons, c, Bool.false_and]
   rw [if_neg c, e]
   rfl
theorem rcheck_ev (n : Int) (L : List S39) : Ev (fun k => r_Check.f k n L) (if validB n L = true then 0 else 40) := by
 unfold r_Check.f
 have hbad : validB n L = false -> Ev (fun k => r_Check.j0 k true n L) (if validB n L = true then 0 else 40) := fun e => by
  rw [e]
  exact Ev.step (f := fun k => some 40) (fun k => by rw [r_Check.j0]; rfl) (Ev.now _)
 by_cases h1 : n < 1
 .refine Ev.pos h1 (hbad ?_)
  unfold validB; simp [show ¬ 1 <= n by omega]
 refine Ev.neg h1 ?_
 by_cases h2 : n > 256
 .refine Ev.pos h2 (hbad ?_)
  unfold validB; simp [show ¬ n <= 256 by omega]
 refine Ev.neg h2 ?_
 by_cases hl : L.length <= 4096
 .have e : validB n L = L.all (edgeB n) := by
   unfold validB; simp [show 1 <= n by omega, show n <= 256 by omega, hl]
  rw [decide_eq_false (by omega), e]
  refine Ev.step (f := fun k => r_Check.l0 k 0 n L) (fun k => by rw [r_Check.j0]; rfl) ?_
  refine Ev.shift (L.length + 1) (h := fun _ => some _) (fun f => ?_) (Ev.now _)
  have := rcheck_l0 n L hl L.length 0 f (by omega) (by omega)
  rw [show (0 : Int).toNat = 0 from rfl, List.drop_zero] at this
  exact this
 .rw [decide_eq_true (by omega)]
  refine hbad ?_
  unfold validB; simp [hl]
end Go.Proofs.Ytpolojoeabmhdaa.A
namespace Go.Proofs.Ytpolojoeabmhdaa.A
open Go.RowKit Go.Proofs.YtpolojoeabmhdaaW.PrintWords Go.Proofs.YtpolojoeabmhdaaW.PrintLast Go.Proofs.YtpolojoeabmhdaaW.PrintMore
attribute [local go_sem] max2_int min2_int max_two min_two max_three min_three max_four min_four
mutual
def r_Lengths.l0 : Nat -> List Bool -> List Int -> List Bool -> Int -> Int -> List (S39) -> Option (List Int × List Bool × Bool)
 | 0, _, _, _, _, _, _ => none
 | k + 1, x1, x4, x5, x7, tP, iH => if x7 < tP then (if x4.length < 17592186044416 then (if 0 <= x7 then (if x7 < (x1.length : Int) then (if x5.length < 140737488355328 then (r_Lengths.l0 k x1 (x4 ++ [0]) (x5 ++ [rdOf false x1 x7]) (wrap64 (x7 + 1)) tP iH) else (none)) else (none)) else (none)) else (none)) else (r_Lengths.l1 k x4 x5 0 tP iH)
def r_Lengths.l1 : Nat -> List Int -> List Bool -> Int -> Int -> List (S39) -> Option (List Int × List Bool × Bool)
 | 0, _, _, _, _, _ => none
 | k + 1, x4, x5, x8, tP, iH => if x8 <= tP then (r_Lengths.l2 k x4 x5 x8 false 0 tP iH) else (some (x4, x5, false))
def r_Lengths.l2 : Nat -> List Int -> List Bool -> Int -> Bool -> Int -> Int -> List (S39) -> Option (List Int × List Bool × Bool)
 | 0, _, _, _, _, _, _, _ => none
 | k + 1, x4, x5, x8, x9, x10, tP, iH => if x10 < (iH.length : Int) then (if 0 <= x10 then (if 0 <= ((rT39 iH x10).f0) then (if ((rT39 iH x10).f0) < (x5.length : Int) then (if rdOf false x5 ((rT39 iH x10).f0) = true then (if 0 <= ((rT39 iH x10).f1) then (if ((rT39 iH x10).f1) < (x5.length : Int) then (if (rdOf false x5 ((rT39 iH x10).f1) = true) then (if ((rT39 iH x10).f0) < (x4.length : Int) then (if ((rT39 iH x10).f1) < (x4.length : Int) then (r_Lengths.j3 k x4 x5 x8 x9 x10 (decide ((wrap64 ((rd x4 ((rT39 iH x10).f0)) + ((rT39 iH x10).f2))) < (rd x4 ((rT39 iH x10).f1)))) tP iH ((rT39 iH x10).f0) ((rT39 iH x10).f1) ((rT39 iH x10).f2)) else (none)) else (none)) else (r_Lengths.j3 k x4 x5 x8 x9 x10 true tP iH ((rT39 iH x10).f0) ((rT39 iH x10).f1) ((rT39 iH x10).f2))) else (none)) else (none)) else (r_Lengths.j3 k x4 x5 x8 x9 x10 false tP iH ((rT39 iH x10).f0) ((rT39 iH x10).f1) ((rT39 iH x10).f2))) else (none)) else (none)) else (none)) else (if x9 = true then (r_Lengths.l1 k x4 x5 (wrap64 (x8 + 1)) tP iH) else (some (x4, x5, true)))
def r_Lengths.j3 : Nat -> List Int -> List Bool -> Int -> Bool -> Int -> Bool -> Int -> List (S39) -> Int -> Int -> Int -> Option (List Int × List Bool × Bool)
 | 0, _, _, _, _, _, _, _, _, _, _, _ => none
 | k + 1, x4, x5, x8, x9, x10, x74, tP, iH, ZW, My, ayg => if x74 = true then (if 0 <= ZW then (if ZW < (x4.length : Int) then (if 0 <= My then (if My < (x4.length : Int) then (if My < (x5.length : Int) then (r_Lengths.l2 k (x4.set (My : Int).toNat (wrap64 ((rd x4 ZW) + ayg))) (x5.set (My : Int).toNat true) x8 true (wrap64 (x10 + 1)) tP iH) else (none)) else (none)) else (none)) else (none)) else (none)) else (r_Lengths.l2 k x4 x5 x8 x9 (wrap64 (x10 + 1)) tP iH)
end
def r_Lengths.f (k : Nat) (ae : Int) (ac : List (S39)) (l1 : List Bool) : Option (List Int × List Bool × Bool) := r_Lengths.l0 k l1 ([] : List Int) ([] : List Bool) 0 ae ac
theorem r_Lengths.mono_l : ∀ k, (∀ y0 y1 y2 y3 y4 y5, LeO (r_Lengths.l0 k y0 y1 y2 y3 y4 y5) (r_Lengths.l0 (k + 1) y0 y1 y2 y3 y4 y5)) /\ (∀ y0 y1 y2 y3 y4, LeO (r_Lengths.l1 k y0 y1 y2 y3 y4) (r_Lengths.l1 (k + 1) y0 y1 y2 y3 y4)) /\ (∀ y0 y1 y2 y3 y4 y5 y6, LeO (r_Lengths.l2 k y0 y1 y2 y3 y4 y5 y6) (r_Lengths.l2 (k + 1) y0 y1 y2 y3 y4 y5 y6)) /\ (∀ y0 y1 y2 y3 y4 y5 y6 y7 y8 y9 y10, LeO (r_Lengths.j3 k y0 y1 y2 y3 y4 y5 y6 y7 y8 y9 y10) (r_Lengths.j3 (k + 1) y0 y1 y2 y3 y4 y5 y6 y7 y8 y9 y10))
 | 0 => ⟨fun _ _ _ _ _ _ r h => by simp [r_Lengths.l0] at h, fun _ _ _ _ _ r h => by simp [r_Lengths.l1] at h, fun _ _ _ _ _ _ _ r h => by simp [r_Lengths.l2] at h, fun _ _ _ _ _ _ _ _ _ _ _ r h => by simp [r_Lengths.j3] at h⟩
 | k + 1 => by
  obtain ⟨ih0, ih1, ih2, ih3⟩ := r_Lengths.mono_l k; refine ⟨?_, ?_, ?_, ?_⟩ <;> intros <;> (first | unfold r_Lengths.l0 | unfold r_Lengths.l1 | unfold r_Lengths.l2 | unfold r_Lengths.j3) <;> repeat' first | (with_reducible first | exact ih0 _ _ _ _ _ _ | exact ih1 _ _ _ _ _ | exact ih2 _ _ _ _ _ _ _ | exact ih3 _ _ _ _ _ _ _ _ _ _ _ | exact LeO.refl _ | exact LeO.none _ | refine LeO.ite ?_ ?_ | refine LeO.bind ?_ (fun _ => ?_))
theorem r_Lengths.mono : ∀ a0 a1 a2 k, LeO (r_Lengths.f k a0 a1 a2) (r_Lengths.f (k + 1) a0 a1 a2) := by
 intro a0 a1 a2 k; obtain ⟨ih0, ih1, ih2, ih3⟩ := r_Lengths.mono_l k; unfold r_Lengths.f; repeat' first | (with_reducible first | exact ih0 _ _ _ _ _ _ | exact ih1 _ _ _ _ _ | exact ih2 _ _ _ _ _ _ _ | exact ih3 _ _ _ _ _ _ _ _ _ _ _ | exact LeO.refl _ | exact LeO.none _ | refine LeO.ite ?_ ?_ | refine LeO.bind ?_ (fun _ => ?_))
def r_Lengths.T14 : Bool × List (List Nat × List Nat) := (true, [([], []), ([], []), ([1], [1]), ([0, 2], [0, 2]), ([3], [3]), ([4], [4]), ([5], [5]), ([5], [5]), ([7, 5], [5, 7]), ([6, 8, 5], [5, 6, 8]), ([9, 5], [5, 9]), ([10, 5], [5, 10]), ([11, 5, 5], [5, 11]), ([12], [12]), ([12], [12]), ([14, 12], [12, 14]), ([13, 15, 12], [12, 13, 15]), ([16, 12], [12, 16]), ([12], [12]), ([18, 12], [12, 18]), ([17, 19, 12], [12, 17, 19]), ([12], [12]), ([12], [12]), ([22, 12], [12, 22]), ([21, 23, 12], [12, 21, 23]), ([24, 12], [12, 24]), ([20, 25, 12], [12, 20, 25]), ([12, 26, 5], [5, 12, 26]), ([5, 27], [5, 27])])
def r_Lengths.B14 : List Nat := [0, 0, 2, 7, 15, 31, 63, 63, 191, 511, 1023, 2047, 4095, 8191, 8191, 24575, 65535, 131071, 8191, 270335, 1048575, 8191, 8191, 4202495, 14688255, 31465471, 67108863, 134217727, 268435455]
theorem r_Lengths.tab14 : rtab .any (opsOf Try.f71 14) = r_Lengths.T14 := by kernel_rfl
theorem r_Lengths.bits14 : waitsOk r_Lengths.T14.2 r_Lengths.B14 = true := by kernel_rfl
def r_Lengths.T15 : Bool × List (List Nat × List Nat) := (true, [([], []), ([], []), ([1], [1]), ([], []), ([], []), ([4], [4]), ([3, 5], [3, 5]), ([6], [6]), ([], []), ([8], [8]), ([7, 9], [7, 9]), ([0, 2, 0, 1, 2, 3, 4, 5, 6, 7, 8, 9, 10], [0, 2]), ([11, 10, 0, 1, 2, 3, 4, 5, 6, 7, 8, 9, 10], [10, 11])])
def r_Lengths.B15 : List Nat := [0, 0, 2, 0, 0, 16, 56, 120, 0, 256, 1016, 2047, 4095]
theorem r_Lengths.tab15 : rtab .any (opsOf Try.f71 15) = r_Lengths.T15 := by kernel_rfl
theorem r_Lengths.bits15 : waitsOk r_Lengths.T15.2 r_Lengths.B15 = true := by kernel_rfl
set_option maxHeartbeats 8000000
set_option maxRecDepth 100000
theorem r_Lengths.calls (k : Nat) (ae : Int) (ag : Option Addr) (af : Nat) (ac : List (S39)) (A1 : Option Addr) (c1 : Nat) (l1 : List Bool) (r1 : List Int) (r2 : List Bool) (r3 : Bool) (w : World) (aA : Kd.C k39 w ag ac.length ac) (aC : ac.length <= af) (hr1 : Kd.C Kd.bool w A1 l1.length l1) (hc1 : l1.length <= c1) (h : r_Lengths.f k ae ac l1 = some (r1, r2, r3)) :
  Calls Try.prog 71 #[.agg #[.int .i64 ae, .slice ag ac.length af], .slice A1 l1.length c1] w fun e w' => ∃ v0_ v1_ : Value, e = .returned (.tuple #[v0_, v1_, .bool r3]) /\ Kd.R (Kd.int .i64) 3 w' w.heap.size (fun _ => True) v0_ r1 /\ Kd.R Kd.bool 4 w' w.heap.size (fun _ => True) v1_ r2 /\ Below w.heap.size w w' := by
 have ja := Try.underlying24; have zm := Try.underlying39; have ah := Z_ aA; have ai := Z_ aC; clear aA aC; have HR1 := Z_ hr1; have HC1 := Z_ hc1; clear hr1 hc1; have HB := Z_ (Below.refl w.heap.size w); have H : (r_Lengths.l0 k l1 ([] : List Int) ([] : List Bool) 0 ae ac) = some (r1, r2, r3) := h; clear h; have H' := Z_ H; clear H; go_enter Try.func71, Try.ntmps71; go_wp2_with (first | ((with_reducible refine gate_dst (N := 2) rfl ?_); refine bX_ 2 #[.int .i64 ae, .slice ag ac.length af] 24 ?_; intro CY hg w3 hbox hb; have ip := Z_ (hbox); have bde := Z_ ((by rw [hg]; exact (fZ_ hB_) : w.heap.size <= CY)); have bep := Z_ ((by rw [hg]; exact (fZ_ hB_) : w.heap.size <= CY)); replace HB := Z_ (fS_ hB_ hb); clear hb hbox hg)); go_loopg [4, 5, 7] k (fun kq v4 v5 v7 w' => ∃ (km : List Int) (dp : List Bool) (eB : Int), v7 = .int .i64 eB /\ Aside0 (r_Lengths.l0 kq l1 km dp eB ae ac = some (r1, r2, r3)) /\ Aside0 (kq <= k) /\ Aside0 (Kd.R (Kd.int .i64) 3 w' w.heap.size (fun _ => True) v4 km) /\ Aside0 (Kd.R Kd.bool 4 w' w.heap.size (fun _ => True) v5 dp) /\ Aside0 (w'.heap[CY]? = some (.cells #[.int .i64 ae, (.slice ag ac.length af)] 24 (0, 0))) /\ Aside0 (Below w.heap.size w w'))
 case atStart => exact ⟨(([] : List Int)), (([] : List Bool)), (0), rf_, H', ⟨nR_ _⟩, ⟨by first | exact Kd.R_nil _ _ _ _ _ | exact Kd.N_nil _ _ _ _ _ | exact Kd.V_nil _ _ _ _ _ | exact Kd.Q_nil _ _ _ _ _ | exact Kd.S_nil _ _ _ _ _⟩, ⟨by first | exact Kd.R_nil _ _ _ _ _ | exact Kd.N_nil _ _ _ _ _ | exact Kd.V_nil _ _ _ _ _ | exact Kd.Q_nil _ _ _ _ _ | exact Kd.S_nil _ _ _ _ _⟩, ⟨bR_ ip.out⟩, ⟨hB_⟩⟩
 case round =>
  clear H'; obtain ⟨km, dp, eB, rfl, HA, HK1, lC, gW, ip, HB⟩ := hrel
  cases gk with
  | zero => exact absurd HA.out (by simp [r_Lengths.l0])
  | succ k1 =>
   have H := HA.out; clear HA; simp only [r_Lengths.l0] at H; by_cases c4 : eB < ae
   .rw [if_pos c4] at H
    replace c4 := eT_ c4; by_cases c5 : km.length < 17592186044416
    .rw [if_pos c5] at H
     have aiW := Z_ c5; clear c5; obtain ⟨aEz, adU⟩ : ∃ y_ : List Int, y_ = (km ++ [0]) := ⟨_, rfl⟩; replace H : (if 0 <= eB then (if eB < (l1.length : Int) then (if dp.length < 140737488355328 then (r_Lengths.l0 k1 l1 aEz (dp ++ [rdOf false l1 eB]) (wrap64 (eB + 1)) ae ac) else (none)) else (none)) else (none)) = some (r1, r2, r3) := by first | (rw [adU]; with_reducible exact H) | (have H2_ := (oB_ _ _).symm.trans H; rw [adU]; with_reducible exact H2_) | (have H2_ := (oB_ _ _).symm.trans H; with_reducible exact H2_) | with_reducible exact H | (rw [adU]; exact H) | exact H
     have aWw := Z_ adU; clear adU; by_cases c6 : 0 <= eB
     .rw [if_pos c6] at H
      replace c6 := eT_ c6; by_cases c7 : eB < (l1.length : Int)
      .rw [if_pos c7] at H
       replace c7 := eT_ c7; by_cases c8 : dp.length < 140737488355328
       .rw [if_pos c8] at H
        have awP := Z_ c8; clear c8; obtain ⟨aLf, adT⟩ : ∃ y_ : List Bool, y_ = (dp ++ [rdOf false l1 eB]) := ⟨_, rfl⟩; replace H : (r_Lengths.l0 k1 l1 aEz aLf (wrap64 (eB + 1)) ae ac) = some (r1, r2, r3) := by first | (rw [adT]; with_reducible exact H) | (have H2_ := (oB_ _ _).symm.trans H; rw [adT]; with_reducible exact H2_) | (have H2_ := (oB_ _ _).symm.trans H; with_reducible exact H2_) | with_reducible exact H | (rw [adT]; exact H) | exact H
        have aWv := Z_ adT; clear adT; have H' := Z_ H; clear H; obtain ⟨⟨lZ, lY⟩, lX, lW⟩ := f2_ ip.out; go_wp2_with (first | ((with_reducible refine gate_builtin (b := .append) (xs := #[.tmp 18, .tmp 19]) rfl ?_); at_builtin; refine Kd.R_append (Kd.int .i64) (w0 := w) w.heap.size rfl (.tmp 18) (.tmp 19) 29 3 (.int .i64 0) 8 rfl Try.underlying29 info3 rfl (by decide) (by omega) u4 km 0 [.int .i64 0] (fun _ => True) (fun _ => False) rfl rfl ?aP (fun _ hk => hk.elim) ?aF ?aO ?aB ?aS ?aL ?_; (case aP => exact rfl); (case aB => exact hB_); (case aF => exact (fun _ _ => trivial)); (case aO => exact (rK_ lC.out)); (case aS => exact (fZ_ hB_)); (case aL => have := aiW.out; omega); intro bgA w10 ho hb hg hat; rw [<- aWw.out] at ho; replace gW := Z_ (Kd.R_over' (rK_ gW.out) (Kd.R_typed (rK_ lC.out)) (by decide) hg); replace ip := Z_ (blk_grown (g := CY) (o := .cells #[.int .i64 ae, .slice ag ac.length af] 24 (0, 0)) (bR_ ip.out) hg (Kd.R_ne lC.out ip.out (by decide))); replace HB := Z_ (hb); have aw6 := Z_ (ho); clear lC; clear ho hb hg hat; have aGY : 0 <= (eB : Int) := dT_ as_; have aFT : eB < (l1.length : Int) := dT_ as_; obtain ⟨bb8, a8f, ak8⟩ := Kd.at_bool HR1.out eB aGY aFT; cases a8f; replace ak8 := pw_cell_below HB.out ak8; replace aGY := eq_true aGY; replace aFT := eq_true aFT) | ((with_reducible refine gate_builtin (b := .append) (xs := #[.tmp 21, .tmp 26]) rfl ?_); at_builtin; refine Kd.R_append Kd.bool (w0 := w) w.heap.size rfl (.tmp 21) (.tmp 26) 41 4 (.bool false) 1 rfl Try.underlying41 info4 rfl (by decide) (by omega) u5 dp (rdOf false l1 eB) [.bool (rdOf false l1 eB)] (fun _ => True) (fun _ => False) rfl rfl ?aP (fun _ hk => hk.elim) ?aF ?aO ?aB ?aS ?aL ?_; (case aP => exact rfl); (case aB => exact hB_); (case aF => exact (fun _ _ => trivial)); (case aO => exact (rK_ gW.out)); (case aS => exact (fZ_ hB_)); (case aL => have := awP.out; omega); intro bgz w11 ho hb hg hat; rw [<- aWv.out] at ho; replace ip := Z_ (blk_grown (g := CY) (o := .cells #[.int .i64 ae, .slice ag ac.length af] 24 (0, 0)) (bR_ ip.out) hg (Kd.R_ne gW.out ip.out (by decide))); replace aw6 := Z_ (Kd.R_over' (rK_ aw6.out) (Kd.R_typed (rK_ gW.out)) (by decide) hg); replace HB := Z_ (hb); have aXe := Z_ (ho); clear gW; clear ho hb hg hat)); go_roundg k1
        case measure => have := HK1.out; omega
        case rel => exact ⟨(aEz), (aLf), (wrap64 (eB + 1)), rf_, H', ⟨by have := HK1.out; omega⟩, ⟨rK_ aw6.out⟩, ⟨rK_ aXe.out⟩, ⟨bR_ ip.out⟩, ⟨hB_⟩⟩
       exact nN_ c8 H
      exact nN_ c7 H
     exact nN_ c6 H
    exact nN_ c5 H
   rw [if_neg c4] at H; replace c4 := eF_ c4; have H' := Z_ H; clear H; obtain ⟨⟨lS, lR⟩, lO, lN⟩ := f2_ ip.out; go_wp2; go_loopg [4, 5, 8] k1 (fun kq v4 v5 v8 w' => ∃ (du : List Int) (cd : List Bool) (iu : Int), v8 = .int .i64 iu /\ Aside0 (r_Lengths.l1 kq du cd iu ae ac = some (r1, r2, r3)) /\ Aside0 (kq <= k1) /\ Aside0 (Kd.R (Kd.int .i64) 3 w' w.heap.size (fun _ => True) v4 du) /\ Aside0 (Kd.R Kd.bool 4 w' w.heap.size (fun _ => True) v5 cd) /\ Aside0 (w'.heap[CY]? = some (.cells #[.int .i64 ae, (.slice ag ac.length af)] 24 (0, 0))) /\ Aside0 (Below w.heap.size w w'))
   case atStart => exact ⟨(km), (dp), (0), rf_, H', ⟨nR_ _⟩, ⟨rK_ lC.out⟩, ⟨rK_ gW.out⟩, ⟨bR_ ip.out⟩, ⟨hB_⟩⟩
   case round =>
    clear H'; obtain ⟨du, cd, iu, rfl, HA, HK2, lC, gW, ip, HB⟩ := hrel
    cases gk with
    | zero => exact absurd HA.out (by simp [r_Lengths.l1])
    | succ k2 =>
     have H := HA.out; clear HA; simp only [r_Lengths.l1] at H; by_cases c13 : iu <= ae
     .rw [if_pos c13] at H
      replace c13 := eT_ c13; have H' := Z_ H; clear H; obtain ⟨⟨lQ, lP⟩, lM, lL⟩ := f2_ ip.out; go_wp2; go_loopg [9, 10] k2 (fun kq v9 v10 w' => ∃ (oD : List Int) (s9 : List Bool) (cK : Bool) (ax : Int), v9 = .bool cK /\ v10 = .int .i64 ax /\ Aside0 (r_Lengths.l2 kq oD s9 iu cK ax ae ac = some (r1, r2, r3)) /\ Aside0 (kq <= k2) /\ Aside0 (Kd.R (Kd.int .i64) 3 w' w.heap.size (fun _ => True) u4 oD) /\ Aside0 (Kd.R Kd.bool 4 w' w.heap.size (fun _ => True) u5 s9) /\ Aside0 (w'.heap[CY]? = some (.cells #[.int .i64 ae, (.slice ag ac.length af)] 24 (0, 0))) /\ Aside0 (Below w.heap.size w w'))
      case atStart => exact ⟨(du), (cd), (false), (0), rf_, rf_, H', ⟨nR_ _⟩, ⟨rK_ lC.out⟩, ⟨rK_ gW.out⟩, ⟨bR_ ip.out⟩, ⟨hB_⟩⟩
      case round =>
       clear H'; obtain ⟨oD, s9, cK, ax, rfl, rfl, HA, HK3, lC, gW, ip, HB⟩ := hrel
       cases gk with
       | zero => exact absurd HA.out (by simp [r_Lengths.l2])
       | succ k3 =>
        have H := HA.out; clear HA; simp only [r_Lengths.l2] at H; by_cases c15 : ax < (ac.length : Int)
        .rw [if_pos c15] at H
         replace c15 := eT_ c15; by_cases c16 : 0 <= ax
         .rw [if_pos c16] at H
          replace c16 := eT_ c16; have ajd := Z_ H; clear H; obtain ⟨⟨kw, kv⟩, kr, kp⟩ := f2_ ip.out; have aGX : 0 <= (ax : Int) := dT_ as_; have aFS : ax < (ac.length : Int) := dT_ as_; obtain ⟨Wt, a8e, ak7, ak6, ak5⟩ := at_T39 ah.out ax aGX aFS; cases a8e
          replace ak7 := pw_cell_below HB.out ak7; replace ak6 := pw_cell_below HB.out ak6; replace ak5 := pw_cell_below HB.out ak5; replace aGX := eq_true aGX; replace aFS := eq_true aFS; go_upto_region 14 with (first | ((with_reducible refine gate_dst (N := 11) rfl ?_); refine bX_ 11 #[.int .i64 0, .int .i64 0, .int .i64 0] 39 ?_; intro dD hg w19 hbox hb; replace lC := Z_ (rB_ (rK_ lC.out) hb); replace gW := Z_ (rB_ (rK_ gW.out) hb); have i9 := Z_ (hbox); have bdd := Z_ ((by rw [hg]; exact (fZ_ hB_) : w.heap.size <= dD)); have beo := Z_ ((by rw [hg]; exact (fZ_ hB_) : w.heap.size <= dD)); replace HB := Z_ (fS_ hB_ hb); have YJ := Z_ ((nB_ hg ip.out : CY ≠ dD)); have YI := Z_ ((by rw [hg]; exact Nat.ne_of_gt (blk_lt (g := CY) (o := .cells #[.int .i64 ae, .slice (some Wt) ac.length af] 24 (0, 0)) (bR_ ip.out)) : dD ≠ CY)); replace ip := Z_ (bS_ ip.out hb); clear hb hbox hg; have aCm := YI.out; have aB1 := YJ.out; obtain ⟨⟨hJ, g8, KW⟩, g7, gZ, KI⟩ := f3_ i9.out)); (try simp only [Act.put, sT_, sZ_, sS_])
          go_cut [74] (fun v74 wc => ∃ (kq : Nat) (Zv : Bool), v74 = .bool Zv /\ Aside0 (r_Lengths.j3 kq oD s9 iu cK ax Zv ae ac ((rT39 ac ax).f0) ((rT39 ac ax).f1) ((rT39 ac ax).f2) = some (r1, r2, r3)) /\ Aside0 (kq <= k3) /\ Aside0 (Kd.R (Kd.int .i64) 3 wc w.heap.size (fun _ => True) u4 oD) /\ Aside0 (Kd.R Kd.bool 4 wc w.heap.size (fun _ => True) u5 s9) /\ Aside0 (wc.heap[CY]? = some (.cells #[.int .i64 ae, (.slice (some Wt) ac.length af)] 24 (0, 0))) /\ Aside0 (wc.heap[dD]? = some (.cells #[.int .i64 ((rT39 ac ax).f0), .int .i64 ((rT39 ac ax).f1), .int .i64 ((rT39 ac ax).f2)] 39 (0, 0))) /\ Aside0 (Below w.heap.size w wc))
          case first =>
           have H := ajd.out; clear ajd; by_cases c22 : 0 <= ((rT39 ac ax).f0)
           .rw [if_pos c22] at H
            replace c22 := eT_ c22; (try rw [c22])
            by_cases c23 : ((rT39 ac ax).f0) < (s9.length : Int)
            .rw [if_pos c23] at H
             replace c23 := eT_ c23; obtain ⟨aVl, auR⟩ : ∃ b_ : Bool, b_ = (rdOf false s9 ((rT39 ac ax).f0)) := ⟨_, rfl⟩; replace H : (if aVl = true then (if 0 <= ((rT39 ac ax).f1) then (if ((rT39 ac ax).f1) < (s9.length : Int) then (if (rdOf false s9 ((rT39 ac ax).f1) = true) then (if ((rT39 ac ax).f0) < (oD.length : Int) then (if ((rT39 ac ax).f1) < (oD.length : Int) then (r_Lengths.j3 k3 oD s9 iu cK ax (decide ((wrap64 ((rd oD ((rT39 ac ax).f0)) + ((rT39 ac ax).f2))) < (rd oD ((rT39 ac ax).f1)))) ae ac ((rT39 ac ax).f0) ((rT39 ac ax).f1) ((rT39 ac ax).f2)) else (none)) else (none)) else (r_Lengths.j3 k3 oD s9 iu cK ax true ae ac ((rT39 ac ax).f0) ((rT39 ac ax).f1) ((rT39 ac ax).f2))) else (none)) else (none)) else (r_Lengths.j3 k3 oD s9 iu cK ax false ae ac ((rT39 ac ax).f0) ((rT39 ac ax).f1) ((rT39 ac ax).f2))) = some (r1, r2, r3) := by rw [<- auR] at H; exact H
             have agw := Z_ auR; clear auR; by_cases c25 : aVl = true
             .subst c25
              rw [if_pos rfl] at H; by_cases c26 : 0 <= ((rT39 ac ax).f1)
              .rw [if_pos c26] at H
               replace c26 := eT_ c26; by_cases c27 : ((rT39 ac ax).f1) < (s9.length : Int)
               .rw [if_pos c27] at H
                replace c27 := eT_ c27; obtain ⟨aVj, auP⟩ : ∃ b_ : Bool, b_ = (rdOf false s9 ((rT39 ac ax).f1)) := ⟨_, rfl⟩; replace H : (if (aVj = true) then (if ((rT39 ac ax).f0) < (oD.length : Int) then (if ((rT39 ac ax).f1) < (oD.length : Int) then (r_Lengths.j3 k3 oD s9 iu cK ax (decide ((wrap64 ((rd oD ((rT39 ac ax).f0)) + ((rT39 ac ax).f2))) < (rd oD ((rT39 ac ax).f1)))) ae ac ((rT39 ac ax).f0) ((rT39 ac ax).f1) ((rT39 ac ax).f2)) else (none)) else (none)) else (r_Lengths.j3 k3 oD s9 iu cK ax true ae ac ((rT39 ac ax).f0) ((rT39 ac ax).f1) ((rT39 ac ax).f2))) = some (r1, r2, r3) := by rw [<- auP] at H; exact H
                have anf := Z_ auP; clear auP; by_cases c29 : (aVj = true)
                .subst c29
                 rw [if_pos rfl] at H; by_cases c30 : ((rT39 ac ax).f0) < (oD.length : Int)
                 .rw [if_pos c30] at H
                  replace c30 := eT_ c30; by_cases c31 : ((rT39 ac ax).f1) < (oD.length : Int)
                  .rw [if_pos c31] at H
                   replace c31 := eT_ c31; have H' := Z_ H; clear H; try go_wp2
                   have n0_ : Aside0 (Kd.R (Kd.int .i64) 3 (((w19.setCell ⟨dD, 0, none⟩ (.int .i64 ((rT39 ac ax).f0))).setCell ⟨dD, 1, none⟩ (.int .i64 ((rT39 ac ax).f1))).setCell ⟨dD, 2, none⟩ (.int .i64 ((rT39 ac ax).f2))) w.heap.size (fun _ => True) u4 oD) := ⟨by (with_reducible repeat (first | apply rN_ | apply rD_)); exact rM_ (rF_ (p := ⟨dD, 2, none⟩) (rF_ (p := ⟨dD, 1, none⟩) (rF_ (p := ⟨dD, 0, none⟩) (Kd.R_types lC.out i9.out (by decide)) (fun _ hk => hk.2) (.int .i64 ((rT39 ac ax).f0))) (fun _ hk => hk.2) (.int .i64 ((rT39 ac ax).f1))) (fun _ hk => hk.2) (.int .i64 ((rT39 ac ax).f2))) (fun _ hk => trivial)⟩; have n1_ : Aside0 (Kd.R Kd.bool 4 (((w19.setCell ⟨dD, 0, none⟩ (.int .i64 ((rT39 ac ax).f0))).setCell ⟨dD, 1, none⟩ (.int .i64 ((rT39 ac ax).f1))).setCell ⟨dD, 2, none⟩ (.int .i64 ((rT39 ac ax).f2))) w.heap.size (fun _ => True) u5 s9) := ⟨by (with_reducible repeat (first | apply rN_ | apply rD_)); exact rM_ (rF_ (p := ⟨dD, 2, none⟩) (rF_ (p := ⟨dD, 1, none⟩) (rF_ (p := ⟨dD, 0, none⟩) (Kd.R_types gW.out i9.out (by decide)) (fun _ hk => hk.2) (.int .i64 ((rT39 ac ax).f0))) (fun _ hk => hk.2) (.int .i64 ((rT39 ac ax).f1))) (fun _ hk => hk.2) (.int .i64 ((rT39 ac ax).f2))) (fun _ hk => trivial)⟩; have n2_ : Aside0 ((((w19.setCell ⟨dD, 0, none⟩ (.int .i64 ((rT39 ac ax).f0))).setCell ⟨dD, 1, none⟩ (.int .i64 ((rT39 ac ax).f1))).setCell ⟨dD, 2, none⟩ (.int .i64 ((rT39 ac ax).f2))).heap[CY]? = some (.cells #[.int .i64 ae, .slice (some Wt) ac.length af] 24 (0, 0))) := ⟨bQ_ ip.out⟩; have n3_ : Aside0 ((((w19.setCell ⟨dD, 0, none⟩ (.int .i64 ((rT39 ac ax).f0))).setCell ⟨dD, 1, none⟩ (.int .i64 ((rT39 ac ax).f1))).setCell ⟨dD, 2, none⟩ (.int .i64 ((rT39 ac ax).f2))).heap[dD]? = some (.cells #[.int .i64 ((rT39 ac ax).f0), .int .i64 ((rT39 ac ax).f1), .int .i64 ((rT39 ac ax).f2)] 39 (0, 0))) := ⟨by refine bM_ ?_; refine blk_put (cs := #[.int .i64 ((rT39 ac ax).f0), .int .i64 ((rT39 ac ax).f1), .int .i64 0]) ?_ 2 _ rfl; refine bM_ ?_; refine blk_put (cs := #[.int .i64 ((rT39 ac ax).f0), .int .i64 0, .int .i64 0]) ?_ 1 _ rfl; refine bM_ ?_; refine blk_put (cs := #[.int .i64 0, .int .i64 0, .int .i64 0]) ?_ 0 _ rfl; exact bR_ i9.out⟩; have n4_ : Aside0 (Below w.heap.size w (((w19.setCell ⟨dD, 0, none⟩ (.int .i64 ((rT39 ac ax).f0))).setCell ⟨dD, 1, none⟩ (.int .i64 ((rT39 ac ax).f1))).setCell ⟨dD, 2, none⟩ (.int .i64 ((rT39 ac ax).f2)))) := ⟨hB_⟩; (try clear lC)
                   (try clear gW)
                   (try clear ip)
                   (try clear i9)
                   (try clear HB)
                   generalize (((w19.setCell ⟨dD, 0, none⟩ (.int .i64 ((rT39 ac ax).f0))).setCell ⟨dD, 1, none⟩ (.int .i64 ((rT39 ac ax).f1))).setCell ⟨dD, 2, none⟩ (.int .i64 ((rT39 ac ax).f2))) = w32 at n0_ n1_ n2_ n3_ n4_ ⊢; have lC := n0_; have gW := n1_; have ip := n2_; have i9 := n3_; have HB := n4_; clear n0_ n1_ n2_ n3_ n4_; replace lC := Z_ (rD_ lC.out); replace gW := Z_ (rD_ gW.out); replace ip := Z_ (bD_ ip.out); replace i9 := Z_ (bD_ i9.out); replace HB := Z_ (fD_ HB.out); obtain ⟨Re, Pj, L5⟩ := rS_ gW.out; (first | subst L5 | (injection L5 with f1_ f2_ f3_; have f4_ := f1_.symm; have f5_ := f3_.symm; clear f1_ f2_ f3_; subst f4_; subst f5_))
                   have UB : 0 <= (((rT39 ac ax).f0) : Int) := dT_ as_; have Ui : ((rT39 ac ax).f0) < (s9.length : Int) := dT_ as_; obtain ⟨OE, avv, vE⟩ := Kd.at_bool (rR_ gW.out).2.2 ((rT39 ac ax).f0) UB Ui; (try rw [<- agw.out] at vE)
                   (try rw [<- anf.out] at vE)
                   cases avv
                   replace UB := eq_true UB; replace Ui := eq_true Ui; have aib : 0 <= (((rT39 ac ax).f1) : Int) := dT_ as_; have ahN : ((rT39 ac ax).f1) < (s9.length : Int) := dT_ as_; obtain ⟨awz, aJc, Dr⟩ := Kd.at_bool (rR_ gW.out).2.2 ((rT39 ac ax).f1) aib ahN; (try rw [<- agw.out] at Dr)
                   (try rw [<- anf.out] at Dr)
                   obtain rfl : OE = awz := (by injection aJc); replace aib := eq_true aib; replace ahN := eq_true ahN; obtain ⟨ya, xk, IM⟩ := rS_ lC.out; (first | subst IM | (injection IM with f1_ f2_ f3_; have f4_ := f1_.symm; have f5_ := f3_.symm; clear f1_ f2_ f3_; subst f4_; subst f5_))
                   have aGW : 0 <= (((rT39 ac ax).f0) : Int) := dT_ as_; have aFR : ((rT39 ac ax).f0) < (oD.length : Int) := dT_ as_; obtain ⟨awy, a8d, ak4⟩ := Kd.at_int (rR_ lC.out).2.2 ((rT39 ac ax).f0) aGW aFR; cases a8d
                   replace aGW := eq_true aGW; replace aFR := eq_true aFR; have aGV : 0 <= (((rT39 ac ax).f1) : Int) := dT_ as_; have aFQ : ((rT39 ac ax).f1) < (oD.length : Int) := dT_ as_; obtain ⟨aVV, a8c, ak3⟩ := Kd.at_int (rR_ lC.out).2.2 ((rT39 ac ax).f1) aGV aFQ; obtain rfl : awy = aVV := (by injection a8c); replace aGV := eq_true aGV; replace aFQ := eq_true aFQ; refine start_ (n := 29) (S := fun w' => w'.cell? ⟨dD, 0, none⟩ = some (.int .i64 ((rT39 ac ax).f0)) /\ w'.cell? ⟨dD, 1, none⟩ = some (.int .i64 ((rT39 ac ax).f1)) /\ w'.cell? ⟨dD, 2, none⟩ = some (.int .i64 ((rT39 ac ax).f2)) /\ w'.cell? (OE.add (((rT39 ac ax).f0)).toNat) = some (.bool true) /\ w'.cell? (OE.add (((rT39 ac ax).f1)).toNat) = some (.bool true) /\ w'.cell? (awy.add (((rT39 ac ax).f0)).toNat) = some (.int .i64 (rd oD ((rT39 ac ax).f0))) /\ w'.cell? (awy.add (((rT39 ac ax).f1)).toNat) = some (.int .i64 (rd oD ((rT39 ac ax).f1)))) (ds := []) _ (by kernel_rfl) rfl rfl ⟨(bC_ i9.out 0).trans rfl, (bC_ i9.out 1).trans rfl, (bC_ i9.out 2).trans rfl, vE, Dr, ak4, ak3⟩ (fun hHeld => ?_); refine with_tabW r_Lengths.tab14 r_Lengths.bits14 (fun HT_ HW_ => ?_); generalize w32.drew = w33 at lC gW ip i9 HB vE Dr ak4 ak3 hHeld ⊢; refine pP_ 0 46 ?_; refine pP_ 1 47 ?_; refine pT_ 2 48 ?_; refine pP_ 3 49 ?_; refine pT_ 4 50 ?_; refine pP_ 5 51 ?_; refine pP_ 6 52 ?_; refine pP_ 7 53 ?_; refine pT_ 8 54 ?_; refine pP_ 9 55 ?_; refine pT_ 10 56 ?_; refine pP_ 11 57 ?_; refine pP_ 12 58 ?_; refine pP_ 13 59 ?_; refine pP_ 14 60 ?_; refine pP_ 18 64 ?_; refine pP_ 21 67 ?_; refine pP_ 22 68 ?_; refine pT_ 15 61 ?_; refine pP_ 16 62 ?_; refine pT_ 17 63 ?_; refine pT_ 19 65 ?_; refine pP_ 20 66 ?_; refine pT_ 23 69 ?_; refine pP_ 24 70 ?_; refine pT_ 25 71 ?_; refine pP_ 26 72 ?_; refine pP_ 27 73 ?_; refine pP_ 28 74 ?_; refine dN_ ?_; try go_wp2
                   go_meet
                   case rel => exact ⟨_, (decide ((wrap64 ((rd oD ((rT39 ac ax).f0)) + ((rT39 ac ax).f2))) < (rd oD ((rT39 ac ax).f1)))), rf_, H', ⟨by have := HK1.out; have := HK2.out; have := HK3.out; first | omega | exact nR_ _⟩, ⟨rK_ lC.out⟩, ⟨rK_ gW.out⟩, ⟨bR_ ip.out⟩, ⟨bR_ i9.out⟩, ⟨hB_⟩⟩
                  exact nN_ c31 H
                 exact nN_ c30 H
                replace c29 := bE_.mpr c29; subst c29; have H1 : (r_Lengths.j3 k3 oD s9 iu cK ax true ae ac ((rT39 ac ax).f0) ((rT39 ac ax).f1) ((rT39 ac ax).f2)) = some (r1, r2, r3) := by rw [if_neg (show ¬ (false = true) by decide)] at H; exact H
                clear H; have H := H1; clear H1; have H' := Z_ H; clear H; try go_wp2
                have n0_ : Aside0 (Kd.R (Kd.int .i64) 3 (((w19.setCell ⟨dD, 0, none⟩ (.int .i64 ((rT39 ac ax).f0))).setCell ⟨dD, 1, none⟩ (.int .i64 ((rT39 ac ax).f1))).setCell ⟨dD, 2, none⟩ (.int .i64 ((rT39 ac ax).f2))) w.heap.size (fun _ => True) u4 oD) := ⟨by (with_reducible repeat (first | apply rN_ | apply rD_)); exact rM_ (rF_ (p := ⟨dD, 2, none⟩) (rF_ (p := ⟨dD, 1, none⟩) (rF_ (p := ⟨dD, 0, none⟩) (Kd.R_types lC.out i9.out (by decide)) (fun _ hk => hk.2) (.int .i64 ((rT39 ac ax).f0))) (fun _ hk => hk.2) (.int .i64 ((rT39 ac ax).f1))) (fun _ hk => hk.2) (.int .i64 ((rT39 ac ax).f2))) (fun _ hk => trivial)⟩; have n1_ : Aside0 (Kd.R Kd.bool 4 (((w19.setCell ⟨dD, 0, none⟩ (.int .i64 ((rT39 ac ax).f0))).setCell ⟨dD, 1, none⟩ (.int .i64 ((rT39 ac ax).f1))).setCell ⟨dD, 2, none⟩ (.int .i64 ((rT39 ac ax).f2))) w.heap.size (fun _ => True) u5 s9) := ⟨by (with_reducible repeat (first | apply rN_ | apply rD_)); exact rM_ (rF_ (p := ⟨dD, 2, none⟩) (rF_ (p := ⟨dD, 1, none⟩) (rF_ (p := ⟨dD, 0, none⟩) (Kd.R_types gW.out i9.out (by decide)) (fun _ hk => hk.2) (.int .i64 ((rT39 ac ax).f0))) (fun _ hk => hk.2) (.int .i64 ((rT39 ac ax).f1))) (fun _ hk => hk.2) (.int .i64 ((rT39 ac ax).f2))) (fun _ hk => trivial)⟩; have n2_ : Aside0 ((((w19.setCell ⟨dD, 0, none⟩ (.int .i64 ((rT39 ac ax).f0))).setCell ⟨dD, 1, none⟩ (.int .i64 ((rT39 ac ax).f1))).setCell ⟨dD, 2, none⟩ (.int .i64 ((rT39 ac ax).f2))).heap[CY]? = some (.cells #[.int .i64 ae, .slice (some Wt) ac.length af] 24 (0, 0))) := ⟨bQ_ ip.out⟩; have n3_ : Aside0 ((((w19.setCell ⟨dD, 0, none⟩ (.int .i64 ((rT39 ac ax).f0))).setCell ⟨dD, 1, none⟩ (.int .i64 ((rT39 ac ax).f1))).setCell ⟨dD, 2, none⟩ (.int .i64 ((rT39 ac ax).f2))).heap[dD]? = some (.cells #[.int .i64 ((rT39 ac ax).f0), .int .i64 ((rT39 ac ax).f1), .int .i64 ((rT39 ac ax).f2)] 39 (0, 0))) := ⟨by refine bM_ ?_; refine blk_put (cs := #[.int .i64 ((rT39 ac ax).f0), .int .i64 ((rT39 ac ax).f1), .int .i64 0]) ?_ 2 _ rfl; refine bM_ ?_; refine blk_put (cs := #[.int .i64 ((rT39 ac ax).f0), .int .i64 0, .int .i64 0]) ?_ 1 _ rfl; refine bM_ ?_; refine blk_put (cs := #[.int .i64 0, .int .i64 0, .int .i64 0]) ?_ 0 _ rfl; exact bR_ i9.out⟩; have n4_ : Aside0 (Below w.heap.size w (((w19.setCell ⟨dD, 0, none⟩ (.int .i64 ((rT39 ac ax).f0))).setCell ⟨dD, 1, none⟩ (.int .i64 ((rT39 ac ax).f1))).setCell ⟨dD, 2, none⟩ (.int .i64 ((rT39 ac ax).f2)))) := ⟨hB_⟩; (try clear lC)
                (try clear gW)
                (try clear ip)
                (try clear i9)
                (try clear HB)
                generalize (((w19.setCell ⟨dD, 0, none⟩ (.int .i64 ((rT39 ac ax).f0))).setCell ⟨dD, 1, none⟩ (.int .i64 ((rT39 ac ax).f1))).setCell ⟨dD, 2, none⟩ (.int .i64 ((rT39 ac ax).f2))) = w36 at n0_ n1_ n2_ n3_ n4_ ⊢; have lC := n0_; have gW := n1_; have ip := n2_; have i9 := n3_; have HB := n4_; clear n0_ n1_ n2_ n3_ n4_; replace lC := Z_ (rD_ lC.out); replace gW := Z_ (rD_ gW.out); replace ip := Z_ (bD_ ip.out); replace i9 := Z_ (bD_ i9.out); replace HB := Z_ (fD_ HB.out); obtain ⟨ajo, aiO, aoH⟩ := rS_ gW.out; (first | subst aoH | (injection aoH with f1_ f2_ f3_; have f4_ := f1_.symm; have f5_ := f3_.symm; clear f1_ f2_ f3_; subst f4_; subst f5_))
                have UB : 0 <= (((rT39 ac ax).f0) : Int) := dT_ as_; have Ui : ((rT39 ac ax).f0) < (s9.length : Int) := dT_ as_; obtain ⟨OE, avv, vE⟩ := Kd.at_bool (rR_ gW.out).2.2 ((rT39 ac ax).f0) UB Ui; (try rw [<- agw.out] at vE)
                (try rw [<- anf.out] at vE)
                cases avv
                replace UB := eq_true UB; replace Ui := eq_true Ui; have aib : 0 <= (((rT39 ac ax).f1) : Int) := dT_ as_; have ahN : ((rT39 ac ax).f1) < (s9.length : Int) := dT_ as_; obtain ⟨awz, aJc, Dr⟩ := Kd.at_bool (rR_ gW.out).2.2 ((rT39 ac ax).f1) aib ahN; (try rw [<- agw.out] at Dr)
                (try rw [<- anf.out] at Dr)
                obtain rfl : OE = awz := (by injection aJc); replace aib := eq_true aib; replace ahN := eq_true ahN; refine start_ (n := 29) (S := fun w' => w'.cell? ⟨dD, 0, none⟩ = some (.int .i64 ((rT39 ac ax).f0)) /\ w'.cell? ⟨dD, 1, none⟩ = some (.int .i64 ((rT39 ac ax).f1)) /\ w'.cell? ⟨dD, 2, none⟩ = some (.int .i64 ((rT39 ac ax).f2)) /\ w'.cell? (OE.add (((rT39 ac ax).f0)).toNat) = some (.bool true) /\ w'.cell? (OE.add (((rT39 ac ax).f1)).toNat) = some (.bool false)) (ds := []) _ (by kernel_rfl) rfl rfl ⟨(bC_ i9.out 0).trans rfl, (bC_ i9.out 1).trans rfl, (bC_ i9.out 2).trans rfl, vE, Dr⟩ (fun hHeld => ?_); refine with_tabW r_Lengths.tab14 r_Lengths.bits14 (fun HT_ HW_ => ?_); generalize w36.drew = w37 at lC gW ip i9 HB vE Dr hHeld ⊢; refine pP_ 0 46 ?_; refine pP_ 1 47 ?_; refine pT_ 2 48 ?_; refine pP_ 3 49 ?_; refine pT_ 4 50 ?_; refine pP_ 5 51 ?_; refine pP_ 6 52 ?_; refine pP_ 7 53 ?_; refine pT_ 8 54 ?_; refine pP_ 9 55 ?_; refine pT_ 10 56 ?_; refine pP_ 11 57 ?_; refine pP_ 12 58 ?_; refine pU_ 13 59 ?_; refine pU_ 14 60 ?_; refine pU_ 15 61 ?_; refine pU_ 16 62 ?_; refine pU_ 17 63 ?_; refine pU_ 18 64 ?_; refine pU_ 19 65 ?_; refine pU_ 20 66 ?_; refine pU_ 21 67 ?_; refine pU_ 22 68 ?_; refine pU_ 23 69 ?_; refine pU_ 24 70 ?_; refine pU_ 25 71 ?_; refine pU_ 26 72 ?_; refine pP_ 27 73 ?_; refine pP_ 28 74 ?_; refine dN_ ?_; try go_wp2
                go_meet
                case rel => exact ⟨_, (true), rf_, H', ⟨by have := HK1.out; have := HK2.out; have := HK3.out; first | omega | exact nR_ _⟩, ⟨rK_ lC.out⟩, ⟨rK_ gW.out⟩, ⟨bR_ ip.out⟩, ⟨bR_ i9.out⟩, ⟨hB_⟩⟩
               exact nN_ c27 H
              exact nN_ c26 H
             replace c25 := bE_.mpr c25; subst c25; have H1 : (r_Lengths.j3 k3 oD s9 iu cK ax false ae ac ((rT39 ac ax).f0) ((rT39 ac ax).f1) ((rT39 ac ax).f2)) = some (r1, r2, r3) := by rw [if_neg (show ¬ (false = true) by decide)] at H; exact H
             clear H; have H := H1; clear H1; have H' := Z_ H; clear H; try go_wp2
             have n0_ : Aside0 (Kd.R (Kd.int .i64) 3 (((w19.setCell ⟨dD, 0, none⟩ (.int .i64 ((rT39 ac ax).f0))).setCell ⟨dD, 1, none⟩ (.int .i64 ((rT39 ac ax).f1))).setCell ⟨dD, 2, none⟩ (.int .i64 ((rT39 ac ax).f2))) w.heap.size (fun _ => True) u4 oD) := ⟨by (with_reducible repeat (first | apply rN_ | apply rD_)); exact rM_ (rF_ (p := ⟨dD, 2, none⟩) (rF_ (p := ⟨dD, 1, none⟩) (rF_ (p := ⟨dD, 0, none⟩) (Kd.R_types lC.out i9.out (by decide)) (fun _ hk => hk.2) (.int .i64 ((rT39 ac ax).f0))) (fun _ hk => hk.2) (.int .i64 ((rT39 ac ax).f1))) (fun _ hk => hk.2) (.int .i64 ((rT39 ac ax).f2))) (fun _ hk => trivial)⟩; have n1_ : Aside0 (Kd.R Kd.bool 4 (((w19.setCell ⟨dD, 0, none⟩ (.int .i64 ((rT39 ac ax).f0))).setCell ⟨dD, 1, none⟩ (.int .i64 ((rT39 ac ax).f1))).setCell ⟨dD, 2, none⟩ (.int .i64 ((rT39 ac ax).f2))) w.heap.size (fun _ => True) u5 s9) := ⟨by (with_reducible repeat (first | apply rN_ | apply rD_)); exact rM_ (rF_ (p := ⟨dD, 2, none⟩) (rF_ (p := ⟨dD, 1, none⟩) (rF_ (p := ⟨dD, 0, none⟩) (Kd.R_types gW.out i9.out (by decide)) (fun _ hk => hk.2) (.int .i64 ((rT39 ac ax).f0))) (fun _ hk => hk.2) (.int .i64 ((rT39 ac ax).f1))) (fun _ hk => hk.2) (.int .i64 ((rT39 ac ax).f2))) (fun _ hk => trivial)⟩; have n2_ : Aside0 ((((w19.setCell ⟨dD, 0, none⟩ (.int .i64 ((rT39 ac ax).f0))).setCell ⟨dD, 1, none⟩ (.int .i64 ((rT39 ac ax).f1))).setCell ⟨dD, 2, none⟩ (.int .i64 ((rT39 ac ax).f2))).heap[CY]? = some (.cells #[.int .i64 ae, .slice (some Wt) ac.length af] 24 (0, 0))) := ⟨bQ_ ip.out⟩; have n3_ : Aside0 ((((w19.setCell ⟨dD, 0, none⟩ (.int .i64 ((rT39 ac ax).f0))).setCell ⟨dD, 1, none⟩ (.int .i64 ((rT39 ac ax).f1))).setCell ⟨dD, 2, none⟩ (.int .i64 ((rT39 ac ax).f2))).heap[dD]? = some (.cells #[.int .i64 ((rT39 ac ax).f0), .int .i64 ((rT39 ac ax).f1), .int .i64 ((rT39 ac ax).f2)] 39 (0, 0))) := ⟨by refine bM_ ?_; refine blk_put (cs := #[.int .i64 ((rT39 ac ax).f0), .int .i64 ((rT39 ac ax).f1), .int .i64 0]) ?_ 2 _ rfl; refine bM_ ?_; refine blk_put (cs := #[.int .i64 ((rT39 ac ax).f0), .int .i64 0, .int .i64 0]) ?_ 1 _ rfl; refine bM_ ?_; refine blk_put (cs := #[.int .i64 0, .int .i64 0, .int .i64 0]) ?_ 0 _ rfl; exact bR_ i9.out⟩; have n4_ : Aside0 (Below w.heap.size w (((w19.setCell ⟨dD, 0, none⟩ (.int .i64 ((rT39 ac ax).f0))).setCell ⟨dD, 1, none⟩ (.int .i64 ((rT39 ac ax).f1))).setCell ⟨dD, 2, none⟩ (.int .i64 ((rT39 ac ax).f2)))) := ⟨hB_⟩; (try clear lC)
             (try clear gW)
             (try clear ip)
             (try clear i9)
             (try clear HB)
             generalize (((w19.setCell ⟨dD, 0, none⟩ (.int .i64 ((rT39 ac ax).f0))).setCell ⟨dD, 1, none⟩ (.int .i64 ((rT39 ac ax).f1))).setCell ⟨dD, 2, none⟩ (.int .i64 ((rT39 ac ax).f2))) = w39 at n0_ n1_ n2_ n3_ n4_ ⊢; have lC := n0_; have gW := n1_; have ip := n2_; have i9 := n3_; have HB := n4_; clear n0_ n1_ n2_ n3_ n4_; replace lC := Z_ (rD_ lC.out); replace gW := Z_ (rD_ gW.out); replace ip := Z_ (bD_ ip.out); replace i9 := Z_ (bD_ i9.out); replace HB := Z_ (fD_ HB.out); obtain ⟨aYi, aUE, au7⟩ := rS_ gW.out; (first | subst au7 | (injection au7 with f1_ f2_ f3_; have f4_ := f1_.symm; have f5_ := f3_.symm; clear f1_ f2_ f3_; subst f4_; subst f5_))
             have UB : 0 <= (((rT39 ac ax).f0) : Int) := dT_ as_; have Ui : ((rT39 ac ax).f0) < (s9.length : Int) := dT_ as_; obtain ⟨OE, avv, vE⟩ := Kd.at_bool (rR_ gW.out).2.2 ((rT39 ac ax).f0) UB Ui; (try rw [<- agw.out] at vE)
             cases avv
             replace UB := eq_true UB; replace Ui := eq_true Ui; refine start_ (n := 29) (S := fun w' => w'.cell? ⟨dD, 0, none⟩ = some (.int .i64 ((rT39 ac ax).f0)) /\ w'.cell? ⟨dD, 1, none⟩ = some (.int .i64 ((rT39 ac ax).f1)) /\ w'.cell? ⟨dD, 2, none⟩ = some (.int .i64 ((rT39 ac ax).f2)) /\ w'.cell? (OE.add (((rT39 ac ax).f0)).toNat) = some (.bool false)) (ds := []) _ (by kernel_rfl) rfl rfl ⟨(bC_ i9.out 0).trans rfl, (bC_ i9.out 1).trans rfl, (bC_ i9.out 2).trans rfl, vE⟩ (fun hHeld => ?_); refine with_tabW r_Lengths.tab14 r_Lengths.bits14 (fun HT_ HW_ => ?_); generalize w39.drew = w40 at lC gW ip i9 HB vE hHeld ⊢; refine pP_ 0 46 ?_; refine pP_ 1 47 ?_; refine pT_ 2 48 ?_; refine pP_ 3 49 ?_; refine pT_ 4 50 ?_; refine pP_ 5 51 ?_; refine pU_ 6 52 ?_; refine pU_ 7 53 ?_; refine pU_ 8 54 ?_; refine pU_ 9 55 ?_; refine pU_ 10 56 ?_; refine pU_ 11 57 ?_; refine pU_ 12 58 ?_; refine pU_ 13 59 ?_; refine pU_ 14 60 ?_; refine pU_ 15 61 ?_; refine pU_ 16 62 ?_; refine pU_ 17 63 ?_; refine pU_ 18 64 ?_; refine pU_ 19 65 ?_; refine pU_ 20 66 ?_; refine pU_ 21 67 ?_; refine pU_ 22 68 ?_; refine pU_ 23 69 ?_; refine pU_ 24 70 ?_; refine pU_ 25 71 ?_; refine pU_ 26 72 ?_; refine pU_ 27 73 ?_; refine pP_ 28 74 ?_; refine dN_ ?_; try go_wp2
             go_meet
             case rel => exact ⟨_, (false), rf_, H', ⟨by have := HK1.out; have := HK2.out; have := HK3.out; first | omega | exact nR_ _⟩, ⟨rK_ lC.out⟩, ⟨rK_ gW.out⟩, ⟨bR_ ip.out⟩, ⟨bR_ i9.out⟩, ⟨hB_⟩⟩
            exact nN_ c23 H
           exact nN_ c22 H
          case rest =>
           clear ajd; obtain ⟨kq, Zv, rfl, HA, ai3, lC, gW, ip, i9, HB⟩ := hcut
           cases kq with
           | zero => exact absurd HA.out (by simp [r_Lengths.j3])
           | succ aau =>
            have H := HA.out; clear HA; simp only [r_Lengths.j3] at H; by_cases c42 : Zv = true
            .subst c42
             rw [if_pos rfl] at H; by_cases c43 : 0 <= ((rT39 ac ax).f0)
             .rw [if_pos c43] at H
              replace c43 := eT_ c43; by_cases c44 : ((rT39 ac ax).f0) < (oD.length : Int)
              .rw [if_pos c44] at H
               replace c44 := eT_ c44; by_cases c45 : 0 <= ((rT39 ac ax).f1)
               .rw [if_pos c45] at H
                replace c45 := eT_ c45; by_cases c46 : ((rT39 ac ax).f1) < (oD.length : Int)
                .rw [if_pos c46] at H
                 replace c46 := eT_ c46; obtain ⟨ax5, adS⟩ : ∃ y_ : List Int, y_ = (oD.set (((rT39 ac ax).f1) : Int).toNat (wrap64 ((rd oD ((rT39 ac ax).f0)) + ((rT39 ac ax).f2)))) := ⟨_, rfl⟩; replace H : (if ((rT39 ac ax).f1) < (s9.length : Int) then (r_Lengths.l2 aau ax5 (s9.set (((rT39 ac ax).f1) : Int).toNat true) iu true (wrap64 (ax + 1)) ae ac) else (none)) = some (r1, r2, r3) := by first | (rw [adS]; with_reducible exact H) | (have H2_ := (oB_ _ _).symm.trans H; rw [adS]; with_reducible exact H2_) | (have H2_ := (oB_ _ _).symm.trans H; with_reducible exact H2_) | with_reducible exact H | (rw [adS]; exact H) | exact H
                 have aWu := Z_ adS; clear adS; by_cases c48 : ((rT39 ac ax).f1) < (s9.length : Int)
                 .rw [if_pos c48] at H
                  replace c48 := eT_ c48; obtain ⟨aEy, adR⟩ : ∃ y_ : List Bool, y_ = (s9.set (((rT39 ac ax).f1) : Int).toNat true) := ⟨_, rfl⟩; replace H : (r_Lengths.l2 aau ax5 aEy iu true (wrap64 (ax + 1)) ae ac) = some (r1, r2, r3) := by first | (rw [adR]; with_reducible exact H) | (have H2_ := (oB_ _ _).symm.trans H; rw [adR]; with_reducible exact H2_) | (have H2_ := (oB_ _ _).symm.trans H; with_reducible exact H2_) | with_reducible exact H | (rw [adR]; exact H) | exact H
                  have aWt := Z_ adR; clear adR; have H' := Z_ H; clear H; try go_wp2
                  replace lC := Z_ (rD_ lC.out); replace gW := Z_ (rD_ gW.out); replace ip := Z_ (bD_ ip.out); replace i9 := Z_ (bD_ i9.out); replace HB := Z_ (fD_ HB.out); obtain ⟨biv, a8J, aTn⟩ := rS_ lC.out; (first | subst aTn | (injection aTn with f1_ f2_ f3_; have f4_ := f1_.symm; have f5_ := f3_.symm; clear f1_ f2_ f3_; subst f4_; subst f5_))
                  have aGU : 0 <= (((rT39 ac ax).f0) : Int) := dT_ as_; have aFP : ((rT39 ac ax).f0) < (oD.length : Int) := dT_ as_; obtain ⟨bb7, a8b, aaF⟩ := Kd.at_int (rR_ lC.out).2.2 ((rT39 ac ax).f0) aGU aFP; cases a8b
                  replace aGU := eq_true aGU; replace aFP := eq_true aFP; have p47 : 0 <= (((rT39 ac ax).f1) : Int) := dT_ as_; have q47 : (((rT39 ac ax).f1) : Int) < ((oD.length : Int) : Int) := dT_ as_; obtain ⟨abv, F9, aiy, aTd, a6Y, bhY, aXv⟩ := Kd.R_form lC.out (by omega); (first | cases aiy | (injection aiy with ea_ en_ ec_; (first | subst ea_ | (injection ea_ with ea_; subst ea_)); subst ec_; clear en_))
                  have bio := Z_ aTd; have aXZ := Z_ aXv; clear aTd a6Y aXv; (first | simp only [add_plain] at aaF | skip)
                  obtain ⟨aHD, aIu⟩ := Kd.R_celln 0 lC.out (((rT39 ac ax).f1) : Int) p47 q47; replace p47 := eq_true p47; replace q47 := eq_true q47; have aKf := Kd.R_putn lC.out (((rT39 ac ax).f1) : Int) (wrap64 ((rd oD ((rT39 ac ax).f0)) + ((rT39 ac ax).f2))); rw [<- aWu.out] at aKf; have aW1 := Z_ aKf; clear aKf; refine start_ (n := 13) (S := fun w' => w'.cell? ⟨dD, 0, none⟩ = some (.int .i64 ((rT39 ac ax).f0)) /\ w'.cell? ⟨dD, 1, none⟩ = some (.int .i64 ((rT39 ac ax).f1)) /\ w'.cell? ⟨dD, 2, none⟩ = some (.int .i64 ((rT39 ac ax).f2)) /\ w'.cell? ⟨abv, (((rT39 ac ax).f0)).toNat, none⟩ = some (.int .i64 (rd oD ((rT39 ac ax).f0)))) (ds := [12]) _ (by kernel_rfl) rfl rfl ⟨(bC_ i9.out 0).trans rfl, (bC_ i9.out 1).trans rfl, (bC_ i9.out 2).trans rfl, aaF⟩ (fun hHeld => ?_); refine with_tabW r_Lengths.tab15 r_Lengths.bits15 (fun HT_ HW_ => ?_); generalize wc.drew = w50 at lC gW ip i9 HB aXZ aW1 aIu aaF aHD hHeld ⊢; refine pP_ 0 75 ?_; refine pP_ 1 76 ?_; refine pP_ 3 78 ?_; refine pP_ 4 79 ?_; refine pP_ 8 83 ?_; refine pT_ 2 77 ?_; refine pT_ 5 80 ?_; refine pP_ 6 81 ?_; refine pT_ 7 82 ?_; refine pT_ 9 84 ?_; refine pP_ 10 85 ?_; refine pP_ 11 86 ?_; refine lN_ 12 none (fun K hK => ?_); refine skip_ (w1 := ?_) (by rfl) rfl ?_ ?_; rotate_left
                  .go_simp
                   rfl
                  refine hK.out _ _ ?_; clear hK K; refine dN_ ?_; have n0_ : Aside0 (Kd.R (Kd.int .i64) 3 (w50.setCell ⟨abv, (((rT39 ac ax).f1) : Int).toNat, none⟩ (.int .i64 (wrap64 ((rd oD ((rT39 ac ax).f0)) + ((rT39 ac ax).f2))))) w.heap.size (fun _ => True) (.slice (some ⟨abv, 0, none⟩) oD.length a8J) ax5) := ⟨rK_ aW1.out⟩; have n1_ : Aside0 (Kd.R Kd.bool 4 (w50.setCell ⟨abv, (((rT39 ac ax).f1) : Int).toNat, none⟩ (.int .i64 (wrap64 ((rd oD ((rT39 ac ax).f0)) + ((rT39 ac ax).f2))))) w.heap.size (fun _ => True) u5 s9) := ⟨by (with_reducible repeat (first | apply rN_ | apply rD_)); exact rM_ (rF_ (p := ⟨abv, (((rT39 ac ax).f1) : Int).toNat, none⟩) (Kd.R_types gW.out aXZ.out (by decide)) (fun _ hk => hk.2) (.int .i64 (wrap64 ((rd oD ((rT39 ac ax).f0)) + ((rT39 ac ax).f2))))) (fun _ hk => trivial)⟩; have n2_ : Aside0 ((w50.setCell ⟨abv, (((rT39 ac ax).f1) : Int).toNat, none⟩ (.int .i64 (wrap64 ((rd oD ((rT39 ac ax).f0)) + ((rT39 ac ax).f2))))).heap[CY]? = some (.cells #[.int .i64 ae, .slice (some Wt) ac.length af] 24 (0, 0))) := ⟨by refine bM_ ?_; refine blk_far ?_ (by have h_ := Kd.R_ne lC.out ip.out (by decide); intro e_; exact h_ (by rw [e_]; rfl)) _; exact bR_ ip.out⟩; have n3_ : Aside0 ((w50.setCell ⟨abv, (((rT39 ac ax).f1) : Int).toNat, none⟩ (.int .i64 (wrap64 ((rd oD ((rT39 ac ax).f0)) + ((rT39 ac ax).f2))))).heap[dD]? = some (.cells #[.int .i64 ((rT39 ac ax).f0), .int .i64 ((rT39 ac ax).f1), .int .i64 ((rT39 ac ax).f2)] 39 (0, 0))) := ⟨by refine bM_ ?_; refine blk_far ?_ (by have h_ := Kd.R_ne lC.out i9.out (by decide); intro e_; exact h_ (by rw [e_]; rfl)) _; exact bR_ i9.out⟩; have n4_ : Aside0 (Below w.heap.size w (w50.setCell ⟨abv, (((rT39 ac ax).f1) : Int).toNat, none⟩ (.int .i64 (wrap64 ((rd oD ((rT39 ac ax).f0)) + ((rT39 ac ax).f2)))))) := ⟨hB_⟩; (try clear lC)
                  (try clear gW)
                  (try clear ip)
                  (try clear i9)
                  (try clear HB)
                  generalize (w50.setCell ⟨abv, (((rT39 ac ax).f1) : Int).toNat, none⟩ (.int .i64 (wrap64 ((rd oD ((rT39 ac ax).f0)) + ((rT39 ac ax).f2))))) = w53 at n0_ n1_ n2_ n3_ n4_ ⊢; have lC := n0_; have gW := n1_; have ip := n2_; have i9 := n3_; have HB := n4_; clear n0_ n1_ n2_ n3_ n4_; have ar7 := YI.out; have arK := YJ.out; obtain ⟨⟨BQ, BP, a2c⟩, BF, BE, a1t⟩ := f3_ i9.out; have p49 : 0 <= (((rT39 ac ax).f1) : Int) := dT_ as_; have q49 : (((rT39 ac ax).f1) : Int) < ((s9.length : Int) : Int) := dT_ as_; obtain ⟨aAO, L9, Xt, aTb, a6W, bhW, aXt⟩ := Kd.R_form gW.out (by omega); (first | cases Xt | (injection Xt with ea_ en_ ec_; (first | subst ea_ | (injection ea_ with ea_; subst ea_)); subst ec_; clear en_))
                  have a9Z := Z_ aTb; have bih := Z_ aXt; clear aTb a6W aXt; obtain ⟨a3w, a6J⟩ := Kd.R_celln false gW.out (((rT39 ac ax).f1) : Int) p49 q49; replace p49 := eq_true p49; replace q49 := eq_true q49; obtain ⟨baN, baJ⟩ := Kd.R_celln false gW.out (((rT39 ac ax).f1) : Int) (dT_ as_) (dT_ as_); have aKd := Kd.R_putg gW.out (((rT39 ac ax).f1) : Int) true; try go_wp2_with (first | ((with_reducible refine gate_store (t := 4) (p := 90) rfl ?_); refine store_event (t := 4) (p := 90) (v := ?vo_w57) (w1 := (w53.setCell ⟨aAO, (((rT39 ac ax).f1) : Int).toNat, none⟩ (.bool true))) ?hg ?ho ?hn ?hr ?_; (case ho => rfl); (case hg => rfl); (case hn => rfl); (case hr => first | (go_simp; done) | (go_simp; rfl)); intro w57 hw; have hg : w53.grownBy w57 (some aAO) := (by rw [hw]; exact aKd.2); have hp_ : Kd.R Kd.bool 4 w57 w.heap.size (fun _ => True) (.slice (some ⟨aAO, 0, none⟩) s9.length L9) aEy := (by rw [hw, aWt.out]; exact aKd.1); clear aKd; replace lC := Z_ (Kd.R_over' (v := (.slice (some ⟨aAO, 0, none⟩) s9.length L9)) (rK_ lC.out) (Kd.R_typed gW.out) (by decide) hg); replace ip := Z_ (blk_grown (g := CY) (o := .cells #[.int .i64 ae, .slice (some Wt) ac.length af] 24 (0, 0)) (bR_ ip.out) hg (Kd.R_ne gW.out ip.out (by decide))); replace i9 := Z_ (blk_grown (g := dD) (o := .cells #[.int .i64 ((rT39 ac ax).f0), .int .i64 ((rT39 ac ax).f1), .int .i64 ((rT39 ac ax).f2)] 39 (0, 0)) (bR_ i9.out) hg (Kd.R_ne gW.out i9.out (by decide))); replace gW := Z_ (hp_); replace HB := Z_ ((by rw [hw]; exact fE_ (HB.out) a9Z.out : Below w.heap.size w w57)); clear hg hw hp_))
                  go_roundg aau
                  case measure => have := HK1.out; have := HK2.out; have := HK3.out; have := ai3.out; omega
                  case rel => exact ⟨(ax5), (aEy), (true), (wrap64 (ax + 1)), rf_, rf_, H', ⟨by have := HK1.out; have := HK2.out; have := HK3.out; have := ai3.out; omega⟩, ⟨rK_ lC.out⟩, ⟨rK_ gW.out⟩, ⟨bR_ ip.out⟩, ⟨hB_⟩⟩
                 exact nN_ c48 H
                exact nN_ c46 H
               exact nN_ c45 H
              exact nN_ c44 H
             exact nN_ c43 H
            replace c42 := bE_.mpr c42; subst c42; have H1 : (r_Lengths.l2 aau oD s9 iu cK (wrap64 (ax + 1)) ae ac) = some (r1, r2, r3) := by rw [if_neg (show ¬ (false = true) by decide)] at H; exact H
            clear H; have H := H1; clear H1; have H' := Z_ H; clear H; go_wp2; go_roundg aau
            case measure => have := HK1.out; have := HK2.out; have := HK3.out; have := ai3.out; omega
            case rel => exact ⟨(oD), (s9), (cK), (wrap64 (ax + 1)), rf_, rf_, H', ⟨by have := HK1.out; have := HK2.out; have := HK3.out; have := ai3.out; omega⟩, ⟨rK_ lC.out⟩, ⟨rK_ gW.out⟩, ⟨bR_ ip.out⟩, ⟨hB_⟩⟩
         exact nN_ c16 H
        rw [if_neg c15] at H; replace c15 := eF_ c15; by_cases c58 : cK = true
        .subst c58
         rw [if_pos rfl] at H; have H' := Z_ H; clear H; obtain ⟨⟨zx, zw⟩, zo, zn⟩ := f2_ ip.out; go_wp2; go_roundg k3
         case measure => have := HK1.out; have := HK2.out; have := HK3.out; omega
         case rel => exact ⟨(oD), (s9), (wrap64 (iu + 1)), rf_, H', ⟨by have := HK1.out; have := HK2.out; have := HK3.out; omega⟩, ⟨rK_ lC.out⟩, ⟨rK_ gW.out⟩, ⟨bR_ ip.out⟩, ⟨hB_⟩⟩
        replace c58 := bE_.mpr c58; subst c58; have H1 : (some (oD, s9, true)) = some (r1, r2, r3) := by rw [if_neg (show ¬ (false = true) by decide)] at H; exact H
        clear H; have H := H1; clear H1; simp only [oJ_, pI_] at H; obtain ⟨rfl, rfl, rfl⟩ := H; obtain ⟨⟨DB, DA⟩, Dw, Dv⟩ := f2_ ip.out; go_wp2; go_ret3; exact ⟨_, _, eW_, rK_ lC.out, rK_ gW.out, hB_⟩
     rw [if_neg c13] at H; replace c13 := eF_ c13; simp only [oJ_, pI_] at H; obtain ⟨rfl, rfl, rfl⟩ := H; obtain ⟨⟨Dz, Dy⟩, Du, Dt⟩ := f2_ ip.out; go_wp2; go_ret3; exact ⟨_, _, eW_, rK_ lC.out, rK_ gW.out, hB_⟩
def r_marks.l0 : Nat -> Bool -> Int -> List Bool -> Int -> Int -> List (S39) -> Option (List Bool)
 | 0, _, _, _, _, _, _ => none
 | k + 1, x1, x2, x7, x8, ZV, ajS => if x8 < ZV then (if x1 = true then (if x7.length < 140737488355328 then (r_marks.l0 k x1 x2 (x7 ++ [true]) (wrap64 (x8 + 1)) ZV ajS) else (none)) else (if x7.length < 140737488355328 then (r_marks.l0 k x1 x2 (x7 ++ [(x8 == x2)]) (wrap64 (x8 + 1)) ZV ajS) else (none))) else (some x7)
def r_marks.f (k : Nat) (ae : Int) (ac : List (S39)) (a1 : Bool) (a2 : Int) : Option (List Bool) := r_marks.l0 k a1 a2 ([] : List Bool) 0 ae ac
theorem r_marks.mono_l : ∀ k, (∀ y0 y1 y2 y3 y4 y5, LeO (r_marks.l0 k y0 y1 y2 y3 y4 y5) (r_marks.l0 (k + 1) y0 y1 y2 y3 y4 y5))
 | 0 => fun _ _ _ _ _ _ r h => by simp [r_marks.l0] at h
 | k + 1 => by
  have ih0 := r_marks.mono_l k; intro y0 y1 y2 y3 y4 y5; unfold r_marks.l0; repeat' first | (with_reducible first | exact ih0 _ _ _ _ _ _ | exact LeO.refl _ | exact LeO.none _ | refine LeO.ite ?_ ?_ | refine LeO.bind ?_ (fun _ => ?_))
theorem r_marks.mono : ∀ a0 a1 a2 a3 k, LeO (r_marks.f k a0 a1 a2 a3) (r_marks.f (k + 1) a0 a1 a2 a3) := by
 intro a0 a1 a2 a3 k; have ih0 := r_marks.mono_l k; unfold r_marks.f; repeat' first | (with_reducible first | exact ih0 _ _ _ _ _ _ | exact LeO.refl _ | exact LeO.none _ | refine LeO.ite ?_ ?_ | refine LeO.bind ?_ (fun _ => ?_))
theorem r_marks.calls (k : Nat) (ae : Int) (ag : Option Addr) (af : Nat) (ac : List (S39)) (a1 : Bool) (a2 : Int) (r : List Bool) (w : World) (aA : Kd.C k39 w ag ac.length ac) (aC : ac.length <= af) (h : r_marks.f k ae ac a1 a2 = some r) :
  Calls Try.prog 72 #[.agg #[.int .i64 ae, .slice ag ac.length af], .bool a1, .int .i64 a2] w fun e w' => ∃ v0_ : Value, e = .returned (v0_) /\ Kd.R Kd.bool 4 w' w.heap.size (fun _ => True) v0_ r /\ Below w.heap.size w w' := by
 have ja := Try.underlying24; have ah := Z_ aA; have ai := Z_ aC; clear aA aC; have HB := Z_ (Below.refl w.heap.size w); have H : (r_marks.l0 k a1 a2 ([] : List Bool) 0 ae ac) = some r := h; clear h; have H' := Z_ H; clear H; go_enter Try.func72, Try.ntmps72; go_wp2_with (first | ((with_reducible refine gate_dst (N := 3) rfl ?_); refine bX_ 3 #[.int .i64 ae, .slice ag ac.length af] 24 ?_; intro afB hg w4 hbox hb; have GX := Z_ (hbox); have bdc := Z_ ((by rw [hg]; exact (fZ_ hB_) : w.heap.size <= afB)); have ben := Z_ ((by rw [hg]; exact (fZ_ hB_) : w.heap.size <= afB)); replace HB := Z_ (fS_ hB_ hb); clear hb hbox hg)); go_loopg [7, 8] k (fun kq v7 v8 w' => ∃ (eB : List Bool) (iC : Int), v8 = .int .i64 iC /\ Aside0 (r_marks.l0 kq a1 a2 eB iC ae ac = some r) /\ Aside0 (kq <= k) /\ Aside0 (Kd.R Kd.bool 4 w' w.heap.size (fun _ => True) v7 eB) /\ Aside0 (w'.heap[afB]? = some (.cells #[.int .i64 ae, (.slice ag ac.length af)] 24 (0, 0))) /\ Aside0 (Below w.heap.size w w'))
 case atStart => exact ⟨(([] : List Bool)), (0), rf_, H', ⟨nR_ _⟩, ⟨by first | exact Kd.R_nil _ _ _ _ _ | exact Kd.N_nil _ _ _ _ _ | exact Kd.V_nil _ _ _ _ _ | exact Kd.Q_nil _ _ _ _ _ | exact Kd.S_nil _ _ _ _ _⟩, ⟨bR_ GX.out⟩, ⟨hB_⟩⟩
 case round =>
  clear H'; obtain ⟨eB, iC, rfl, HA, HK1, au, GX, HB⟩ := hrel
  cases gk with
  | zero => exact absurd HA.out (by simp [r_marks.l0])
  | succ k1 =>
   have H := HA.out; clear HA; simp only [r_marks.l0] at H; by_cases c5 : iC < ae
   .rw [if_pos c5] at H
    replace c5 := eT_ c5; by_cases c6 : a1 = true
    .subst c6
     rw [if_pos rfl] at H; by_cases c7 : eB.length < 140737488355328
     .rw [if_pos c7] at H
      have aJ1 := Z_ c7; clear c7; obtain ⟨aLe, adQ⟩ : ∃ y_ : List Bool, y_ = (eB ++ [true]) := ⟨_, rfl⟩; replace H : (r_marks.l0 k1 true a2 aLe (wrap64 (iC + 1)) ae ac) = some r := by first | (rw [adQ]; with_reducible exact H) | (have H2_ := (oB_ _ _).symm.trans H; rw [adQ]; with_reducible exact H2_) | (have H2_ := (oB_ _ _).symm.trans H; with_reducible exact H2_) | with_reducible exact H | (rw [adQ]; exact H) | exact H
      have aWs := Z_ adQ; clear adQ; have H' := Z_ H; clear H; obtain ⟨⟨AR, AQ⟩, AP, AO⟩ := f2_ GX.out; go_wp2_with (first | ((with_reducible refine gate_builtin (b := .append) (xs := #[.tmp 15, .tmp 22]) rfl ?_); at_builtin; refine Kd.R_append Kd.bool (w0 := w) w.heap.size rfl (.tmp 15) (.tmp 22) 41 4 (.bool false) 1 rfl Try.underlying41 info4 rfl (by decide) (by omega) u7 eB true [.bool true] (fun _ => True) (fun _ => False) rfl rfl ?aP (fun _ hk => hk.elim) ?aF ?aO ?aB ?aS ?aL ?_; (case aP => exact rfl); (case aB => exact hB_); (case aF => exact (fun _ _ => trivial)); (case aO => exact (rK_ au.out)); (case aS => exact (fZ_ hB_)); (case aL => have := aJ1.out; omega); intro bgy w9 ho hb hg hat; rw [<- aWs.out] at ho; replace GX := Z_ (blk_grown (g := afB) (o := .cells #[.int .i64 ae, .slice ag ac.length af] 24 (0, 0)) (bR_ GX.out) hg (Kd.R_ne au.out GX.out (by decide))); replace HB := Z_ (hb); have aXd := Z_ (ho); clear au; clear ho hb hg hat)); go_roundg k1
      case measure => have := HK1.out; omega
      case rel => exact ⟨(aLe), (wrap64 (iC + 1)), rf_, H', ⟨by have := HK1.out; omega⟩, ⟨rK_ aXd.out⟩, ⟨bR_ GX.out⟩, ⟨hB_⟩⟩
     exact nN_ c7 H
    replace c6 := bE_.mpr c6; subst c6; have H1 : (if eB.length < 140737488355328 then (r_marks.l0 k1 false a2 (eB ++ [(iC == a2)]) (wrap64 (iC + 1)) ae ac) else (none)) = some r := by rw [if_neg (show ¬ (false = true) by decide)] at H; exact H
    clear H; have H := H1; clear H1; by_cases c10 : eB.length < 140737488355328
    .rw [if_pos c10] at H
     have aWX := Z_ c10; clear c10; obtain ⟨aLd, adP⟩ : ∃ y_ : List Bool, y_ = (eB ++ [(iC == a2)]) := ⟨_, rfl⟩; replace H : (r_marks.l0 k1 false a2 aLd (wrap64 (iC + 1)) ae ac) = some r := by first | (rw [adP]; with_reducible exact H) | (have H2_ := (oB_ _ _).symm.trans H; rw [adP]; with_reducible exact H2_) | (have H2_ := (oB_ _ _).symm.trans H; with_reducible exact H2_) | with_reducible exact H | (rw [adP]; exact H) | exact H
     have aWr := Z_ adP; clear adP; have H' := Z_ H; clear H; obtain ⟨⟨ls, lr⟩, ln, ll⟩ := f2_ GX.out; go_wp2_with (first | ((with_reducible refine gate_builtin (b := .append) (xs := #[.tmp 15, .tmp 22]) rfl ?_); at_builtin; refine Kd.R_append Kd.bool (w0 := w) w.heap.size rfl (.tmp 15) (.tmp 22) 41 4 (.bool false) 1 rfl Try.underlying41 info4 rfl (by decide) (by omega) u7 eB (iC == a2) [.bool (iC == a2)] (fun _ => True) (fun _ => False) rfl rfl ?aP (fun _ hk => hk.elim) ?aF ?aO ?aB ?aS ?aL ?_; (case aP => exact rfl); (case aB => exact hB_); (case aF => exact (fun _ _ => trivial)); (case aO => exact (rK_ au.out)); (case aS => exact (fZ_ hB_)); (case aL => have := aWX.out; omega); intro bgx w12 ho hb hg hat; rw [<- aWr.out] at ho; replace GX := Z_ (blk_grown (g := afB) (o := .cells #[.int .i64 ae, .slice ag ac.length af] 24 (0, 0)) (bR_ GX.out) hg (Kd.R_ne au.out GX.out (by decide))); replace HB := Z_ (hb); have aXc := Z_ (ho); clear au; clear ho hb hg hat)); go_roundg k1
     case measure => have := HK1.out; omega
     case rel => exact ⟨(aLd), (wrap64 (iC + 1)), rf_, H', ⟨by have := HK1.out; omega⟩, ⟨rK_ aXc.out⟩, ⟨bR_ GX.out⟩, ⟨hB_⟩⟩
    exact nN_ c10 H
   rw [if_neg c5] at H; replace c5 := eF_ c5; obtain rfl := oI_ H; obtain ⟨⟨vK, vJ⟩, vI, vH⟩ := f2_ GX.out; go_wp2; go_ret; exact ⟨_, eW_, rK_ au.out, hB_⟩
def r_Solvable.f (k : Nat) (ae : Int) (ac : List (S39)) : Option (Bool) := (r_marks.f k ae ac true 0).bind fun ahu => ((r_Lengths.f k ae ac ahu).bind fun awh => (some awh.2.2))
theorem r_Solvable.mono : ∀ a0 a1 k, LeO (r_Solvable.f k a0 a1) (r_Solvable.f (k + 1) a0 a1) := by
 intro a0 a1 k; unfold r_Solvable.f; repeat' first | (with_reducible first | exact r_Lengths.mono _ _ _ _ | exact r_marks.mono _ _ _ _ _ | exact LeO.refl _ | exact LeO.none _ | refine LeO.ite ?_ ?_ | refine LeO.bind ?_ (fun _ => ?_))
def r_Solvable.T1 : Bool × List (List Nat × List Nat) := (true, [([], []), ([], []), ([1], [1]), ([0, 2, 2], [0, 2]), ([3], [3]), ([4], [4]), ([4], [4]), ([4], [4]), ([5, 3, 0, 1, 2, 3, 4, 5], [5]), ([6, 8, 0, 1, 2, 3, 4, 5, 6, 8], [6]), ([7, 9, 0, 1, 2, 3, 4, 5, 6, 7, 8, 9], [7])])
def r_Solvable.B1 : List Nat := [0, 0, 2, 7, 15, 31, 31, 31, 63, 383, 1023]
theorem r_Solvable.tab1 : rtab .any (opsOf Try.f41 1) = r_Solvable.T1 := by kernel_rfl
theorem r_Solvable.bits1 : waitsOk r_Solvable.T1.2 r_Solvable.B1 = true := by kernel_rfl
theorem r_Solvable.calls (k : Nat) (ae : Int) (ag : Option Addr) (af : Nat) (ac : List (S39)) (r : Bool) (w : World) (aA : Kd.C k39 w ag ac.length ac) (aC : ac.length <= af) (h : r_Solvable.f k ae ac = some r) :
  Calls Try.prog 41 #[.agg #[.int .i64 ae, .slice ag ac.length af]] w fun e w' => e = .returned (.bool r) /\ Below w.heap.size w w' := by
 have ja := Try.underlying24; have ah := Z_ aA; have ai := Z_ aC; clear aA aC; have HB := Z_ (Below.refl w.heap.size w); have H : ((r_marks.f k ae ac true 0).bind fun ahu => ((r_Lengths.f k ae ac ahu).bind fun awh => (some awh.2.2))) = some r := h; clear h; obtain ⟨ahu, A2, H⟩ := oZ_ H; replace H := oS_.mp H; obtain ⟨⟨a3c, a3b, a3a⟩, A30, H⟩ := H; have A3 := Z_ A30; clear A30; obtain rfl := oI_ H; go_enter Try.func41, Try.ntmps41; try go_wp2_with (first | ((with_reducible refine gate_dst (N := 1) rfl ?_); refine bX_ 1 #[.int .i64 ae, .slice ag ac.length af] 24 ?_; intro amG hg w4 hbox hb; have GW := Z_ (hbox); have bdb := Z_ ((by rw [hg]; exact (fZ_ hB_) : w.heap.size <= amG)); have bem := Z_ ((by rw [hg]; exact (fZ_ hB_) : w.heap.size <= amG)); replace HB := Z_ (fS_ hB_ hb); clear hb hbox hg))
 replace GW := Z_ (bD_ GW.out); replace HB := Z_ (fD_ HB.out); refine start_ (n := 11) (S := fun w' => w'.cell? ⟨amG, 0, none⟩ = some (.int .i64 ae) /\ w'.cell? ⟨amG, 1, none⟩ = some (.slice ag ac.length af)) (ds := []) _ (by kernel_rfl) rfl rfl ⟨(bC_ GW.out 0).trans rfl, (bC_ GW.out 1).trans rfl⟩ (fun hHeld => ?_); refine with_tabW r_Solvable.tab1 r_Solvable.bits1 (fun HT_ HW_ => ?_); generalize w4.drew = w5 at GW HB hHeld ⊢; refine pT_ 0 7 ?_; refine pT_ 1 8 ?_; refine oN_ 2 (some 9) (fun K hK => ?_); refine gO_ Try.func72 #[.agg #[.int .i64 ae, .slice ag ac.length af], .bool true, .int .i64 0] ?_; with_reducible refine (r_marks.calls k ae _ _ ac true 0 ahu _ ?side1 ?side2 A2.out).mono ?_
 (case side1 => exact cS_ (cB_ ah.out HB.out))
 (case side2 => exact ai.out)
 rintro e w6 ⟨bgw, rfl, ho0, hb⟩; refine ⟨_, rfl, ?_⟩; have Y0 := Z_ (rL_ ho0 (fZ_ hB_)); replace GW := Z_ (bS_ GW.out hb); replace HB := Z_ (fS_ hB_ hb); (try clear hb)
 (try clear ho0)
 obtain ⟨Ao7, co7, eo7⟩ := rS_ Y0.out; (first | subst eo7 | (injection eo7 with f1_ f2_ f3_; have f4_ := f1_.symm; have f5_ := f3_.symm; clear f1_ f2_ f3_; subst f4_; subst f5_))
 refine hK.out _ _ ⟨(bC_ GW.out 0).trans rfl, (bC_ GW.out 1).trans rfl⟩ (fun hHeld => ?_); clear hK K; refine nP_ 9 ?_; refine oN_ 3 (some 10) (fun K hK => ?_); refine gO_ Try.func71 #[.agg #[.int .i64 ae, .slice ag ac.length af], .slice Ao7 ahu.length co7] ?_; with_reducible refine (r_Lengths.calls k ae _ _ ac _ _ ahu a3c a3b a3a _ ?side1 ?side2 ?side3 ?side4 A3.out).mono ?_
 (case side1 => exact cS_ (cB_ ah.out HB.out))
 (case side2 => exact ai.out)
 (case side3 => exact cS_ (rR_ Y0.out).2.2)
 (case side4 => exact (rR_ Y0.out).2.1)
 rintro e w8 ⟨bgv, bgu, rfl, ho0, ho1, hb⟩; refine ⟨_, rfl, ?_⟩; have bck := Z_ (rL_ ho0 (fZ_ hB_)); have bcj := Z_ (rL_ (Kd.R_new' ho1 (Kd.R_lt (rK_ Y0.out))) (fZ_ hB_)); replace Y0 := Z_ (Kd.R_elder' (rK_ Y0.out) (Kd.R_base ho1) hb); replace GW := Z_ (bS_ GW.out hb); replace HB := Z_ (fS_ hB_ hb); (try clear hb)
 (try clear ho0)
 (try clear ho1)
 refine hK.out _ _ ⟨(bC_ GW.out 0).trans rfl, (bC_ GW.out 1).trans rfl⟩ (fun hHeld => ?_); clear hK K; refine nP_ 10 ?_; refine pP_ 4 6 ?_; refine pP_ 5 11 ?_; refine pP_ 6 12 ?_; refine pP_ 7 13 ?_; refine pP_ 8 3 ?_; refine pP_ 9 4 ?_; refine pP_ 10 5 ?_; refine dN_ ?_; try go_wp2
 go_ret; exact ⟨eW_, hB_⟩
end Go.Proofs.Ytpolojoeabmhdaa.A
/- The reference: Lengths, marks, Solvable. -/
namespace Go.Proofs.Ytpolojoeabmhdaa.A
open Go.RowKit Go.Proofs.YtpolojoeabmhdaaW.PrintWords Go.Proofs.YtpolojoeabmhdaaW.PrintLast Go.Proofs.YtpolojoeabmhdaaW.PrintMore
section
variable {n : Nat} {L : List S39} {src : Int -> Prop}
theorem len_l2 (hE : EdgesOk n L) {b : Int} (hb : 0 <= b) (hbm : b + L.length <= 4294967296) (x8 : Int) : ∀ (q : Nat) (k c : Int) (s : Sg) (T : Int -> Int) (f : Nat), (q : Int) + k = L.length -> 0 <= k -> Bf n L src b k s T ->
  r_Lengths.l2 (f + 2 * q) s.lo s.ha x8 (decide (0 <= c)) k n L = r_Lengths.l2 f (pass (L.drop k.toNat) k c s).2.lo (pass (L.drop k.toNat) k c s).2.ha x8 (decide (0 <= (pass (L.drop k.toNat) k c s).1)) L.length n L
 | 0, k, c, s, T, f, hq, h0, h => by
  have hk : k = L.length := by omega
  rw [List.drop_eq_nil_of_le (by omega), hk]
  rfl
 | q + 1, k, c, s, T, f, hq, h0, h => by
  have hk : k < (L.length : Int) := by omega
  have hd := hE k h0 hk
  have l1 := h.l1
  have l2 := h.l2
  rw [rT39_drop L k h0 hk, show f + 2 * (q + 1) = (f + 2 * q) + 1 + 1 from by omega]
  have hw := h.w _ hd.a hd.b
  have he := hd.e
  have hf := hd.f
  have hwr : wrap64 (rd s.lo (rT39 L k).f0 + (rT39 L k).f2) = rd s.lo (rT39 L k).f0 + (rT39 L k).f2 := wrap_id (by omega) (by omega)
  have hk1 : wrap64 (k + 1) = k + 1 := wrap_id (by omega) (by omega)
  unfold pass
  rw [r_Lengths.l2]
  rw [if_pos hk, if_pos h0, if_pos hd.a, if_pos (show (rT39 L k).f0 < (s.ha.length : Int) from by rw [l2]; exact hd.b)]
  have hc1 : decide (0 <= (rT39 L k).f1) = true := decide_eq_true hd.c
  have hnext : ∀ y, r_Lengths.j3 (f + 2 * q + 1) s.lo s.ha x8 (decide (0 <= c)) k y n L (rT39 L k).f0 (rT39 L k).f1 (rT39 L k).f2 = if y = true then r_Lengths.l2 (f + 2 * q) (s.put (rT39 L k) k).lo (s.put (rT39 L k) k).ha x8 (decide (0 <= (rT39 L k).f1)) (k + 1) n L else r_Lengths.l2 (f + 2 * q) s.lo s.ha x8 (decide (0 <= c)) (k + 1) n L := by
   intro y
   rw [r_Lengths.j3, hc1]
   rw [if_pos hd.a, if_pos (show (rT39 L k).f0 < (s.lo.length : Int) from by rw [l1]; exact hd.b), if_pos hd.c, if_pos (show (rT39 L k).f1 < (s.lo.length : Int) from by rw [l1]; exact hd.g), if_pos (show (rT39 L k).f1 < (s.ha.length : Int) from by rw [l2]; exact hd.g), hk1, hwr]
   rfl
  by_cases hu : rdOf false s.ha (rT39 L k).f0 = true
  .rw [if_pos hu, if_pos hd.c, if_pos (show (rT39 L k).f1 < (s.ha.length : Int) from by rw [l2]; exact hd.g)]
   by_cases hv : rdOf false s.ha (rT39 L k).f1 = true
   .rw [if_pos hv, if_pos (show (rT39 L k).f0 < (s.lo.length : Int) from by rw [l1]; exact hd.b), if_pos (show (rT39 L k).f1 < (s.lo.length : Int) from by rw [l1]; exact hd.g), hnext, hwr]
    by_cases hy : rd s.lo (rT39 L k).f0 + (rT39 L k).f2 < rd s.lo (rT39 L k).f1
    .have hbt : s.better (rT39 L k) = true := by rw [better_iff]; exact ⟨hu, Or.inr hy⟩
     rw [if_pos (decide_eq_true hy), if_pos hbt]
     exact len_l2 hE hb hbm x8 q (k + 1) _ _ _ f (by omega) (by omega) (h.step hE h0 hk hb hbt)
    .have hbt : ¬ s.better (rT39 L k) = true := by
      rw [better_iff]; rintro ⟨_, h2 | h2⟩
      .exact h2 hv
      .exact hy h2
     rw [if_neg (by simpa using hy), if_neg hbt]
     exact len_l2 hE hb hbm x8 q (k + 1) c s T f (by omega) (by omega) (h.skip hE h0 hk hb hbt)
   .have hbt : s.better (rT39 L k) = true := by rw [better_iff]; exact ⟨hu, Or.inl hv⟩
    rw [if_neg hv, hnext, if_pos rfl, if_pos hbt]
    exact len_l2 hE hb hbm x8 q (k + 1) _ _ _ f (by omega) (by omega) (h.step hE h0 hk hb hbt)
  .have hbt : ¬ s.better (rT39 L k) = true := by
    rw [better_iff]; rintro ⟨h2, _⟩
    exact hu h2
   rw [if_neg hu, hnext, if_neg (by simp), if_neg hbt]
   exact len_l2 hE hb hbm x8 q (k + 1) c s T f (by omega) (by omega) (h.skip hE h0 hk hb hbt)
theorem len_l1 (hE : EdgesOk n L) (hn : n <= 65536) (hm : (n : Int) * L.length <= 1048576) (hl : L.length <= 65536) : ∀ (r q : Nat) (s : Sg) (T : Int -> Int), q + r = n + 1 -> Bf n L src ((q : Int) * L.length) 0 s T ->
  Ev (fun k => r_Lengths.l1 k s.lo s.ha q n L) ((lenP L r s).1.lo, (lenP L r s).1.ha, (lenP L r s).2)
 | 0, q, s, T, hq, h => by
  refine Ev.step (f := fun _ => some (s.lo, s.ha, false)) (fun k => ?_) (Ev.now _)
  rw [r_Lengths.l1, if_neg (by omega)]
 | r + 1, q, s, T, hq, h => by
  have hpos : (0 : Int) <= (q : Int) * L.length := Int.mul_nonneg (by omega) (by omega)
  have hb1 : ((q : Int) + 1) * L.length = (q : Int) * L.length + L.length := by rw [Int.add_mul, Int.one_mul]
  have hb2 : (q : Int) * L.length <= (n : Int) * L.length := Int.mul_le_mul_of_nonneg_right (by omega) (by omega)
  obtain ⟨T', h', hc⟩ := pass_bf hE hpos L.length 0 (-1) s T (by omega) (by omega) h (Or.inl rfl)
  have e2 := fun f => len_l2 hE hpos (by omega) (q : Int) L.length 0 (-1) s T f (by omega) (by omega) h
  simp only [show (0 : Int).toNat = 0 from rfl, List.drop_zero] at h' hc e2
  refine Ev.shift (2 * L.length + 2) (h := fun f => if (decide (0 <= (pass L 0 (-1) s).1)) = true then r_Lengths.l1 f (pass L 0 (-1) s).2.lo (pass L 0 (-1) s).2.ha ((q : Int) + 1) n L else some ((pass L 0 (-1) s).2.lo, (pass L 0 (-1) s).2.ha, true)) (fun f => ?_) ?_
  .rw [show f + (2 * L.length + 2) = ((f + 1) + 2 * L.length) + 1 from by omega, r_Lengths.l1, if_pos (by omega)]
   have := e2 (f + 1)
   rw [show decide ((0 : Int) <= -1) = false from rfl] at this
   rw [this, r_Lengths.l2, if_neg (by omega), wrap_id (by omega) (by omega)]
  .unfold lenP
   rcases hc with ⟨c1, c2, c3, c4⟩ | hc
   .rw [if_pos (by omega)]
    refine Ev.neg (by simp; omega) (Ev.now _)
   .rw [if_neg (by have := hc.1; omega)]
    refine Ev.pos (by simp; exact hc.1) ?_
    have h'' := h'.next
    rw [<- hb1] at h''
    exact len_l1 hE hn hm hl r (q + 1) _ T' (by omega) (by push_cast; exact h'')
theorem len_l0 (n : Nat) (hn : n <= 65536) (L : List S39) (ha : List Bool) (hh : ha.length = n) : ∀ (q i f : Nat), q + i = n ->
  r_Lengths.l0 (f + q + 1) ha (List.replicate i 0) (ha.take i) i n L = r_Lengths.l1 f (List.replicate n 0) ha 0 n L
 | 0, i, f, hq => by
  have e : i = n := by omega
  rw [r_Lengths.l0, if_neg (by omega), e, List.take_of_length_le (by omega)]
 | q + 1, i, f, hq => by
  rw [show f + (q + 1) + 1 = (f + q + 1) + 1 from by omega, r_Lengths.l0, if_pos (by omega), if_pos (by simp; omega), if_pos (by omega), if_pos (by omega), if_pos (by simp; omega), wrap_id (by omega) (by omega)]
  have := len_l0 n hn L ha hh q (i + 1) f (by omega)
  rw [List.replicate_succ', List.take_succ_eq_append_getElem (by omega)] at this
  rw [show rdOf false ha (i : Int) = ha[i] from by unfold rdOf; rw [List.getD_eq_getElem?_getD, Int.toNat_natCast, List.getElem?_eq_getElem (by omega)]; rfl]
  exact this
theorem len_ev (hE : EdgesOk n L) (hn : n <= 65536) (hm : (n : Int) * L.length <= 1048576) (hl : L.length <= 65536) {from_ : List Int} (hf : ∀ i ∈ from_, 0 <= i /\ i < (n : Int)) :
  Ev (fun k => r_Lengths.f k n L (sg0 n from_).ha) ((lenP L (n + 1) (sg0 n from_)).1.lo, (lenP L (n + 1) (sg0 n from_)).1.ha, (lenP L (n + 1) (sg0 n from_)).2) := by
 have hh : (sg0 n from_).ha.length = n := (foldl_has n from_ (List.replicate n false) (by simp) hf).1
 refine Ev.shift (n + 1) (h := fun f => r_Lengths.l1 f (sg0 n from_).lo (sg0 n from_).ha 0 n L) (fun f => ?_) ?_
 .unfold r_Lengths.f
  have := len_l0 n hn L (sg0 n from_).ha hh n 0 f (by omega)
  rw [List.take_zero, List.replicate_zero, show ((0 : Nat) : Int) = 0 from rfl] at this
  exact this
 .have := len_l1 hE hn hm hl (n + 1) 0 (sg0 n from_) (fun _ => 0) (by omega) (by simpa using sg0_bf hf)
  rw [show ((0 : Nat) : Int) = 0 from rfl] at this
  exact this
end
theorem marks_l0 (n : Nat) (hn : n <= 65536) (L : List S39) (b : Bool) (o : Int) : ∀ (q i f : Nat), q + i = n ->
  r_marks.l0 (f + q + 1) b o ((List.range i).map fun (j : Nat) => b || ((j : Int) == o)) i n L = some ((List.range n).map fun (j : Nat) => b || ((j : Int) == o))
 | 0, i, f, hq => by
  rw [r_marks.l0, if_neg (by omega), show i = n from by omega]
 | q + 1, i, f, hq => by
  rw [show f + (q + 1) + 1 = (f + q + 1) + 1 from by omega, r_marks.l0, if_pos (by omega)]
  have := marks_l0 n hn L b o q (i + 1) f (by omega)
  rw [List.range_succ, List.map_append] at this
  cases b with
  | true => rw [if_pos rfl, if_pos (by simp; omega), wrap_id (by omega) (by omega)]; exact this
  | false => rw [if_neg (by simp), if_pos (by simp; omega), wrap_id (by omega) (by omega)]; exact this
theorem marks_ev (n : Nat) (hn : n <= 65536) (L : List S39) (b : Bool) (o : Int) : Ev (fun k => r_marks.f k n L b o) ((List.range n).map fun (j : Nat) => b || ((j : Int) == o)) :=
 Ev.shift (n + 1) (h := fun _ => some _) (fun f => by
  unfold r_marks.f
  have := marks_l0 n hn L b o n 0 f (by omega)
  rw [show ((0 : Nat) : Int) = 0 from rfl] at this
  exact this) (Ev.now _)
theorem rdOf_range (n : Nat) (g : Nat -> Bool) (v : Int) (h0 : 0 <= v) (h1 : v < n) : rdOf false ((List.range n).map g) v = g v.toNat := by
 unfold rdOf
 rw [List.getD_eq_getElem?_getD, List.getElem?_map, List.getElem?_range (by omega)]; rfl
theorem sg0_ha (n : Nat) {from_ : List Int} (hf : ∀ i ∈ from_, 0 <= i /\ i < (n : Int)) (g : Nat -> Bool) (hg : ∀ v : Int, 0 <= v -> v < (n : Int) -> (g v.toNat = true <-> v ∈ from_)) : (List.range n).map g = (sg0 n from_).ha := by
 obtain ⟨a, b⟩ := foldl_has n from_ (List.replicate n false) (by simp) hf
 refine ext_rdOf false (by rw [List.length_map, List.length_range]; exact a.symm) (fun v h0 h1 => ?_)
 have hv : v < (n : Int) := by simpa using h1
 rw [rdOf_range n g v h0 hv, Bool.eq_iff_iff, hg v h0 hv]
 show _ <-> rdOf false (List.foldl _ _ _) v = true
 rw [b v h0 hv, rdOf_replicate n _ _ v h0 hv]
 simp
theorem marks_all (n : Nat) (hn : n <= 65536) (L : List S39) : Ev (fun k => r_marks.f k n L true 0) (sg0 n (allL n)).ha := by
 have := marks_ev n hn L true 0
 rw [sg0_ha n (from_ := allL n) (fun i hi => mem_allL.1 hi) _ (fun v h0 h1 => by simp [mem_allL]; exact ⟨h0, h1⟩)] at this
 exact this
theorem marks_one (n : Nat) (hn : n <= 65536) (L : List S39) {i : Int} (h0 : 0 <= i) (h1 : i < n) : Ev (fun k => r_marks.f k n L false i) (sg0 n [i]).ha := by
 have := marks_ev n hn L false i
 rw [sg0_ha n (from_ := [i]) (fun v hv => by simp at hv; subst hv; exact ⟨h0, h1⟩) _ (fun v a b => by simp; omega)] at this
 exact this
section
variable {n : Nat} {L : List S39}
theorem solvable_ev (hn0 : 0 < n) (hn : n <= 65536) (hE : EdgesOk n L) (hm : (n : Int) * L.length <= 1048576) (hl : L.length <= 65536) : ∃ b : Bool, (b = true <-> Solv L) /\ Ev (fun k => r_Solvable.f k n L) b := by
 refine ⟨(lenP L (n + 1) (sg0 n (allL n))).2, ⟨fun h => ?_, fun hs => ?_⟩, ?_⟩
 .obtain ⟨b, T, hb, hB, hf⟩ := lenP_fix hE (n + 1) 0 (sg0 n (allL n)) (lenP L (n + 1) (sg0 n (allL n))).1 (fun _ => 0) (by omega) (sg0_bf (fun i hi => mem_allL.1 hi)) (by rw [<- h])
  refine ⟨rd (lenP L (n + 1) (sg0 n (allL n))).1.lo, fun i h0 h1 => ?_⟩
  have hd := hE i h0 h1
  have hha : hasN (lenP L (n + 1) (sg0 n (allL n))).1 (rT39 L i).f0 := by
   have := (hB.t0 _ hd.a hd.b).1
   by_cases e : T (rT39 L i).f0 = 0
   .exact (hB.z _ hd.a hd.b e).2.2.2 (mem_allL.2 ⟨hd.a, hd.b⟩)
   .exact (hB.p _ hd.a hd.b (by omega)).2.2.1
  have := (hf.edge h0 h1 hha).2
  omega
 .obtain ⟨s, bad, h1, h2⟩ := grow_all hn0 hE (from_ := allL n) (fun i hi => mem_allL.1 hi)
  obtain ⟨x, hx⟩ := hs
  obtain ⟨e, _⟩ := h2.good hE hx
  subst e
  rw [lenP_growP n (n + 1) _ _ (by omega) h1]
 .unfold r_Solvable.f
  refine (marks_all n hn L).bind ?_
  exact (len_ev hE hn hm hl (fun i hi => mem_allL.1 hi)).bind (Ev.now _)
theorem len_one (hn0 : 0 < n) (hn : n <= 65536) (hE : EdgesOk n L) (hm : (n : Int) * L.length <= 1048576) (hl : L.length <= 65536) {i : Int} (h0 : 0 <= i) (h1 : i < n) {s : Sg} (hg : growP L n n (sg0 n [i]) = some (s, -1)) :
  Ev (fun k => r_Lengths.f k n L (sg0 n [i]).ha) (s.lo, s.ha, true) := by
 have := len_ev hE hn hm hl (from_ := [i]) (fun v hv => by simp at hv; subst hv; exact ⟨h0, h1⟩)
 rw [lenP_growP n (n + 1) _ _ (by omega) hg] at this
 exact this
end
end Go.Proofs.Ytpolojoeabmhdaa.A
namespace Go.Proofs.Ytpolojoeabmhdaa.A
open Go.RowKit Go.Proofs.YtpolojoeabmhdaaW.PrintWords Go.Proofs.YtpolojoeabmhdaaW.PrintLast Go.Proofs.YtpolojoeabmhdaaW.PrintMore
attribute [local go_sem] max2_int min2_int max_two min_two max_three min_three max_four min_four
mutual
def r_Weights.l0 : Nat -> List Int -> Int -> Option (Bool)
 | 0, _, _ => none
 | k + 1, x1, x5 => if x5 < (x1.length : Int) then (if 0 <= x5 then (if (rd x1 x5) < (-4096) then (r_Weights.j1 k x1 x5 true) else (r_Weights.j1 k x1 x5 (decide ((rd x1 x5) > 4096)))) else (none)) else (some true)
def r_Weights.j1 : Nat -> List Int -> Int -> Bool -> Option (Bool)
 | 0, _, _, _ => none
 | k + 1, x1, x5, x28 => if x28 = true then (some false) else (r_Weights.l0 k x1 (wrap64 (x5 + 1)))
end
def r_Weights.f (k : Nat) (ae : Int) (ac : List (S39)) (l1 : List Int) : Option (Bool) := if (l1.length : Int) = ae then (r_Weights.l0 k l1 0) else (some false)
theorem r_Weights.mono_l : ∀ k, (∀ y0 y1, LeO (r_Weights.l0 k y0 y1) (r_Weights.l0 (k + 1) y0 y1)) /\ (∀ y0 y1 y2, LeO (r_Weights.j1 k y0 y1 y2) (r_Weights.j1 (k + 1) y0 y1 y2))
 | 0 => ⟨fun _ _ r h => by simp [r_Weights.l0] at h, fun _ _ _ r h => by simp [r_Weights.j1] at h⟩
 | k + 1 => by
  obtain ⟨ih0, ih1⟩ := r_Weights.mono_l k; refine ⟨?_, ?_⟩ <;> intros <;> (first | unfold r_Weights.l0 | unfold r_Weights.j1) <;> repeat' first | (with_reducible first | exact ih0 _ _ | exact ih1 _ _ _ | exact LeO.refl _ | exact LeO.none _ | refine LeO.ite ?_ ?_ | refine LeO.bind ?_ (fun _ => ?_))
theorem r_Weights.mono : ∀ a0 a1 a2 k, LeO (r_Weights.f k a0 a1 a2) (r_Weights.f (k + 1) a0 a1 a2) := by
 intro a0 a1 a2 k; obtain ⟨ih0, ih1⟩ := r_Weights.mono_l k; unfold r_Weights.f; repeat' first | (with_reducible first | exact ih0 _ _ | exact ih1 _ _ _ | exact LeO.refl _ | exact LeO.none _ | refine LeO.ite ?_ ?_ | refine LeO.bind ?_ (fun _ => ?_))
set_option maxHeartbeats 8000000
set_option maxRecDepth 100000
theorem r_Weights.calls (k : Nat) (ae : Int) (ag : Option Addr) (af : Nat) (ac : List (S39)) (A1 : Option Addr) (c1 : Nat) (l1 : List Int) (r : Bool) (w : World) (aA : Kd.C k39 w ag ac.length ac) (aC : ac.length <= af) (hr1 : Kd.C (Kd.int .i64) w A1 l1.length l1) (hc1 : l1.length <= c1) (h : r_Weights.f k ae ac l1 = some r) :
  Calls Try.prog 101 #[.agg #[.int .i64 ae, .slice ag ac.length af], .slice A1 l1.length c1] w fun e w' => e = .returned (.bool r) /\ Below w.heap.size w w' := by
 have ja := Try.underlying24; have ah := Z_ aA; have ai := Z_ aC; clear aA aC; have HR1 := Z_ hr1; have HC1 := Z_ hc1; clear hr1 hc1; have HB := Z_ (Below.refl w.heap.size w); have H : (if (l1.length : Int) = ae then (r_Weights.l0 k l1 0) else (some false)) = some r := h; clear h; by_cases c3 : (l1.length : Int) = ae
 .rw [if_pos c3] at H
  have Wc : ((l1.length : Int) == ae) = true := beq_iff_eq.mpr c3; have Wb : ((l1.length : Int) != ae) = false := bne_eq_false_iff_eq.mpr c3; clear c3; have H' := Z_ H; clear H; go_enter Try.func101, Try.ntmps101; go_wp2_with (first | ((with_reducible refine gate_dst (N := 2) rfl ?_); refine bX_ 2 #[.int .i64 ae, .slice ag ac.length af] 24 ?_; intro VR hg w4 hbox hb; have OT := Z_ (hbox); have aXQ := Z_ ((by rw [hg]; exact (fZ_ hB_) : w.heap.size <= VR)); have aX1 := Z_ ((by rw [hg]; exact (fZ_ hB_) : w.heap.size <= VR)); replace HB := Z_ (fS_ hB_ hb); clear hb hbox hg; obtain ⟨⟨qe, qd⟩, qc, qb⟩ := f2_ OT.out)); go_loopg [5] k (fun kq v5 w' => ∃ (dp : Int), v5 = .int .i64 dp /\ Aside0 (r_Weights.l0 kq l1 dp = some r) /\ Aside0 (kq <= k) /\ Aside0 (w'.heap[VR]? = some (.cells #[.int .i64 ae, (.slice ag ac.length af)] 24 (0, 0))) /\ Aside0 (Below w.heap.size w w'))
  case atStart => exact ⟨(0), rf_, H', ⟨nR_ _⟩, ⟨bR_ OT.out⟩, ⟨hB_⟩⟩
  case round =>
   clear H'; obtain ⟨dp, rfl, HA, HK1, OT, HB⟩ := hrel
   cases gk with
   | zero => exact absurd HA.out (by simp [r_Weights.l0])
   | succ k1 =>
    have H := HA.out; clear HA; simp only [r_Weights.l0] at H; by_cases c6 : dp < (l1.length : Int)
    .rw [if_pos c6] at H
     replace c6 := eT_ c6; have HC7 := Z_ H; clear H; go_upto_region 6 with (fail); go_cut [28] (fun v28 wc => ∃ (kq : Nat) (Mz : Bool), v28 = .bool Mz /\ Aside0 (r_Weights.j1 kq l1 dp Mz = some r) /\ Aside0 (kq <= k1) /\ Aside0 (wc.heap[VR]? = some (.cells #[.int .i64 ae, (.slice ag ac.length af)] 24 (0, 0))) /\ Aside0 (Below w.heap.size w wc))
     case first =>
      have H := HC7.out; clear HC7; by_cases c8 : 0 <= dp
      .rw [if_pos c8] at H
       replace c8 := eT_ c8; (try rw [c8])
       by_cases c9 : (rd l1 dp) < (-4096)
       .rw [if_pos c9] at H
        replace c9 := eT_ c9; have H' := Z_ H; clear H; have ah1 : 0 <= (dp : Int) := dT_ as_; have ahD : dp < (l1.length : Int) := dT_ as_; obtain ⟨aC3, aIU, Na⟩ := Kd.at_int HR1.out dp ah1 ahD; cases aIU
        replace Na := pw_cell_below HB.out Na; replace ah1 := eq_true ah1; replace ahD := eq_true ahD; go_wp2; go_meet
        case rel => exact ⟨_, (true), rf_, H', ⟨by have := HK1.out; first | omega | exact nR_ _⟩, ⟨bR_ OT.out⟩, ⟨hB_⟩⟩
       rw [if_neg c9] at H; replace c9 := eF_ c9; have H' := Z_ H; clear H; have ah1 : 0 <= (dp : Int) := dT_ as_; have ahD : dp < (l1.length : Int) := dT_ as_; obtain ⟨aC3, aIU, Na⟩ := Kd.at_int HR1.out dp ah1 ahD; cases aIU
       replace Na := pw_cell_below HB.out Na; replace ah1 := eq_true ah1; replace ahD := eq_true ahD; have aGB : 0 <= (dp : Int) := dT_ as_; have aFw : dp < (l1.length : Int) := dT_ as_; obtain ⟨aVs, a7p, akV⟩ := Kd.at_int HR1.out dp aGB aFw; obtain rfl : aC3 = aVs := (by injection a7p); replace akV := pw_cell_below HB.out akV; replace aGB := eq_true aGB; replace aFw := eq_true aFw; go_wp2; go_meet
       case rel => exact ⟨_, (decide ((rd l1 dp) > 4096)), rf_, H', ⟨by have := HK1.out; first | omega | exact nR_ _⟩, ⟨bR_ OT.out⟩, ⟨hB_⟩⟩
      exact nN_ c8 H
     case rest =>
      clear HC7; obtain ⟨kq, Mz, rfl, HA, HJ6, OT, HB⟩ := hcut
      cases kq with
      | zero => exact absurd HA.out (by simp [r_Weights.j1])
      | succ kj6 =>
       have H := HA.out; clear HA; simp only [r_Weights.j1] at H; by_cases c10 : Mz = true
       .subst c10
        rw [if_pos rfl] at H; obtain rfl := oI_ H; go_wp2; go_ret; exact ⟨eW_, hB_⟩
       replace c10 := bE_.mpr c10; subst c10; have H1 : (r_Weights.l0 kj6 l1 (wrap64 (dp + 1))) = some r := by rw [if_neg (show ¬ (false = true) by decide)] at H; exact H
       clear H; have H := H1; clear H1; have H' := Z_ H; clear H; go_wp2; go_roundg kj6
       case measure => have := HK1.out; have := HJ6.out; omega
       case rel => exact ⟨(wrap64 (dp + 1)), rf_, H', ⟨by have := HK1.out; have := HJ6.out; omega⟩, ⟨bR_ OT.out⟩, ⟨hB_⟩⟩
    rw [if_neg c6] at H; replace c6 := eF_ c6; obtain rfl := oI_ H; go_wp2; go_ret; exact ⟨eW_, hB_⟩
 rw [if_neg c3] at H; have Wc : ((l1.length : Int) == ae) = false := beq_eq_false_iff_ne.mpr c3; have Wb : ((l1.length : Int) != ae) = true := bne_iff_ne.mpr c3; obtain rfl := oI_ H; go_enter Try.func101, Try.ntmps101; go_wp2_with (first | ((with_reducible refine gate_dst (N := 2) rfl ?_); refine bX_ 2 #[.int .i64 ae, .slice ag ac.length af] 24 ?_; intro VR hg w11 hbox hb; have OT := Z_ (hbox); have aXQ := Z_ ((by rw [hg]; exact (fZ_ hB_) : w.heap.size <= VR)); have aX1 := Z_ ((by rw [hg]; exact (fZ_ hB_) : w.heap.size <= VR)); replace HB := Z_ (fS_ hB_ hb); clear hb hbox hg; obtain ⟨⟨lS, lR⟩, lO, lN⟩ := f2_ OT.out)); go_ret; exact ⟨eW_, hB_⟩
def r_Cost.l0 : Nat -> List Int -> Int -> Int -> Int -> List (S39) -> Option (Int)
 | 0, _, _, _, _, _ => none
 | k + 1, x1, x5, x6, ax8, Zc => if x6 < (x1.length : Int) then (if 0 <= x6 then (if x6 < (Zc.length : Int) then (r_Cost.l0 k x1 (wrap64 (x5 + (wrap64 ((rd x1 x6) * ((rT39 Zc x6).f2))))) (wrap64 (x6 + 1)) ax8 Zc) else (none)) else (none)) else (some x5)
def r_Cost.f (k : Nat) (ae : Int) (ac : List (S39)) (l1 : List Int) : Option (Int) := r_Cost.l0 k l1 0 0 ae ac
theorem r_Cost.mono_l : ∀ k, (∀ y0 y1 y2 y3 y4, LeO (r_Cost.l0 k y0 y1 y2 y3 y4) (r_Cost.l0 (k + 1) y0 y1 y2 y3 y4))
 | 0 => fun _ _ _ _ _ r h => by simp [r_Cost.l0] at h
 | k + 1 => by
  have ih0 := r_Cost.mono_l k; intro y0 y1 y2 y3 y4; unfold r_Cost.l0; repeat' first | (with_reducible first | exact ih0 _ _ _ _ _ | exact LeO.refl _ | exact LeO.none _ | refine LeO.ite ?_ ?_ | refine LeO.bind ?_ (fun _ => ?_))
theorem r_Cost.mono : ∀ a0 a1 a2 k, LeO (r_Cost.f k a0 a1 a2) (r_Cost.f (k + 1) a0 a1 a2) := by
 intro a0 a1 a2 k; have ih0 := r_Cost.mono_l k; unfold r_Cost.f; repeat' first | (with_reducible first | exact ih0 _ _ _ _ _ | exact LeO.refl _ | exact LeO.none _ | refine LeO.ite ?_ ?_ | refine LeO.bind ?_ (fun _ => ?_))
theorem r_Cost.calls (k : Nat) (ae : Int) (ag : Option Addr) (af : Nat) (ac : List (S39)) (A1 : Option Addr) (c1 : Nat) (l1 : List Int) (r : Int) (w : World) (aA : Kd.C k39 w ag ac.length ac) (aC : ac.length <= af) (hr1 : Kd.C (Kd.int .i64) w A1 l1.length l1) (hc1 : l1.length <= c1) (h : r_Cost.f k ae ac l1 = some r) :
  Calls Try.prog 102 #[.agg #[.int .i64 ae, .slice ag ac.length af], .slice A1 l1.length c1] w fun e w' => e = .returned (.int .i64 r) /\ Below w.heap.size w w' := by
 have ja := Try.underlying24; have ah := Z_ aA; have ai := Z_ aC; clear aA aC; have HR1 := Z_ hr1; have HC1 := Z_ hc1; clear hr1 hc1; have HB := Z_ (Below.refl w.heap.size w); have H : (r_Cost.l0 k l1 0 0 ae ac) = some r := h; clear h; have H' := Z_ H; clear H; go_enter Try.func102, Try.ntmps102; go_wp2_with (first | ((with_reducible refine gate_dst (N := 2) rfl ?_); refine bX_ 2 #[.int .i64 ae, .slice ag ac.length af] 24 ?_; intro Od hg w3 hbox hb; have Y3 := Z_ (hbox); have aDT := Z_ ((by rw [hg]; exact (fZ_ hB_) : w.heap.size <= Od)); have aEa := Z_ ((by rw [hg]; exact (fZ_ hB_) : w.heap.size <= Od)); replace HB := Z_ (fS_ hB_ hb); clear hb hbox hg)); repeat (go_quiet (first | ((with_reducible refine gate_dst (N := 2) rfl ?_); refine bX_ 2 #[.int .i64 ae, .slice ag ac.length af] 24 ?_; intro Od hg w3 hbox hb; have Y3 := Z_ (hbox); have aDT := Z_ ((by rw [hg]; exact (fZ_ hB_) : w.heap.size <= Od)); have aEa := Z_ ((by rw [hg]; exact (fZ_ hB_) : w.heap.size <= Od)); replace HB := Z_ (fS_ hB_ hb); clear hb hbox hg)); try go_wp2_with (first | ((with_reducible refine gate_dst (N := 2) rfl ?_); refine bX_ 2 #[.int .i64 ae, .slice ag ac.length af] 24 ?_; intro Od hg w3 hbox hb; have Y3 := Z_ (hbox); have aDT := Z_ ((by rw [hg]; exact (fZ_ hB_) : w.heap.size <= Od)); have aEa := Z_ ((by rw [hg]; exact (fZ_ hB_) : w.heap.size <= Od)); replace HB := Z_ (fS_ hB_ hb); clear hb hbox hg)))
 go_loopg [5, 6] k (fun kq v5 v6 w' => ∃ (dp : Int) (dt : Int), v5 = .int .i64 dp /\ v6 = .int .i64 dt /\ Aside0 (r_Cost.l0 kq l1 dp dt ae ac = some r) /\ Aside0 (kq <= k) /\ Aside0 (w'.heap[Od]? = some (.cells #[.int .i64 ae, (.slice ag ac.length af)] 24 (0, 0))) /\ Aside0 (Below w.heap.size w w'))
 case atStart => exact ⟨(0), (0), rf_, rf_, H', ⟨nR_ _⟩, ⟨bR_ Y3.out⟩, ⟨hB_⟩⟩
 case round =>
  clear H'; obtain ⟨dp, dt, rfl, rfl, HA, HK1, Y3, HB⟩ := hrel
  cases gk with
  | zero => exact absurd HA.out (by simp [r_Cost.l0])
  | succ k1 =>
   have H := HA.out; clear HA; simp only [r_Cost.l0] at H; by_cases c4 : dt < (l1.length : Int)
   .rw [if_pos c4] at H
    replace c4 := eT_ c4; by_cases c5 : 0 <= dt
    .rw [if_pos c5] at H
     replace c5 := eT_ c5; by_cases c6 : dt < (ac.length : Int)
     .rw [if_pos c6] at H
      replace c6 := eT_ c6; have H' := Z_ H; clear H; have aGA : 0 <= (dt : Int) := dT_ as_; have aFv : dt < (l1.length : Int) := dT_ as_; obtain ⟨bbX, a7o, akU⟩ := Kd.at_int HR1.out dt aGA aFv; cases a7o
      replace akU := pw_cell_below HB.out akU; replace aGA := eq_true aGA; replace aFv := eq_true aFv; obtain ⟨⟨nT, nS⟩, nR, nQ⟩ := f2_ Y3.out; have aGz : 0 <= (dt : Int) := dT_ as_; have aFu : dt < (ac.length : Int) := dT_ as_; obtain ⟨bbW, a7n, akT, akS, akR⟩ := at_T39 ah.out dt aGz aFu; cases a7n
      replace akT := pw_cell_below HB.out akT; replace akS := pw_cell_below HB.out akS; replace akR := pw_cell_below HB.out akR; replace aGz := eq_true aGz; replace aFu := eq_true aFu; go_wp2; repeat (go_quiet (fail); try go_wp2)
      go_roundg k1
      case measure => have := HK1.out; omega
      case rel => exact ⟨(wrap64 (dp + (wrap64 ((rd l1 dt) * ((rT39 ac dt).f2))))), (wrap64 (dt + 1)), rf_, rf_, H', ⟨by have := HK1.out; omega⟩, ⟨bR_ Y3.out⟩, ⟨hB_⟩⟩
     exact nN_ c6 H
    exact nN_ c5 H
   rw [if_neg c4] at H; replace c4 := eF_ c4; obtain rfl := oI_ H; go_wp2; repeat (go_quiet (fail); try go_wp2)
   go_ret; exact ⟨eW_, hB_⟩
end Go.Proofs.Ytpolojoeabmhdaa.A
