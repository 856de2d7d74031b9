/- Functions that one statement reaches: of each a plain function, and the proof that calls come to it. Conditions: those that each contract names. Written by a program of this repository. -/
import Derived.Test.YtojdaolclcmalaaVAskParta
import Derived.Test.YtojdaolclcmalaaQFnExactAskPartx1
import Derived.Test.YtojdaolclcmalaaQFnExactAskPartx4
namespace Go.Proofs.Ytojdaolclcmalaa.QFnExactAskPart
open Go.RowKit Go.Proofs.YtojdaolclcmalaaW.PrintWords Go.Proofs.YtojdaolclcmalaaW.PrintLast Go.Proofs.YtojdaolclcmalaaW.PrintMore
attribute [local go_sem] max2_int min2_int max_two min_two max_three min_three max_four min_four Go.Proofs.YtojdaolclcmalaaW.PrintMore2.isSome_setCell   -- for this text's walks alone
set_option linter.unusedVariables false
set_option linter.unusedSimpArgs false

/-! ### laws_eqProducer: function 80 -/
def laws_eqProducer.f (k : Nat) (a0_0 : Int) (a0_1 : Int) (a0_2 : Int) (l0_3 : List (S112)) (a1_0 : Int) (a1_1 : Int) (a1_2 : Int) (l1_3 : List (S112)) : Option (Bool) := if a0_0 = a1_0 then (if a0_1 = a1_1 then (if a0_2 = a1_2 then ((laws_eqDoneS.f k l0_3 l1_3).bind fun t188 => (if t188 = true then (some true) else (some false))) else (some false)) else (some false)) else (some false)
theorem laws_eqProducer.mono : ∀ a0 a1 a2 a3 a4 a5 a6 a7 k, LeO (laws_eqProducer.f k a0 a1 a2 a3 a4 a5 a6 a7) (laws_eqProducer.f (k + 1) a0 a1 a2 a3 a4 a5 a6 a7) := by
 intro a0 a1 a2 a3 a4 a5 a6 a7 k
 unfold laws_eqProducer.f
 repeat' first
   | (with_reducible first | apply laws_eqDoneS.mono | exact LeO.refl _ | exact LeO.none _ | refine LeO.ite ?_ ?_ | refine LeO.bind ?_ (fun _ => ?_))
set_option maxHeartbeats 8000000 in
set_option maxRecDepth 100000 in
theorem laws_eqProducer.calls (k : Nat) (a0_0 : Int) (a0_1 : Int) (a0_2 : Int) (A0_3 : Option Addr) (c0_3 : Nat) (l0_3 : List (S112)) (a1_0 : Int) (a1_1 : Int) (a1_2 : Int) (A1_3 : Option Addr) (c1_3 : Nat) (l1_3 : List (S112)) (r : Bool) (w : World) (hr0_3 : Kd.C k112 w A0_3 l0_3.length l0_3) (hc0_3 : l0_3.length ≤ c0_3) (hr1_3 : Kd.C k112 w A1_3 l1_3.length l1_3) (hc1_3 : l1_3.length ≤ c1_3) (h : laws_eqProducer.f k a0_0 a0_1 a0_2 l0_3 a1_0 a1_1 a1_2 l1_3 = some r) :
  Calls Try.prog 80 #[.agg #[.int .i64 a0_0, .int .i64 a0_1, .int .i64 a0_2, .slice A0_3 l0_3.length c0_3], .agg #[.int .i64 a1_0, .int .i64 a1_1, .int .i64 a1_2, .slice A1_3 l1_3.length c1_3]] w fun e w' => e = .returned (.bool r) ∧ Below w.heap.size w w' := by
 have hu81 := Try.underlying81
 have iA := am_ hr0_3
 have jA := am_ hc0_3
 clear hr0_3 hc0_3
 have kA := am_ hr1_3
 have lA := am_ hc1_3
 clear hr1_3 hc1_3
 have HB := am_ (Below.refl w.heap.size w)
 have H : (if a0_0 = a1_0 then (if a0_1 = a1_1 then (if a0_2 = a1_2 then ((laws_eqDoneS.f k l0_3 l1_3).bind fun mA => (if mA = true then (some true) else (some false))) else (some false)) else (some false)) else (some false)) = some r := h
 clear h
 replace H := ite_ H
 obtain ⟨c3, H⟩ | ⟨c3, H⟩ := H
 rotate_left
 ·have qD : (a0_0 == a1_0) = false := beq_eq_false_iff_ne.mpr c3
  have rD : (a0_0 != a1_0) = true := bne_iff_ne.mpr c3
  obtain rfl := Option.some.inj H
  go_enter Try.func80, Try.ntmps80
  go_wp2_with (first | ((with_reducible refine gate_dst (N := 2) rfl ?_); refine bq_ (N := 2) #[.int .i64 a0_0, .int .i64 a0_1, .int .i64 a0_2, .slice A0_3 l0_3.length c0_3] 81 ?_; intro gA hg gE aA hb; have dA := ge_ hg; replace HB := nb_ hb; clear hb hg) | ((with_reducible refine gate_dst (N := 3) rfl ?_); refine bq_ (N := 3) #[.int .i64 a1_0, .int .i64 a1_1, .int .i64 a1_2, .slice A1_3 l1_3.length c1_3] 81 ?_; intro hA hg hE eA hb; have fA := ge1_ hg dA; replace HB := nc_ dA hb; have bA := nl_ aA hg; have cA := ng_ aA hg; replace aA := bK_ aA hb; clear hb hg; have wD := bA.out; have xD := cA.out; obtain ⟨nA, oA, pA, qA, rA, sA, tA, uA⟩ := cf4_ aA.out; obtain ⟨vA, wA, xA, yA, zA, aB, bB, cB⟩ := cf4_ eA.out))
  go_ret
  exact ⟨er_, hs2_ dA.out fA.out⟩
 have qD : (a0_0 == a1_0) = true := beq_iff_eq.mpr c3
 have rD : (a0_0 != a1_0) = false := bne_eq_false_iff_eq.mpr c3
 clear c3
 replace H := ite_ H
 obtain ⟨c4, H⟩ | ⟨c4, H⟩ := H
 rotate_left
 ·have sD : (a0_1 == a1_1) = false := beq_eq_false_iff_ne.mpr c4
  have tD : (a0_1 != a1_1) = true := bne_iff_ne.mpr c4
  obtain rfl := Option.some.inj H
  go_enter Try.func80, Try.ntmps80
  go_wp2_with (first | ((with_reducible refine gate_dst (N := 2) rfl ?_); refine bq_ (N := 2) #[.int .i64 a0_0, .int .i64 a0_1, .int .i64 a0_2, .slice A0_3 l0_3.length c0_3] 81 ?_; intro gA hg iE aA hb; have dA := ge_ hg; replace HB := nb_ hb; clear hb hg) | ((with_reducible refine gate_dst (N := 3) rfl ?_); refine bq_ (N := 3) #[.int .i64 a1_0, .int .i64 a1_1, .int .i64 a1_2, .slice A1_3 l1_3.length c1_3] 81 ?_; intro hA hg jE eA hb; have fA := ge1_ hg dA; replace HB := nc_ dA hb; have bA := nl_ aA hg; have cA := ng_ aA hg; replace aA := bK_ aA hb; clear hb hg; have yD := bA.out; have zD := cA.out; obtain ⟨dB, eB, fB, gB, iB, jB, kB, lB⟩ := cf4_ aA.out; obtain ⟨mB, nB, oB, pB, qB, rB, sB, tB⟩ := cf4_ eA.out))
  go_ret
  exact ⟨er_, hs2_ dA.out fA.out⟩
 have sD : (a0_1 == a1_1) = true := beq_iff_eq.mpr c4
 have tD : (a0_1 != a1_1) = false := bne_eq_false_iff_eq.mpr c4
 clear c4
 replace H := ite_ H
 obtain ⟨c5, H⟩ | ⟨c5, H⟩ := H
 rotate_left
 ·have uD : (a0_2 == a1_2) = false := beq_eq_false_iff_ne.mpr c5
  have vD : (a0_2 != a1_2) = true := bne_iff_ne.mpr c5
  obtain rfl := Option.some.inj H
  go_enter Try.func80, Try.ntmps80
  go_wp2_with (first | ((with_reducible refine gate_dst (N := 2) rfl ?_); refine bq_ (N := 2) #[.int .i64 a0_0, .int .i64 a0_1, .int .i64 a0_2, .slice A0_3 l0_3.length c0_3] 81 ?_; intro gA hg kE aA hb; have dA := ge_ hg; replace HB := nb_ hb; clear hb hg) | ((with_reducible refine gate_dst (N := 3) rfl ?_); refine bq_ (N := 3) #[.int .i64 a1_0, .int .i64 a1_1, .int .i64 a1_2, .slice A1_3 l1_3.length c1_3] 81 ?_; intro hA hg lE eA hb; have fA := ge1_ hg dA; replace HB := nc_ dA hb; have bA := nl_ aA hg; have cA := ng_ aA hg; replace aA := bK_ aA hb; clear hb hg; have aE := bA.out; have bE := cA.out; obtain ⟨uB, vB, wB, xB, yB, zB, aC, bC⟩ := cf4_ aA.out; obtain ⟨cC, dC, eC, fC, gC, hC, iC, jC⟩ := cf4_ eA.out))
  go_ret
  exact ⟨er_, hs2_ dA.out fA.out⟩
 have uD : (a0_2 == a1_2) = true := beq_iff_eq.mpr c5
 have vD : (a0_2 != a1_2) = false := bne_eq_false_iff_eq.mpr c5
 clear c5
 replace H := bnd_ H
 obtain ⟨mA, A6, H⟩ := H
 replace H := ifb_ H
 obtain ⟨rfl, H⟩ | ⟨rfl, H⟩ := H
 ·obtain rfl := Option.some.inj H
  go_enter Try.func80, Try.ntmps80
  go_wp2_with (first | ((with_reducible refine gate_dst (N := 2) rfl ?_); refine bq_ (N := 2) #[.int .i64 a0_0, .int .i64 a0_1, .int .i64 a0_2, .slice A0_3 l0_3.length c0_3] 81 ?_; intro gA hg w8 aA hb; have dA := ge_ hg; replace HB := nb_ hb; clear hb hg) | ((with_reducible refine gate_dst (N := 3) rfl ?_); refine bq_ (N := 3) #[.int .i64 a1_0, .int .i64 a1_1, .int .i64 a1_2, .slice A1_3 l1_3.length c1_3] 81 ?_; intro hA hg w9 eA hb; have fA := ge1_ hg dA; replace HB := nc_ dA hb; have bA := nl_ aA hg; have cA := ng_ aA hg; replace aA := bK_ aA hb; clear hb hg; have cE := bA.out; have dE := cA.out; obtain ⟨kC, lC, mC, nC, oC, pC, qC, rC⟩ := cf4_ aA.out; obtain ⟨sC, tC, uC, vC, wC, xC, yC, zC⟩ := cf4_ eA.out) | ((with_reducible refine gate_callee (f := 94) rfl ?_); refine gl_ 24 Try.func94 #[.slice A0_3 l0_3.length c0_3, .slice A1_3 l1_3.length c1_3] rfl ma_ ?_; (with_reducible refine (laws_eqDoneS.calls k _ _ l0_3 _ _ l1_3 true _ ?side1 ?side2 ?side3 ?side4 A6.out).mono ?_); (case side1 => exact cs_ ((Kd.C_below iA.out HB.out))); (case side2 => exact jA.out); (case side3 => exact cs_ ((Kd.C_below kA.out HB.out))); (case side4 => exact lA.out); rintro e mE ⟨rfl, hb⟩; refine ⟨_, rfl, ?_⟩; replace aA := bK_ aA hb; replace eA := bK_ eA hb; replace HB := nc2_ dA fA hb; (try clear hb); (try clear hb2); (try clear hk); (try clear hi)))
  go_ret
  exact ⟨er_, hs2_ dA.out fA.out⟩
 obtain rfl := Option.some.inj H
 go_enter Try.func80, Try.ntmps80
 go_wp2_with (first | ((with_reducible refine gate_dst (N := 2) rfl ?_); refine bq_ (N := 2) #[.int .i64 a0_0, .int .i64 a0_1, .int .i64 a0_2, .slice A0_3 l0_3.length c0_3] 81 ?_; intro gA hg nE aA hb; have dA := ge_ hg; replace HB := nb_ hb; clear hb hg) | ((with_reducible refine gate_dst (N := 3) rfl ?_); refine bq_ (N := 3) #[.int .i64 a1_0, .int .i64 a1_1, .int .i64 a1_2, .slice A1_3 l1_3.length c1_3] 81 ?_; intro hA hg oE eA hb; have fA := ge1_ hg dA; replace HB := nc_ dA hb; have bA := nl_ aA hg; have cA := ng_ aA hg; replace aA := bK_ aA hb; clear hb hg; have eE := bA.out; have fE := cA.out; obtain ⟨aD, bD, cD, dD, eD, fD, gD, hD⟩ := cf4_ aA.out; obtain ⟨iD, jD, kD, lD, mD, nD, oD, pD⟩ := cf4_ eA.out) | ((with_reducible refine gate_callee (f := 94) rfl ?_); refine gl_ 24 Try.func94 #[.slice A0_3 l0_3.length c0_3, .slice A1_3 l1_3.length c1_3] rfl ma_ ?_; (with_reducible refine (laws_eqDoneS.calls k _ _ l0_3 _ _ l1_3 false _ ?side1 ?side2 ?side3 ?side4 A6.out).mono ?_); (case side1 => exact cs_ ((Kd.C_below iA.out HB.out))); (case side2 => exact jA.out); (case side3 => exact cs_ ((Kd.C_below kA.out HB.out))); (case side4 => exact lA.out); rintro e pE ⟨rfl, hb⟩; refine ⟨_, rfl, ?_⟩; replace aA := bK_ aA hb; replace eA := bK_ eA hb; replace HB := nc2_ dA fA hb; (try clear hb); (try clear hb2); (try clear hk); (try clear hi)))
 go_ret
 exact ⟨er_, hs2_ dA.out fA.out⟩

/-! ### laws_eqProducerS: function 52 -/
def laws_eqProducerS.l0 : Nat → List (S81) → List (S81) → Int → Option (Bool)
 | 0, _, _, _ => none
 | k + 1, x0, x1, x5 => if x5 < (x0.length : Int) then (if 0 ≤ x5 then (if x5 < (x1.length : Int) then ((laws_eqProducer.f k ((rd_T81 x0 x5).f0) ((rd_T81 x0 x5).f1) ((rd_T81 x0 x5).f2) ((rd_T81 x0 x5).f3) ((rd_T81 x1 x5).f0) ((rd_T81 x1 x5).f1) ((rd_T81 x1 x5).f2) ((rd_T81 x1 x5).f3)).bind fun t191 => (if t191 = true then (laws_eqProducerS.l0 k x0 x1 (wrap64 (x5 + 1))) else (some false))) else (none)) else (none)) else (some true)
def laws_eqProducerS.f (k : Nat) (l0 : List (S81)) (l1 : List (S81)) : Option (Bool) := if (l0.length : Int) = (l1.length : Int) then (laws_eqProducerS.l0 k l0 l1 0) else (some false)
theorem laws_eqProducerS.mono_l : ∀ k, (∀ y0 y1 y2, LeO (laws_eqProducerS.l0 k y0 y1 y2) (laws_eqProducerS.l0 (k + 1) y0 y1 y2))
 | 0 => fun _ _ _ r h => by simp [laws_eqProducerS.l0] at h
 | k + 1 => by
  have ih0 := laws_eqProducerS.mono_l k
  ·intro y0 y1 y2
   unfold laws_eqProducerS.l0
   repeat' first
   | (with_reducible first | apply ih0 | apply laws_eqProducer.mono | exact LeO.refl _ | exact LeO.none _ | refine LeO.ite ?_ ?_ | refine LeO.bind ?_ (fun _ => ?_))
theorem laws_eqProducerS.mono : ∀ a0 a1 k, LeO (laws_eqProducerS.f k a0 a1) (laws_eqProducerS.f (k + 1) a0 a1) := by
 intro a0 a1 k
 have ih0 := laws_eqProducerS.mono_l k
 unfold laws_eqProducerS.f
 repeat' first
   | (with_reducible first | apply ih0 | apply laws_eqProducer.mono | exact LeO.refl _ | exact LeO.none _ | refine LeO.ite ?_ ?_ | refine LeO.bind ?_ (fun _ => ?_))
def laws_eqProducerS.T6 : Bool × List (List Nat × List Nat) := (true, [([], []), ([], []), ([0, 1], [0, 1]), ([2], [2]), ([], []), ([], []), ([4, 5], [4, 5]), ([6], [6]), ([3, 7], [3, 7]), ([8], [8])])
def laws_eqProducerS.B6 : List Nat := [0, 0, 3, 7, 0, 0, 48, 112, 255, 511]
theorem laws_eqProducerS.tab6 : rtab .any (opsOf Try.f52 6) = laws_eqProducerS.T6 := by kernel_rfl
theorem laws_eqProducerS.bits6 : waitsOk laws_eqProducerS.T6.2 laws_eqProducerS.B6 = true := by kernel_rfl
set_option maxHeartbeats 8000000 in
set_option maxRecDepth 100000 in
theorem laws_eqProducerS.calls (k : Nat) (A0 : Option Addr) (c0 : Nat) (l0 : List (S81)) (A1 : Option Addr) (c1 : Nat) (l1 : List (S81)) (r : Bool) (w : World) (hr0 : Kd.C k81 w A0 l0.length l0) (hc0 : l0.length ≤ c0) (hr1 : Kd.C k81 w A1 l1.length l1) (hc1 : l1.length ≤ c1) (h : laws_eqProducerS.f k l0 l1 = some r) :
  Calls Try.prog 52 #[.slice A0 l0.length c0, .slice A1 l1.length c1] w fun e w' => e = .returned (.bool r) ∧ Below w.heap.size w w' := by
 have hu81 := Try.underlying81
 have iB := am_ hr0
 have oB := am_ hc0
 clear hr0 hc0
 have jB := am_ hr1
 have pB := am_ hc1
 clear hr1 hc1
 have HB := am_ (Below.refl w.heap.size w)
 have H : (if (l0.length : Int) = (l1.length : Int) then (laws_eqProducerS.l0 k l0 l1 0) else (some false)) = some r := h
 clear h
 replace H := ite_ H
 obtain ⟨c3, H⟩ | ⟨c3, H⟩ := H
 rotate_left
 ·have dB : ((l0.length : Int) == (l1.length : Int)) = false := beq_eq_false_iff_ne.mpr c3
  have eB : ((l0.length : Int) != (l1.length : Int)) = true := bne_iff_ne.mpr c3
  have fB : (l0.length == l1.length) = false := by first | simpa using c3 | (simp at c3 ⊢; omega)
  obtain rfl := Option.some.inj H
  go_enter Try.func52, Try.ntmps52
  go_wp2
  go_ret
  exact ⟨er_, hb_⟩
 have dB : ((l0.length : Int) == (l1.length : Int)) = true := beq_iff_eq.mpr c3
 have eB : ((l0.length : Int) != (l1.length : Int)) = false := bne_eq_false_iff_eq.mpr c3
 have fB : (l0.length == l1.length) = true := by first | simpa using c3 | (simp at c3 ⊢; omega)
 clear c3
 have H' := am_ H
 clear H
 go_enter Try.func52, Try.ntmps52
 go_wp2
 go_loopg [5] k (fun kq v5 w' => ∃ (aA : Int), v5 = .int .i64 aA ∧ Aside0 (laws_eqProducerS.l0 kq l0 l1 aA = some r) ∧ Aside0 (kq ≤ k) ∧ Aside0 (Below w.heap.size w w'))
 case atStart => exact ⟨(0), sr_, H', ⟨Nat.le_refl _⟩, ⟨hb_⟩⟩
 case round =>
  clear H'
  try clear c1
  try clear c3
  try clear dB
  try clear eB
  try clear fB
  obtain ⟨aA, rfl, HA, kB, HB⟩ := hrel
  cases gk with
  | zero => exact absurd HA.out (by simp [laws_eqProducerS.l0])
  | succ k1 =>
   have H := HA.out
   clear HA
   simp only [laws_eqProducerS.l0] at H
   replace H := ite_ H
   obtain ⟨c4, H⟩ | ⟨c4, H⟩ := H
   rotate_left
   ·have gB := decide_eq_false c4
    clear c4
    obtain rfl := Option.some.inj H
    go_wp2
    go_ret
    exact ⟨er_, hb_⟩
   have gB := decide_eq_true c4
   clear c4
   replace H := ifs_ H
   obtain ⟨c5, H⟩ := H
   have lB := decide_eq_true c5
   clear c5
   replace H := ifs_ H
   obtain ⟨c6, H⟩ := H
   have mB := decide_eq_true c6
   clear c6
   replace H := bnd_ H
   obtain ⟨nB, A7, H⟩ := H
   replace H := ifb_ H
   obtain ⟨rfl, H⟩ | ⟨rfl, H⟩ := H
   rotate_left
   ·obtain rfl := Option.some.inj H
    try go_wp2
    replace HB := qH_ HB
    have xA : 0 ≤ (aA : Int) := oa_
    have yA : aA < (l0.length : Int) := oa_
    obtain ⟨jA, rA, sA, bB, bA, cA, dA, eA, lA, mA⟩ := at_T81 iB.out aA xA yA
    have hw189_3 := eA
    have hw189_2 := dA
    have hw189_1 := cA
    have hw189_0 := bA
    cases bB
    replace bA := pc_ HB.out bA
    replace cA := pc_ HB.out cA
    replace dA := pc_ HB.out dA
    replace eA := pc_ HB.out eA
    have nA := am_ mA
    have vA := am_ lA
    clear mA lA
    replace xA := eq_true xA
    replace yA := eq_true yA
    have zA : 0 ≤ (aA : Int) := oa_
    have aB : aA < (l1.length : Int) := oa_
    obtain ⟨kA, tA, uA, cB, fA, gA, hA, iA, oA, pA⟩ := at_T81 jB.out aA zA aB
    have hw190_3 := iA
    have hw190_2 := hA
    have hw190_1 := gA
    have hw190_0 := fA
    cases cB
    replace fA := pc_ HB.out fA
    replace gA := pc_ HB.out gA
    replace hA := pc_ HB.out hA
    replace iA := pc_ HB.out iA
    have qA := am_ pA
    have wA := am_ oA
    clear pA oA
    replace zA := eq_true zA
    replace aB := eq_true aB
    refine start_ (n := 10) (S := fun w' => w'.cell? (jA.add ((aA).toNat * 4)) = some (.int .i64 ((rd_T81 l0 aA).f0)) ∧ w'.cell? ⟨(jA.add ((aA).toNat * 4)).block, (jA.add ((aA).toNat * 4)).off + 1, none⟩ = some (.int .i64 ((rd_T81 l0 aA).f1)) ∧ w'.cell? ⟨(jA.add ((aA).toNat * 4)).block, (jA.add ((aA).toNat * 4)).off + 2, none⟩ = some (.int .i64 ((rd_T81 l0 aA).f2)) ∧ w'.cell? ⟨(jA.add ((aA).toNat * 4)).block, (jA.add ((aA).toNat * 4)).off + 3, none⟩ = some (.slice rA ((rd_T81 l0 aA).f3).length sA) ∧ w'.cell? (kA.add ((aA).toNat * 4)) = some (.int .i64 ((rd_T81 l1 aA).f0)) ∧ w'.cell? ⟨(kA.add ((aA).toNat * 4)).block, (kA.add ((aA).toNat * 4)).off + 1, none⟩ = some (.int .i64 ((rd_T81 l1 aA).f1)) ∧ w'.cell? ⟨(kA.add ((aA).toNat * 4)).block, (kA.add ((aA).toNat * 4)).off + 2, none⟩ = some (.int .i64 ((rd_T81 l1 aA).f2)) ∧ w'.cell? ⟨(kA.add ((aA).toNat * 4)).block, (kA.add ((aA).toNat * 4)).off + 3, none⟩ = some (.slice tA ((rd_T81 l1 aA).f3).length uA)) (ds := []) (List.replicate 10 false).toArray (by kernel_rfl) rfl rfl ⟨(pc_ HB.out hw189_0), (pc_ HB.out hw189_1), (pc_ HB.out hw189_2), (pc_ HB.out hw189_3), (pc_ HB.out hw190_0), (pc_ HB.out hw190_1), (pc_ HB.out hw190_2), (pc_ HB.out hw190_3)⟩ (fun hHeld => ?_); refine with_tabW laws_eqProducerS.tab6 laws_eqProducerS.bits6 (fun HT_ HW_ => ?_)
    generalize wr.drew = qB at HB nA qA bA cA dA eA fA gA hA iA hHeld ⊢
    refine pv_ 0 17 ?_
    refine pv_ 1 18 ?_
    refine pv_ 2 19 ?_
    refine pv_ 4 21 ?_
    refine pv_ 5 22 ?_
    refine pv_ 6 23 ?_
    refine tk_ 3 20 ?_
    refine tk_ 7 24 ?_
    refine on_ 8 25 (fun K hK => ?_)
    refine gs_ Try.func80 #[.agg #[.int .i64 ((rd_T81 l0 aA).f0), .int .i64 ((rd_T81 l0 aA).f1), .int .i64 ((rd_T81 l0 aA).f2), .slice rA ((rd_T81 l0 aA).f3).length sA], .agg #[.int .i64 ((rd_T81 l1 aA).f0), .int .i64 ((rd_T81 l1 aA).f1), .int .i64 ((rd_T81 l1 aA).f2), .slice tA ((rd_T81 l1 aA).f3).length uA]] rfl ma_ ?_
    with_reducible refine (laws_eqProducer.calls k1 ((rd_T81 l0 aA).f0) ((rd_T81 l0 aA).f1) ((rd_T81 l0 aA).f2) _ _ ((rd_T81 l0 aA).f3) ((rd_T81 l1 aA).f0) ((rd_T81 l1 aA).f1) ((rd_T81 l1 aA).f2) _ _ ((rd_T81 l1 aA).f3) false _ ?side1 ?side2 ?side3 ?side4 A7.out).mono ?_
    (case side1 => exact cs_ ((Kd.C_below nA.out HB.out)))
    (case side2 => exact vA.out)
    (case side3 => exact cs_ ((Kd.C_below qA.out HB.out)))
    (case side4 => exact wA.out)
    rintro e rB ⟨rfl, hb⟩
    refine ⟨_, rfl, ?_⟩
    replace HB := nb_ hb
    (try clear hb)
    (try clear hb2)
    (try clear hk)
    (try clear hi)
    refine hK.out _ _ ⟨(pc_ HB.out hw189_0), (pc_ HB.out hw189_1), (pc_ HB.out hw189_2), (pc_ HB.out hw189_3), (pc_ HB.out hw190_0), (pc_ HB.out hw190_1), (pc_ HB.out hw190_2), (pc_ HB.out hw190_3)⟩ (fun hHeld => ?_)
    clear hK K
    refine no_ ?_
    refine pv_ 9 26 ?_
    refine done_ (done_of HT_.out (by kernel_rfl)) ?_
    try go_wp2
    go_ret
    exact ⟨er_, hb_⟩
   have H' := am_ H
   clear H
   try go_wp2
   replace HB := qH_ HB
   have xA : 0 ≤ (aA : Int) := oa_
   have yA : aA < (l0.length : Int) := oa_
   obtain ⟨jA, rA, sA, bB, bA, cA, dA, eA, lA, mA⟩ := at_T81 iB.out aA xA yA
   have hw189_3 := eA
   have hw189_2 := dA
   have hw189_1 := cA
   have hw189_0 := bA
   cases bB
   replace bA := pc_ HB.out bA
   replace cA := pc_ HB.out cA
   replace dA := pc_ HB.out dA
   replace eA := pc_ HB.out eA
   have nA := am_ mA
   have vA := am_ lA
   clear mA lA
   replace xA := eq_true xA
   replace yA := eq_true yA
   have zA : 0 ≤ (aA : Int) := oa_
   have aB : aA < (l1.length : Int) := oa_
   obtain ⟨kA, tA, uA, cB, fA, gA, hA, iA, oA, pA⟩ := at_T81 jB.out aA zA aB
   have hw190_3 := iA
   have hw190_2 := hA
   have hw190_1 := gA
   have hw190_0 := fA
   cases cB
   replace fA := pc_ HB.out fA
   replace gA := pc_ HB.out gA
   replace hA := pc_ HB.out hA
   replace iA := pc_ HB.out iA
   have qA := am_ pA
   have wA := am_ oA
   clear pA oA
   replace zA := eq_true zA
   replace aB := eq_true aB
   refine start_ (n := 10) (S := fun w' => w'.cell? (jA.add ((aA).toNat * 4)) = some (.int .i64 ((rd_T81 l0 aA).f0)) ∧ w'.cell? ⟨(jA.add ((aA).toNat * 4)).block, (jA.add ((aA).toNat * 4)).off + 1, none⟩ = some (.int .i64 ((rd_T81 l0 aA).f1)) ∧ w'.cell? ⟨(jA.add ((aA).toNat * 4)).block, (jA.add ((aA).toNat * 4)).off + 2, none⟩ = some (.int .i64 ((rd_T81 l0 aA).f2)) ∧ w'.cell? ⟨(jA.add ((aA).toNat * 4)).block, (jA.add ((aA).toNat * 4)).off + 3, none⟩ = some (.slice rA ((rd_T81 l0 aA).f3).length sA) ∧ w'.cell? (kA.add ((aA).toNat * 4)) = some (.int .i64 ((rd_T81 l1 aA).f0)) ∧ w'.cell? ⟨(kA.add ((aA).toNat * 4)).block, (kA.add ((aA).toNat * 4)).off + 1, none⟩ = some (.int .i64 ((rd_T81 l1 aA).f1)) ∧ w'.cell? ⟨(kA.add ((aA).toNat * 4)).block, (kA.add ((aA).toNat * 4)).off + 2, none⟩ = some (.int .i64 ((rd_T81 l1 aA).f2)) ∧ w'.cell? ⟨(kA.add ((aA).toNat * 4)).block, (kA.add ((aA).toNat * 4)).off + 3, none⟩ = some (.slice tA ((rd_T81 l1 aA).f3).length uA)) (ds := []) (List.replicate 10 false).toArray (by kernel_rfl) rfl rfl ⟨(pc_ HB.out hw189_0), (pc_ HB.out hw189_1), (pc_ HB.out hw189_2), (pc_ HB.out hw189_3), (pc_ HB.out hw190_0), (pc_ HB.out hw190_1), (pc_ HB.out hw190_2), (pc_ HB.out hw190_3)⟩ (fun hHeld => ?_); refine with_tabW laws_eqProducerS.tab6 laws_eqProducerS.bits6 (fun HT_ HW_ => ?_)
   generalize wr.drew = w9 at HB nA qA bA cA dA eA fA gA hA iA hHeld ⊢
   refine pv_ 0 17 ?_
   refine pv_ 1 18 ?_
   refine pv_ 2 19 ?_
   refine pv_ 4 21 ?_
   refine pv_ 5 22 ?_
   refine pv_ 6 23 ?_
   refine tk_ 3 20 ?_
   refine tk_ 7 24 ?_
   refine on_ 8 25 (fun K hK => ?_)
   refine gs_ Try.func80 #[.agg #[.int .i64 ((rd_T81 l0 aA).f0), .int .i64 ((rd_T81 l0 aA).f1), .int .i64 ((rd_T81 l0 aA).f2), .slice rA ((rd_T81 l0 aA).f3).length sA], .agg #[.int .i64 ((rd_T81 l1 aA).f0), .int .i64 ((rd_T81 l1 aA).f1), .int .i64 ((rd_T81 l1 aA).f2), .slice tA ((rd_T81 l1 aA).f3).length uA]] rfl ma_ ?_
   with_reducible refine (laws_eqProducer.calls k1 ((rd_T81 l0 aA).f0) ((rd_T81 l0 aA).f1) ((rd_T81 l0 aA).f2) _ _ ((rd_T81 l0 aA).f3) ((rd_T81 l1 aA).f0) ((rd_T81 l1 aA).f1) ((rd_T81 l1 aA).f2) _ _ ((rd_T81 l1 aA).f3) true _ ?side1 ?side2 ?side3 ?side4 A7.out).mono ?_
   (case side1 => exact cs_ ((Kd.C_below nA.out HB.out)))
   (case side2 => exact vA.out)
   (case side3 => exact cs_ ((Kd.C_below qA.out HB.out)))
   (case side4 => exact wA.out)
   rintro e sB ⟨rfl, hb⟩
   refine ⟨_, rfl, ?_⟩
   replace HB := nb_ hb
   (try clear hb)
   (try clear hb2)
   (try clear hk)
   (try clear hi)
   refine hK.out _ _ ⟨(pc_ HB.out hw189_0), (pc_ HB.out hw189_1), (pc_ HB.out hw189_2), (pc_ HB.out hw189_3), (pc_ HB.out hw190_0), (pc_ HB.out hw190_1), (pc_ HB.out hw190_2), (pc_ HB.out hw190_3)⟩ (fun hHeld => ?_)
   clear hK K
   refine no_ ?_
   refine pv_ 9 26 ?_
   refine done_ (done_of HT_.out (by kernel_rfl)) ?_
   try go_wp2
   go_roundg k1
   case measure => have := kB.out; omega
   case rel => exact ⟨(wrap64 (aA + 1)), sr_, H', ⟨by have := kB.out; omega⟩, ⟨hb_⟩⟩

/-! ### laws_eqPart: function 15 -/
def laws_eqPart.f (k : Nat) (l0_0 : List (S81)) (l0_1 : List (S78)) (a0_2 : Int) (l1_0 : List (S81)) (l1_1 : List (S78)) (a1_2 : Int) : Option (Bool) := (laws_eqProducerS.f k l0_0 l1_0).bind fun t194 => (if t194 = true then ((laws_eqBatchS.f k l0_1 l1_1).bind fun t195 => (if t195 = true then (if a0_2 = a1_2 then (some true) else (some false)) else (some false))) else (some false))
theorem laws_eqPart.mono : ∀ a0 a1 a2 a3 a4 a5 k, LeO (laws_eqPart.f k a0 a1 a2 a3 a4 a5) (laws_eqPart.f (k + 1) a0 a1 a2 a3 a4 a5) := by
 intro a0 a1 a2 a3 a4 a5 k
 unfold laws_eqPart.f
 repeat' first
   | (with_reducible first | apply laws_eqBatchS.mono | apply laws_eqProducerS.mono | exact LeO.refl _ | exact LeO.none _ | refine LeO.ite ?_ ?_ | refine LeO.bind ?_ (fun _ => ?_))
set_option maxHeartbeats 8000000 in
set_option maxRecDepth 100000 in
theorem laws_eqPart.calls (k : Nat) (A0_0 : Option Addr) (c0_0 : Nat) (l0_0 : List (S81)) (A0_1 : Option Addr) (c0_1 : Nat) (l0_1 : List (S78)) (a0_2 : Int) (A1_0 : Option Addr) (c1_0 : Nat) (l1_0 : List (S81)) (A1_1 : Option Addr) (c1_1 : Nat) (l1_1 : List (S78)) (a1_2 : Int) (r : Bool) (w : World) (hr0_0 : Kd.C k81 w A0_0 l0_0.length l0_0) (hc0_0 : l0_0.length ≤ c0_0) (hr0_1 : Kd.C k78 w A0_1 l0_1.length l0_1) (hc0_1 : l0_1.length ≤ c0_1) (hr1_0 : Kd.C k81 w A1_0 l1_0.length l1_0) (hc1_0 : l1_0.length ≤ c1_0) (hr1_1 : Kd.C k78 w A1_1 l1_1.length l1_1) (hc1_1 : l1_1.length ≤ c1_1) (h : laws_eqPart.f k l0_0 l0_1 a0_2 l1_0 l1_1 a1_2 = some r) :
  Calls Try.prog 15 #[.agg #[.slice A0_0 l0_0.length c0_0, .slice A0_1 l0_1.length c0_1, .int .i64 a0_2], .agg #[.slice A1_0 l1_0.length c1_0, .slice A1_1 l1_1.length c1_1, .int .i64 a1_2]] w fun e w' => e = .returned (.bool r) ∧ Below w.heap.size w w' := by
 have hu33 := Try.underlying33
 have gA := am_ hr0_0
 have hA := am_ hc0_0
 clear hr0_0 hc0_0
 have kA := am_ hr0_1
 have lA := am_ hc0_1
 clear hr0_1 hc0_1
 have iA := am_ hr1_0
 have jA := am_ hc1_0
 clear hr1_0 hc1_0
 have mA := am_ hr1_1
 have nA := am_ hc1_1
 clear hr1_1 hc1_1
 have HB := am_ (Below.refl w.heap.size w)
 have H : ((laws_eqProducerS.f k l0_0 l1_0).bind fun qA => (if qA = true then ((laws_eqBatchS.f k l0_1 l1_1).bind fun rA => (if rA = true then (if a0_2 = a1_2 then (some true) else (some false)) else (some false))) else (some false))) = some r := h
 clear h
 replace H := bnd_ H
 obtain ⟨qA, A3, H⟩ := H
 replace H := ifb_ H
 obtain ⟨rfl, H⟩ | ⟨rfl, H⟩ := H
 rotate_left
 ·obtain rfl := Option.some.inj H
  go_enter Try.func15, Try.ntmps15
  go_wp2_with (first | ((with_reducible refine gate_dst (N := 2) rfl ?_); refine bq_ (N := 2) #[.slice A0_0 l0_0.length c0_0, .slice A0_1 l0_1.length c0_1, .int .i64 a0_2] 33 ?_; intro oA hg hF aA hb; have cA := ge_ hg; replace HB := nb_ hb; clear hb hg) | ((with_reducible refine gate_dst (N := 3) rfl ?_); refine bq_ (N := 3) #[.slice A1_0 l1_0.length c1_0, .slice A1_1 l1_1.length c1_1, .int .i64 a1_2] 33 ?_; intro pA hg iF bA hb; have fA := ge1_ hg cA; replace HB := nc_ cA hb; have dA := nl_ aA hg; have eA := ng_ aA hg; replace aA := bK_ aA hb; clear hb hg; have zE := dA.out; have aF := eA.out; obtain ⟨sA, tA, uA, vA, wA, xA⟩ := cf3_ aA.out; obtain ⟨yA, zA, aB, bB, cB, dB⟩ := cf3_ bA.out) | ((with_reducible refine gate_callee (f := 52) rfl ?_); refine gl_ 9 Try.func52 #[.slice A0_0 l0_0.length c0_0, .slice A1_0 l1_0.length c1_0] rfl ma_ ?_; (with_reducible refine (laws_eqProducerS.calls k _ _ l0_0 _ _ l1_0 false _ ?side1 ?side2 ?side3 ?side4 A3.out).mono ?_); (case side1 => exact cs_ ((Kd.C_below gA.out HB.out))); (case side2 => exact hA.out); (case side3 => exact cs_ ((Kd.C_below iA.out HB.out))); (case side4 => exact jA.out); rintro e jF ⟨rfl, hb⟩; refine ⟨_, rfl, ?_⟩; replace aA := bK_ aA hb; replace bA := bK_ bA hb; replace HB := nc2_ cA fA hb; (try clear hb); (try clear hb2); (try clear hk); (try clear hi)))
  go_ret
  exact ⟨er_, hs2_ cA.out fA.out⟩
 replace H := bnd_ H
 obtain ⟨rA, A5, H⟩ := H
 replace H := ifb_ H
 obtain ⟨rfl, H⟩ | ⟨rfl, H⟩ := H
 rotate_left
 ·obtain rfl := Option.some.inj H
  go_enter Try.func15, Try.ntmps15
  go_wp2_with (first | ((with_reducible refine gate_dst (N := 2) rfl ?_); refine bq_ (N := 2) #[.slice A0_0 l0_0.length c0_0, .slice A0_1 l0_1.length c0_1, .int .i64 a0_2] 33 ?_; intro oA hg kF aA hb; have cA := ge_ hg; replace HB := nb_ hb; clear hb hg) | ((with_reducible refine gate_dst (N := 3) rfl ?_); refine bq_ (N := 3) #[.slice A1_0 l1_0.length c1_0, .slice A1_1 l1_1.length c1_1, .int .i64 a1_2] 33 ?_; intro pA hg lF bA hb; have fA := ge1_ hg cA; replace HB := nc_ cA hb; have dA := nl_ aA hg; have eA := ng_ aA hg; replace aA := bK_ aA hb; clear hb hg; have bF := dA.out; have cF := eA.out; obtain ⟨eB, fB, gB, iB, jB, kB⟩ := cf3_ aA.out; obtain ⟨lB, mB, nB, oB, pB, qB⟩ := cf3_ bA.out) | ((with_reducible refine gate_callee (f := 52) rfl ?_); refine gl_ 9 Try.func52 #[.slice A0_0 l0_0.length c0_0, .slice A1_0 l1_0.length c1_0] rfl ma_ ?_; (with_reducible refine (laws_eqProducerS.calls k _ _ l0_0 _ _ l1_0 true _ ?side1 ?side2 ?side3 ?side4 A3.out).mono ?_); (case side1 => exact cs_ ((Kd.C_below gA.out HB.out))); (case side2 => exact hA.out); (case side3 => exact cs_ ((Kd.C_below iA.out HB.out))); (case side4 => exact jA.out); rintro e mF ⟨rfl, hb⟩; refine ⟨_, rfl, ?_⟩; replace aA := bK_ aA hb; replace bA := bK_ bA hb; replace HB := nc2_ cA fA hb; (try clear hb); (try clear hb2); (try clear hk); (try clear hi); obtain ⟨rB, sB, tB, uB, vB, wB⟩ := cf3_ aA.out; obtain ⟨xB, yB, zB, aC, bC, cC⟩ := cf3_ bA.out) | ((with_reducible refine gate_callee (f := 45) rfl ?_); refine gl_ 15 Try.func45 #[.slice A0_1 l0_1.length c0_1, .slice A1_1 l1_1.length c1_1] rfl ma_ ?_; (with_reducible refine (laws_eqBatchS.calls k _ _ l0_1 _ _ l1_1 false _ ?side1 ?side2 ?side3 ?side4 A5.out).mono ?_); (case side1 => exact cs_ ((Kd.C_below kA.out HB.out))); (case side2 => exact lA.out); (case side3 => exact cs_ ((Kd.C_below mA.out HB.out))); (case side4 => exact nA.out); rintro e nF ⟨rfl, hb⟩; refine ⟨_, rfl, ?_⟩; replace aA := bK_ aA hb; replace bA := bK_ bA hb; replace HB := nc2_ cA fA hb; (try clear hb); (try clear hb2); (try clear hk); (try clear hi)))
  go_ret
  exact ⟨er_, hs2_ cA.out fA.out⟩
 replace H := ite_ H
 obtain ⟨c7, H⟩ | ⟨c7, H⟩ := H
 rotate_left
 ·have xE : (a0_2 == a1_2) = false := beq_eq_false_iff_ne.mpr c7
  have yE : (a0_2 != a1_2) = true := bne_iff_ne.mpr c7
  obtain rfl := Option.some.inj H
  go_enter Try.func15, Try.ntmps15
  go_wp2_with (first | ((with_reducible refine gate_dst (N := 2) rfl ?_); refine bq_ (N := 2) #[.slice A0_0 l0_0.length c0_0, .slice A0_1 l0_1.length c0_1, .int .i64 a0_2] 33 ?_; intro oA hg oF aA hb; have cA := ge_ hg; replace HB := nb_ hb; clear hb hg) | ((with_reducible refine gate_dst (N := 3) rfl ?_); refine bq_ (N := 3) #[.slice A1_0 l1_0.length c1_0, .slice A1_1 l1_1.length c1_1, .int .i64 a1_2] 33 ?_; intro pA hg pF bA hb; have fA := ge1_ hg cA; replace HB := nc_ cA hb; have dA := nl_ aA hg; have eA := ng_ aA hg; replace aA := bK_ aA hb; clear hb hg; have dF := dA.out; have eF := eA.out; obtain ⟨dC, eC, fC, gC, hC, iC⟩ := cf3_ aA.out; obtain ⟨jC, kC, lC, mC, nC, oC⟩ := cf3_ bA.out) | ((with_reducible refine gate_callee (f := 52) rfl ?_); refine gl_ 9 Try.func52 #[.slice A0_0 l0_0.length c0_0, .slice A1_0 l1_0.length c1_0] rfl ma_ ?_; (with_reducible refine (laws_eqProducerS.calls k _ _ l0_0 _ _ l1_0 true _ ?side1 ?side2 ?side3 ?side4 A3.out).mono ?_); (case side1 => exact cs_ ((Kd.C_below gA.out HB.out))); (case side2 => exact hA.out); (case side3 => exact cs_ ((Kd.C_below iA.out HB.out))); (case side4 => exact jA.out); rintro e qF ⟨rfl, hb⟩; refine ⟨_, rfl, ?_⟩; replace aA := bK_ aA hb; replace bA := bK_ bA hb; replace HB := nc2_ cA fA hb; (try clear hb); (try clear hb2); (try clear hk); (try clear hi); obtain ⟨pC, qC, rC, sC, tC, uC⟩ := cf3_ aA.out; obtain ⟨vC, wC, xC, yC, zC, aD⟩ := cf3_ bA.out) | ((with_reducible refine gate_callee (f := 45) rfl ?_); refine gl_ 15 Try.func45 #[.slice A0_1 l0_1.length c0_1, .slice A1_1 l1_1.length c1_1] rfl ma_ ?_; (with_reducible refine (laws_eqBatchS.calls k _ _ l0_1 _ _ l1_1 true _ ?side1 ?side2 ?side3 ?side4 A5.out).mono ?_); (case side1 => exact cs_ ((Kd.C_below kA.out HB.out))); (case side2 => exact lA.out); (case side3 => exact cs_ ((Kd.C_below mA.out HB.out))); (case side4 => exact nA.out); rintro e rF ⟨rfl, hb⟩; refine ⟨_, rfl, ?_⟩; replace aA := bK_ aA hb; replace bA := bK_ bA hb; replace HB := nc2_ cA fA hb; (try clear hb); (try clear hb2); (try clear hk); (try clear hi); obtain ⟨bD, cD, dD, eD, fD, gD⟩ := cf3_ aA.out; obtain ⟨hD, iD, jD, kD, lD, mD⟩ := cf3_ bA.out))
  go_ret
  exact ⟨er_, hs2_ cA.out fA.out⟩
 have xE : (a0_2 == a1_2) = true := beq_iff_eq.mpr c7
 have yE : (a0_2 != a1_2) = false := bne_eq_false_iff_eq.mpr c7
 clear c7
 obtain rfl := Option.some.inj H
 go_enter Try.func15, Try.ntmps15
 go_wp2_with (first | ((with_reducible refine gate_dst (N := 2) rfl ?_); refine bq_ (N := 2) #[.slice A0_0 l0_0.length c0_0, .slice A0_1 l0_1.length c0_1, .int .i64 a0_2] 33 ?_; intro oA hg w8 aA hb; have cA := ge_ hg; replace HB := nb_ hb; clear hb hg) | ((with_reducible refine gate_dst (N := 3) rfl ?_); refine bq_ (N := 3) #[.slice A1_0 l1_0.length c1_0, .slice A1_1 l1_1.length c1_1, .int .i64 a1_2] 33 ?_; intro pA hg w9 bA hb; have fA := ge1_ hg cA; replace HB := nc_ cA hb; have dA := nl_ aA hg; have eA := ng_ aA hg; replace aA := bK_ aA hb; clear hb hg; have fF := dA.out; have gF := eA.out; obtain ⟨nD, oD, pD, qD, rD, sD⟩ := cf3_ aA.out; obtain ⟨tD, uD, vD, wD, xD, yD⟩ := cf3_ bA.out) | ((with_reducible refine gate_callee (f := 52) rfl ?_); refine gl_ 9 Try.func52 #[.slice A0_0 l0_0.length c0_0, .slice A1_0 l1_0.length c1_0] rfl ma_ ?_; (with_reducible refine (laws_eqProducerS.calls k _ _ l0_0 _ _ l1_0 true _ ?side1 ?side2 ?side3 ?side4 A3.out).mono ?_); (case side1 => exact cs_ ((Kd.C_below gA.out HB.out))); (case side2 => exact hA.out); (case side3 => exact cs_ ((Kd.C_below iA.out HB.out))); (case side4 => exact jA.out); rintro e sF ⟨rfl, hb⟩; refine ⟨_, rfl, ?_⟩; replace aA := bK_ aA hb; replace bA := bK_ bA hb; replace HB := nc2_ cA fA hb; (try clear hb); (try clear hb2); (try clear hk); (try clear hi); obtain ⟨zD, aE, bE, cE, dE, eE⟩ := cf3_ aA.out; obtain ⟨fE, gE, hE, iE, jE, kE⟩ := cf3_ bA.out) | ((with_reducible refine gate_callee (f := 45) rfl ?_); refine gl_ 15 Try.func45 #[.slice A0_1 l0_1.length c0_1, .slice A1_1 l1_1.length c1_1] rfl ma_ ?_; (with_reducible refine (laws_eqBatchS.calls k _ _ l0_1 _ _ l1_1 true _ ?side1 ?side2 ?side3 ?side4 A5.out).mono ?_); (case side1 => exact cs_ ((Kd.C_below kA.out HB.out))); (case side2 => exact lA.out); (case side3 => exact cs_ ((Kd.C_below mA.out HB.out))); (case side4 => exact nA.out); rintro e tF ⟨rfl, hb⟩; refine ⟨_, rfl, ?_⟩; replace aA := bK_ aA hb; replace bA := bK_ bA hb; replace HB := nc2_ cA fA hb; (try clear hb); (try clear hb2); (try clear hk); (try clear hi); obtain ⟨lE, mE, nE, oE, pE, qE⟩ := cf3_ aA.out; obtain ⟨rE, sE, tE, uE, vE, wE⟩ := cf3_ bA.out))
 go_ret
 exact ⟨er_, hs2_ cA.out fA.out⟩

/-! ### laws_markText: function 54 -/
def laws_markText.l0 : Nat → Int → ByteArray → Option (ByteArray)
 | 0, _, _ => none
 | k + 1, x0, x3 => if x0 > 0 then ((some (([(wrap64 (48 + (Int.tmod x0 10))) % 256] : List Int) : List Int)).bind fun y196 => (if (strOfNums y196).size + x3.size ≤ 9223372036854775807 then (laws_markText.l0 k (wrap64 (Int.tdiv x0 10)) ((strOfNums y196) ++ x3)) else (none))) else (if 1 + x3.size ≤ 9223372036854775807 then (some ((⟨#[109]⟩ : ByteArray) ++ x3)) else (none))
def laws_markText.f (k : Nat) (a0 : Int) : Option (ByteArray) := if a0 ≤ 0 then (some (⟨#[109, 48]⟩ : ByteArray)) else (laws_markText.l0 k a0 (⟨#[]⟩ : ByteArray))
theorem laws_markText.mono_l : ∀ k, (∀ y0 y1, LeO (laws_markText.l0 k y0 y1) (laws_markText.l0 (k + 1) y0 y1))
 | 0 => fun _ _ r h => by simp [laws_markText.l0] at h
 | k + 1 => by
  have ih0 := laws_markText.mono_l k
  ·intro y0 y1
   unfold laws_markText.l0
   repeat' first
   | (with_reducible first | apply ih0 | exact LeO.refl _ | exact LeO.none _ | refine LeO.ite ?_ ?_ | refine LeO.bind ?_ (fun _ => ?_))
theorem laws_markText.mono : ∀ a0 k, LeO (laws_markText.f k a0) (laws_markText.f (k + 1) a0) := by
 intro a0 k
 have ih0 := laws_markText.mono_l k
 unfold laws_markText.f
 repeat' first
   | (with_reducible first | apply ih0 | exact LeO.refl _ | exact LeO.none _ | refine LeO.ite ?_ ?_ | refine LeO.bind ?_ (fun _ => ?_))
set_option maxHeartbeats 8000000 in
set_option maxRecDepth 100000 in
theorem laws_markText.calls (k : Nat) (a0 : Int) (r : ByteArray) (w : World) (h : laws_markText.f k a0 = some r) :
  Calls Try.prog 54 #[.int .i64 a0] w fun e w' => e = .returned (.string r) ∧ Below w.heap.size w w' := by
 have HB := am_ (Below.refl w.heap.size w)
 have H : (if a0 ≤ 0 then (some (⟨#[109, 48]⟩ : ByteArray)) else (laws_markText.l0 k a0 (⟨#[]⟩ : ByteArray))) = some r := h
 clear h
 replace H := ite_ H
 obtain ⟨c2, H⟩ | ⟨c2, H⟩ := H
 ·have fA := decide_eq_true c2
  clear c2
  obtain rfl := Option.some.inj H
  go_enter Try.func54, Try.ntmps54
  go_wp2
  go_ret
  exact ⟨er_, hb_⟩
 have fA := decide_eq_false c2
 clear c2
 have H' := am_ H
 clear H
 go_enter Try.func54, Try.ntmps54
 go_wp2
 go_loopg [0, 3] k (fun kq v0 v3 w' => ∃ (aA : Int) (bA : ByteArray), v0 = .int .i64 aA ∧ v3 = .string bA ∧ Aside0 (laws_markText.l0 kq aA bA = some r) ∧ Aside0 (kq ≤ k) ∧ Aside0 (Below w.heap.size w w'))
 case atStart => exact ⟨(a0), ((⟨#[]⟩ : ByteArray)), sr_, sr_, H', ⟨Nat.le_refl _⟩, ⟨hb_⟩⟩
 case round =>
  clear H'
  try clear c2
  try clear fA
  obtain ⟨aA, bA, rfl, rfl, HA, jA, HB⟩ := hrel
  cases gk with
  | zero => exact absurd HA.out (by simp [laws_markText.l0])
  | succ k1 =>
   have H := HA.out
   clear HA
   simp only [laws_markText.l0] at H
   replace H := ite_ H
   obtain ⟨c3, H⟩ | ⟨c3, H⟩ := H
   rotate_left
   ·have gA := dgf_ c3
    clear c3
    replace H := ifs_ H
    obtain ⟨c8, H⟩ := H
    have kA := eq_true c8
    have lA := decide_eq_true c8
    try have mA : (9223372036854775807 < 1 + bA.size) = False := eq_false (Nat.not_lt.2 c8)
    obtain rfl := Option.some.inj H
    go_wp2
    go_ret
    exact ⟨er_, hb_⟩
   have gA := dgt_ c3
   clear c3
   obtain ⟨dA, cA⟩ : ∃ y_ : List Int, y_ = (([(wrap64 (48 + (Int.tmod aA 10))) % 256] : List Int)) := ⟨_, rfl⟩
   replace H : (if (strOfNums dA).size + bA.size ≤ 9223372036854775807 then (laws_markText.l0 k1 (wrap64 (Int.tdiv aA 10)) ((strOfNums dA) ++ bA)) else (none)) = some r := by first | (rw [cA]; with_reducible exact H) | (have H2_ := (Option.bind_some _ _).symm.trans H; rw [cA]; with_reducible exact H2_) | (have H2_ := (Option.bind_some _ _).symm.trans H; with_reducible exact H2_) | with_reducible exact H | (rw [cA]; exact H) | exact H
   have eA := am_ cA
   clear cA
   replace H := ifs_ H
   obtain ⟨c4, H⟩ := H
   have nA := eq_true c4
   have oA := decide_eq_true c4
   try have pA : (9223372036854775807 < (strOfNums dA).size + bA.size) = False := eq_false (Nat.not_lt.2 c4)
   try have c4w := cw_ c4
   (try rw [c4w] at fA)
   (try rw [c4w] at gA)
   have H' := am_ H
   clear H
   go_wp2_with (first | ((with_reducible refine gate_dst (N := 12) rfl ?_); refine Kd.R_lit (Kd.int .u8) _ 5 ?hg (N := 12) ?hd (xs := ([(wrap64 (48 + (Int.tmod aA 10))) % 256] : List Int)) (inner := [.int .u8 ((wrap64 (48 + (Int.tmod aA 10))) % 256)]) (ok := fun _ => True) (okp := fun _ => True) ?hr ?hp (fun _ hk => hk) trivial (Below.refl _ _) (Nat.le_refl _) (by simp) ?_; (case hd => rfl); (case hg => rfl); (case hr => first | (go_simp; done) | (go_simp; rfl)); (case hp => exact (Reps.one (show Kd.M (Kd.int .u8) _ _ _ ((wrap64 (48 + (Int.tmod aA 10))) % 256) [.int .u8 ((wrap64 (48 + (Int.tmod aA 10))) % 256)] from rfl) (Reps.none _ _))); intro qA w5 hA hb hg_ hnew_; clear hg_ hnew_; (first | rw [← eA.out] at hA | (simp only [Int.reduceToNat] at hA; rw [← eA.out] at hA)); have iA := am_ (Kd.R_lower hA (below_size (hb_))); replace HB := nb_ hb; clear hb hA; have hcv7 := own_string (P := Try.prog) Try.underlying114 Try.underlying5 Try.underlying9 (Kd.own_of_R iA.out)))
   go_roundg k1
   case measure => have := jA.out; omega
   case rel => exact ⟨(wrap64 (Int.tdiv aA 10)), ((strOfNums dA) ++ bA), sr_, sr_, H', ⟨by have := jA.out; omega⟩, ⟨hb_⟩⟩

/-! ### laws_markStringS: function 17 -/
def laws_markStringS.l0 : Nat → List ByteArray → Int → Int → Option (Int × List ByteArray)
 | 0, _, _, _ => none
 | k + 1, x0, x1, x5 => if x5 < (x0.length : Int) then ((laws_markText.f k x1).bind fun t199 => (if 0 ≤ x5 then (laws_markStringS.l0 k (x0.set (x5 : Int).toNat t199) (wrap64 (x1 + 1)) (wrap64 (x5 + 1))) else (none))) else (some (x1, x0))
def laws_markStringS.f (k : Nat) (l0 : List ByteArray) (a1 : Int) : Option (Int × List ByteArray) := laws_markStringS.l0 k l0 a1 0
theorem laws_markStringS.mono_l : ∀ k, (∀ y0 y1 y2, LeO (laws_markStringS.l0 k y0 y1 y2) (laws_markStringS.l0 (k + 1) y0 y1 y2))
 | 0 => fun _ _ _ r h => by simp [laws_markStringS.l0] at h
 | k + 1 => by
  have ih0 := laws_markStringS.mono_l k
  ·intro y0 y1 y2
   unfold laws_markStringS.l0
   repeat' first
   | (with_reducible first | apply ih0 | apply laws_markText.mono | exact LeO.refl _ | exact LeO.none _ | refine LeO.ite ?_ ?_ | refine LeO.bind ?_ (fun _ => ?_))
theorem laws_markStringS.mono : ∀ a0 a1 k, LeO (laws_markStringS.f k a0 a1) (laws_markStringS.f (k + 1) a0 a1) := by
 intro a0 a1 k
 have ih0 := laws_markStringS.mono_l k
 unfold laws_markStringS.f
 repeat' first
   | (with_reducible first | apply ih0 | apply laws_markText.mono | exact LeO.refl _ | exact LeO.none _ | refine LeO.ite ?_ ?_ | refine LeO.bind ?_ (fun _ => ?_))
set_option maxHeartbeats 8000000 in
set_option maxRecDepth 100000 in
theorem laws_markStringS.calls (k : Nat) (P0_ : Nat → Prop) (u9000_ : Value) (l0 : List ByteArray) (a1 : Int) (r1 : Int) (r2 : List ByteArray) (w0 w : World) (hB : Below w0.heap.size w0 w) (ho0 : Kd.R Kd.string 9 w w0.heap.size P0_ u9000_ l0) (h : laws_markStringS.f k l0 a1 = some (r1, r2)) :
  Calls Try.prog 17 #[u9000_, .int .i64 a1] w fun e w' => e = .returned (.int .i64 r1) ∧ Kd.R Kd.string 9 w' w0.heap.size (fun k_ => (P0_ k_ ∨ w.heap.size ≤ k_)) u9000_ r2 ∧ Below w0.heap.size w0 w' ∧ Kept w w' (fun k_ => P0_ k_) := by
 have rA := am_ (show Kd.R Kd.string 9 w w0.heap.size (fun k_ => (P0_ k_ ∨ w.heap.size ≤ k_)) u9000_ l0 from Kd.R_mono ho0 (fun k_ hk => (.inl hk)))
 have HK := am_ (Kept.refl w (fun k_ => P0_ k_))
 have xA := am_ hB.size
 have HB := am_ hB
 clear hB
 have H : (laws_markStringS.l0 k l0 a1 0) = some (r1, r2) := h
 clear h
 have H' := am_ H
 clear H
 go_enter Try.func17, Try.ntmps17
 go_wp2
 go_loopg [1, 5] k (fun kq v1 v5 w' => ∃ (eA : List ByteArray) (dA : Int) (bA : Int), v1 = .int .i64 dA ∧ v5 = .int .i64 bA ∧ Aside0 (laws_markStringS.l0 kq eA dA bA = some (r1, r2)) ∧ Aside0 (kq ≤ k) ∧ Aside0 (Kd.R Kd.string 9 w' w0.heap.size (fun k_ => (P0_ k_ ∨ w.heap.size ≤ k_)) u9000_ eA) ∧ Aside0 (Kept w w' (fun k_ => P0_ k_)) ∧ Aside0 (Below w0.heap.size w0 w'))
 case atStart => exact ⟨(l0), (a1), (0), sr_, sr_, H', ⟨Nat.le_refl _⟩, ⟨kr_ rA.out⟩, ⟨by repeat (first | (with_reducible first | exact HK.out | apply Kept.alloc | apply Kept.drewN | apply Kept.drew) | exact HK.out)⟩, ⟨hb_⟩⟩
 case round =>
  clear H'
  obtain ⟨eA, dA, bA, rfl, rfl, HA, mA, aA, HK, HB⟩ := hrel
  cases gk with
  | zero => exact absurd HA.out (by simp [laws_markStringS.l0])
  | succ k1 =>
   have H := HA.out
   clear HA
   simp only [laws_markStringS.l0] at H
   replace H := ite_ H
   obtain ⟨c3, H⟩ | ⟨c3, H⟩ := H
   rotate_left
   ·have iA := decide_eq_false c3
    clear c3
    simp only [Option.some.injEq, Prod.mk.injEq] at H
    obtain ⟨rfl, rfl⟩ := H
    obtain ⟨sA, tA, jA⟩ := Kd.R_slice aA.out
    subst jA
    go_wp2
    go_ret
    exact ⟨er_, kr_ aA.out, hb_, by repeat (first | (with_reducible first | exact HK.out | apply Kept.alloc | apply Kept.drewN | apply Kept.drew) | exact HK.out)⟩
   have iA := decide_eq_true c3
   clear c3
   replace H := bnd_ H
   obtain ⟨fA, A4, H⟩ := H
   replace H := ifs_ H
   obtain ⟨c5, H⟩ := H
   have uA := decide_eq_true c5
   clear c5
   obtain ⟨gA, cA⟩ : ∃ y_ : List ByteArray, y_ = (eA.set (bA : Int).toNat fA) := ⟨_, rfl⟩
   replace H : (laws_markStringS.l0 k1 gA (wrap64 (dA + 1)) (wrap64 (bA + 1))) = some (r1, r2) := by first | (rw [cA]; with_reducible exact H) | (have H2_ := (Option.bind_some _ _).symm.trans H; rw [cA]; with_reducible exact H2_) | (have H2_ := (Option.bind_some _ _).symm.trans H; with_reducible exact H2_) | with_reducible exact H | (rw [cA]; exact H) | exact H
   have hA := am_ cA
   clear cA
   have H' := am_ H
   clear H
   obtain ⟨yA, vA, wA⟩ := Kd.R_slice aA.out
   subst wA
   go_wp2_with (first | ((with_reducible refine gate_callee (f := 54) rfl ?_); refine gl_ 15 Try.func54 #[.int .i64 dA] rfl ma_ ?_; (with_reducible refine (laws_markText.calls k1 dA fA _ A4.out).mono ?_); rintro e w8 ⟨rfl, hb⟩; refine ⟨_, rfl, ?_⟩; replace aA := rB_ aA hb; replace HK := am_ (Kept.below (S := (fun k_ => P0_ k_)) (by repeat (first | (with_reducible first | exact HK.out | apply Kept.alloc | apply Kept.drewN | apply Kept.drew) | exact HK.out)) hb); replace HB := nb_ hb; (try clear hb); (try clear hb2); (try clear hk); (try clear hi); have p6 : 0 ≤ (bA : Int) := oa_; have q6 : (bA : Int) < ((eA.length : Int) : Int) := oa_; obtain ⟨go6, zA, nA, oA, gl6, cl6, pA⟩ := Kd.R_form aA.out (by omega); (first | cases nA | (injection nA with ea_ en_ ec_; (first | subst ea_ | (injection ea_ with ea_; subst ea_)); subst ec_; clear en_)); have GB6 := am_ oA; have GG6 := am_ pA; clear oA gl6 pA; have HMgo6 := am_ (show (P0_ go6 ∨ w.heap.size ≤ go6) from (aA.out.1 _ rfl)); obtain ⟨qA, hf6_0⟩ := Kd.R_celln (⟨#[]⟩ : ByteArray) aA.out (bA : Int) p6 q6; replace p6 := eq_true p6; replace q6 := eq_true q6; obtain ⟨hy9_, hz9_⟩ := Kd.R_celln (⟨#[]⟩ : ByteArray) aA.out (bA : Int) (oa_) (oa_); have kA := Kd.R_putg aA.out (bA : Int) fA) | ((with_reducible refine gate_store (t := 9) (p := 16) rfl ?_); refine store_event (t := 9) (p := 16) (v := ?vo_w10) (w1 := (w8.setCell ⟨go6, (bA : Int).toNat, none⟩ (.string fA))) ?hg ?ho ?hn ?hr ?_; (case ho => rfl); (case hg => rfl); (case hn => rfl); (case hr => first | (go_simp; done) | (go_simp; rfl)); intro lA hw; have hg : w8.grownBy lA (some go6) := (by rw [hw]; exact kA.2); have hp_ : Kd.R Kd.string 9 lA w0.heap.size (fun k_ => (P0_ k_ ∨ w.heap.size ≤ k_)) (.slice (some ⟨go6, 0, none⟩) eA.length vA) gA := (by rw [hw, hA.out]; exact kA.1); clear kA; replace HB := am_ ((by rw [hw]; exact below_set (HB.out) GB6.out : Below w0.heap.size w0 lA)); replace HK := am_ (Kept.of_grown (S := (fun k_ => P0_ k_)) hg (by repeat (first | (with_reducible first | exact HK.out | apply Kept.alloc | apply Kept.drewN | apply Kept.drew) | exact HK.out)) (fun k_ e_ => (aA.out.1 k_ e_))); replace aA := am_ (hp_); clear hg hw hp_))
   go_roundg k1
   case measure => have := mA.out; omega
   case rel => exact ⟨(gA), (wrap64 (dA + 1)), (wrap64 (bA + 1)), sr_, sr_, H', ⟨by have := mA.out; omega⟩, ⟨kr_ aA.out⟩, ⟨by repeat (first | (with_reducible first | exact HK.out | apply Kept.alloc | apply Kept.drewN | apply Kept.drew) | exact HK.out)⟩, ⟨hb_⟩⟩
end Go.Proofs.Ytojdaolclcmalaa.QFnExactAskPart
