/- Functions that one statement reaches: of each a plain function, and the proof that calls come to it. Conditions: those that each contract names. Written by a program of this repository. -/
import Derived.Test.YtojdaolclcmalaaVAskParta
import Derived.Test.YtojdaolclcmalaaQFnExactAskPartx1
import Derived.Test.YtojdaolclcmalaaQFnExactAskPartx16
namespace Go.Proofs.Ytojdaolclcmalaa.QFnExactAskPart
open Go.RowKit Go.Proofs.YtojdaolclcmalaaW.PrintWords Go.Proofs.YtojdaolclcmalaaW.PrintLast Go.Proofs.YtojdaolclcmalaaW.PrintMore
attribute [local go_sem] max2_int min2_int max_two min_two max_three min_three max_four min_four Go.Proofs.YtojdaolclcmalaaW.PrintMore2.isSome_setCell   -- for this text's walks alone
set_option linter.unusedVariables false
set_option linter.unusedSimpArgs false

attribute [local go_sem high] eqA112
/-! ### slices_Equal_Done: function 79 -/
def slices_Equal_Done.l0 : Nat → List (S112) → List (S112) → Int → Int → Option (Bool)
 | 0, _, _, _, _ => none
 | k + 1, x0, x1, x12, x13 => if x13 < x12 then (if 0 ≤ x13 then (if x13 < (x0.length : Int) then (if x13 < (x1.length : Int) then (if (!(((rd_T112 x0 x13).f0) == ((rd_T112 x1 x13).f0)) || (!(((rd_T112 x0 x13).f1) == ((rd_T112 x1 x13).f1)) || (!(((rd_T112 x0 x13).f2) == ((rd_T112 x1 x13).f2))))) = true then (some false) else (slices_Equal_Done.l0 k x0 x1 x12 (wrap64 (x13 + 1)))) else (none)) else (none)) else (none)) else (some true)
def slices_Equal_Done.f (k : Nat) (l0 : List (S112)) (l1 : List (S112)) : Option (Bool) := if (l0.length : Int) = (l1.length : Int) then (slices_Equal_Done.l0 k l0 l1 (l0.length : Int) 0) else (some false)
theorem slices_Equal_Done.mono_l : ∀ k, (∀ y0 y1 y2 y3, LeO (slices_Equal_Done.l0 k y0 y1 y2 y3) (slices_Equal_Done.l0 (k + 1) y0 y1 y2 y3))
 | 0 => fun _ _ _ _ r h => by simp [slices_Equal_Done.l0] at h
 | k + 1 => by
  have ih0 := slices_Equal_Done.mono_l k
  ·intro y0 y1 y2 y3
   unfold slices_Equal_Done.l0
   repeat' first
   | (with_reducible first | apply ih0 | exact LeO.refl _ | exact LeO.none _ | refine LeO.ite ?_ ?_ | refine LeO.bind ?_ (fun _ => ?_))
theorem slices_Equal_Done.mono : ∀ a0 a1 k, LeO (slices_Equal_Done.f k a0 a1) (slices_Equal_Done.f (k + 1) a0 a1) := by
 intro a0 a1 k
 have ih0 := slices_Equal_Done.mono_l k
 unfold slices_Equal_Done.f
 repeat' first
   | (with_reducible first | apply ih0 | exact LeO.refl _ | exact LeO.none _ | refine LeO.ite ?_ ?_ | refine LeO.bind ?_ (fun _ => ?_))
set_option maxHeartbeats 8000000 in
set_option maxRecDepth 100000 in
theorem slices_Equal_Done.calls (k : Nat) (A0 : Option Addr) (c0 : Nat) (l0 : List (S112)) (A1 : Option Addr) (c1 : Nat) (l1 : List (S112)) (r : Bool) (w : World) (hr0 : Kd.C k112 w A0 l0.length l0) (hc0 : l0.length ≤ c0) (hr1 : Kd.C k112 w A1 l1.length l1) (hc1 : l1.length ≤ c1) (h : slices_Equal_Done.f k l0 l1 = some r) :
  Calls Try.prog 79 #[.slice A0 l0.length c0, .slice A1 l1.length c1] w fun e w' => e = .returned (.bool r) ∧ Drawn0 w w' := by
 have hu112 := Try.underlying112
 have vA := am_ hr0
 have cB := am_ hc0
 clear hr0 hc0
 have wA := am_ hr1
 have dB := am_ hc1
 clear hr1 hc1
 have H : (if (l0.length : Int) = (l1.length : Int) then (slices_Equal_Done.l0 k l0 l1 (l0.length : Int) 0) else (some false)) = some r := h
 clear h
 replace H := ite_ H
 obtain ⟨c3, H⟩ | ⟨c3, H⟩ := H
 rotate_left
 ·have oA : ((l0.length : Int) == (l1.length : Int)) = false := beq_eq_false_iff_ne.mpr c3
  have pA : ((l0.length : Int) != (l1.length : Int)) = true := bne_iff_ne.mpr c3
  have qA : (l0.length == l1.length) = false := by first | simpa using c3 | (simp at c3 ⊢; omega)
  obtain rfl := Option.some.inj H
  go_enter Try.func79, Try.ntmps79
  go_wp2
  repeat (go_quiet (fail); try go_wp2)
  go_ret
  exact ⟨by first | rfl | (simp; done) | (simp [*]; done), dr_⟩
 have oA : ((l0.length : Int) == (l1.length : Int)) = true := beq_iff_eq.mpr c3
 have pA : ((l0.length : Int) != (l1.length : Int)) = false := bne_eq_false_iff_eq.mpr c3
 have qA : (l0.length == l1.length) = true := by first | simpa using c3 | (simp at c3 ⊢; omega)
 clear c3
 have H' := am_ H
 clear H
 go_enter Try.func79, Try.ntmps79
 go_wp2
 repeat (go_quiet (fail); try go_wp2)
 go_loopg [13] k (fun kq yA w' => ∃ (aA : Int), yA = .int .i64 aA ∧ Aside0 (slices_Equal_Done.l0 kq l0 l1 (l0.length : Int) aA = some r) ∧ Aside0 (kq ≤ k) ∧ Drawn0 w w')
 case atStart => exact ⟨(0), sr_, H', ⟨Nat.le_refl _⟩, dr_⟩
 case round =>
  clear H'
  try clear c1
  try clear c3
  try clear oA
  try clear pA
  try clear qA
  obtain ⟨aA, rfl, HA, xA, ⟨m1, rfl⟩⟩ := hrel
  cases gk with
  | zero => exact absurd HA.out (by simp [slices_Equal_Done.l0])
  | succ k1 =>
   have H := HA.out
   clear HA
   simp only [slices_Equal_Done.l0] at H
   replace H := ite_ H
   obtain ⟨c4, H⟩ | ⟨c4, H⟩ := H
   rotate_left
   ·have tA := decide_eq_false c4
    clear c4
    obtain rfl := Option.some.inj H
    go_wp2
    repeat (go_quiet (fail); try go_wp2)
    go_ret
    exact ⟨by first | rfl | (simp; done) | (simp [*]; done), dr_⟩
   have tA := decide_eq_true c4
   clear c4
   replace H := ifs_ H
   obtain ⟨c5, H⟩ := H
   have zA := decide_eq_true c5
   clear c5
   replace H := ifs_ H
   obtain ⟨c6, H⟩ := H
   have aB := decide_eq_true c6
   clear c6
   replace H := ifs_ H
   obtain ⟨c7, H⟩ := H
   have bB := decide_eq_true c7
   clear c7
   replace H := ite_ H
   obtain ⟨c8, H⟩ | ⟨c8, H⟩ := H
   ·have uA : (!(((rd_T112 l0 aA).f0) == ((rd_T112 l1 aA).f0)) || (!(((rd_T112 l0 aA).f1) == ((rd_T112 l1 aA).f1)) || (!(((rd_T112 l0 aA).f2) == ((rd_T112 l1 aA).f2))))) = true := c8
    clear c8
    obtain rfl := Option.some.inj H
    have bA : 0 ≤ (aA : Int) := oa_
    have cA : aA < (l0.length : Int) := oa_
    obtain ⟨rA, mA, fA, gA, iA⟩ := at_T112 vA.out aA bA cA
    cases mA
    replace bA := eq_true bA
    replace cA := eq_true cA
    have dA : 0 ≤ (aA : Int) := oa_
    have eA : aA < (l1.length : Int) := oa_
    obtain ⟨sA, nA, jA, kA, lA⟩ := at_T112 wA.out aA dA eA
    cases nA
    replace dA := eq_true dA
    replace eA := eq_true eA
    go_wp2
    repeat (go_quiet (fail); try go_wp2)
    go_ret
    exact ⟨by first | rfl | (simp; done) | (simp [*]; done), dr_⟩
   have uA : (!(((rd_T112 l0 aA).f0) == ((rd_T112 l1 aA).f0)) || (!(((rd_T112 l0 aA).f1) == ((rd_T112 l1 aA).f1)) || (!(((rd_T112 l0 aA).f2) == ((rd_T112 l1 aA).f2))))) = false := by simpa using c8
   clear c8
   have H' := am_ H
   clear H
   have bA : 0 ≤ (aA : Int) := oa_
   have cA : aA < (l0.length : Int) := oa_
   obtain ⟨rA, mA, fA, gA, iA⟩ := at_T112 vA.out aA bA cA
   cases mA
   replace bA := eq_true bA
   replace cA := eq_true cA
   have dA : 0 ≤ (aA : Int) := oa_
   have eA : aA < (l1.length : Int) := oa_
   obtain ⟨sA, nA, jA, kA, lA⟩ := at_T112 wA.out aA dA eA
   cases nA
   replace dA := eq_true dA
   replace eA := eq_true eA
   go_wp2
   repeat (go_quiet (fail); try go_wp2)
   go_roundg k1
   case measure => have := xA.out; omega
   case rel => exact ⟨(wrap64 (aA + 1)), sr_, H', ⟨by have := xA.out; omega⟩, dr_⟩

/-! ### impl_isPart_1: function 78 -/
def impl_isPart_1.f (k : Nat) (a0_0 : Int) (a0_1 : Int) (a0_2 : Int) (l0_3 : List (S112)) (a1_0 : Int) (a1_1 : Int) (a1_2 : Int) (l1_3 : List (S112)) : Option (Bool) := if a0_0 = a1_0 then (if a0_1 = a1_1 then (if a0_2 = a1_2 then ((slices_Equal_Done.f k l0_3 l1_3).bind fun t369 => (some t369)) else (some false)) else (some false)) else (some false)
theorem impl_isPart_1.mono : ∀ a0 a1 a2 a3 a4 a5 a6 a7 k, LeO (impl_isPart_1.f k a0 a1 a2 a3 a4 a5 a6 a7) (impl_isPart_1.f (k + 1) a0 a1 a2 a3 a4 a5 a6 a7) := by
 intro a0 a1 a2 a3 a4 a5 a6 a7 k
 unfold impl_isPart_1.f
 repeat' first
   | (with_reducible first | apply slices_Equal_Done.mono | exact LeO.refl _ | exact LeO.none _ | refine LeO.ite ?_ ?_ | refine LeO.bind ?_ (fun _ => ?_))
set_option maxHeartbeats 8000000 in
set_option maxRecDepth 100000 in
theorem impl_isPart_1.calls (k : Nat) (a0_0 : Int) (a0_1 : Int) (a0_2 : Int) (A0_3 : Option Addr) (c0_3 : Nat) (l0_3 : List (S112)) (a1_0 : Int) (a1_1 : Int) (a1_2 : Int) (A1_3 : Option Addr) (c1_3 : Nat) (l1_3 : List (S112)) (r : Bool) (w : World) (hr0_3 : Kd.C k112 w A0_3 l0_3.length l0_3) (hc0_3 : l0_3.length ≤ c0_3) (hr1_3 : Kd.C k112 w A1_3 l1_3.length l1_3) (hc1_3 : l1_3.length ≤ c1_3) (h : impl_isPart_1.f k a0_0 a0_1 a0_2 l0_3 a1_0 a1_1 a1_2 l1_3 = some r) :
  Calls Try.prog 78 #[.agg #[.int .i64 a0_0, .int .i64 a0_1, .int .i64 a0_2, .slice A0_3 l0_3.length c0_3], .agg #[.int .i64 a1_0, .int .i64 a1_1, .int .i64 a1_2, .slice A1_3 l1_3.length c1_3]] w fun e w' => e = .returned (.bool r) ∧ Below w.heap.size w w' := by
 have hu81 := Try.underlying81
 have kA := am_ hr0_3
 have lA := am_ hc0_3
 clear hr0_3 hc0_3
 have mA := am_ hr1_3
 have nA := am_ hc1_3
 clear hr1_3 hc1_3
 have HB := am_ (Below.refl w.heap.size w)
 have H : (if a0_0 = a1_0 then (if a0_1 = a1_1 then (if a0_2 = a1_2 then ((slices_Equal_Done.f k l0_3 l1_3).bind fun jA => (some jA)) else (some false)) else (some false)) else (some false)) = some r := h
 clear h
 replace H := ite_ H
 obtain ⟨c3, H⟩ | ⟨c3, H⟩ := H
 rotate_left
 ·have aD : (a0_0 == a1_0) = false := beq_eq_false_iff_ne.mpr c3
  have bD : (a0_0 != a1_0) = true := bne_iff_ne.mpr c3
  obtain rfl := Option.some.inj H
  go_enter Try.func78, Try.ntmps78
  go_wp2_with (first | ((with_reducible refine gate_dst (N := 2) rfl ?_); refine bq_ (N := 2) #[.int .i64 a0_0, .int .i64 a0_1, .int .i64 a0_2, .slice A0_3 l0_3.length c0_3] 81 ?_; intro gA hg oD aA hb; have dA := ge_ hg; replace HB := nb_ hb; clear hb hg) | ((with_reducible refine gate_dst (N := 3) rfl ?_); refine bq_ (N := 3) #[.int .i64 a1_0, .int .i64 a1_1, .int .i64 a1_2, .slice A1_3 l1_3.length c1_3] 81 ?_; intro iA hg pD eA hb; have fA := ge1_ hg dA; replace HB := nc_ dA hb; have bA := nl_ aA hg; have cA := ng_ aA hg; replace aA := bK_ aA hb; clear hb hg; have gD := bA.out; have hD := cA.out; obtain ⟨oA, pA, qA, rA, sA, tA, uA, vA⟩ := cf4_ aA.out; obtain ⟨wA, xA, yA, zA, aB, bB, cB, dB⟩ := cf4_ eA.out))
  go_ret
  exact ⟨er_, hs2_ dA.out fA.out⟩
 have aD : (a0_0 == a1_0) = true := beq_iff_eq.mpr c3
 have bD : (a0_0 != a1_0) = false := bne_eq_false_iff_eq.mpr c3
 clear c3
 replace H := ite_ H
 obtain ⟨c4, H⟩ | ⟨c4, H⟩ := H
 rotate_left
 ·have cD : (a0_1 == a1_1) = false := beq_eq_false_iff_ne.mpr c4
  have dD : (a0_1 != a1_1) = true := bne_iff_ne.mpr c4
  obtain rfl := Option.some.inj H
  go_enter Try.func78, Try.ntmps78
  go_wp2_with (first | ((with_reducible refine gate_dst (N := 2) rfl ?_); refine bq_ (N := 2) #[.int .i64 a0_0, .int .i64 a0_1, .int .i64 a0_2, .slice A0_3 l0_3.length c0_3] 81 ?_; intro gA hg qD aA hb; have dA := ge_ hg; replace HB := nb_ hb; clear hb hg) | ((with_reducible refine gate_dst (N := 3) rfl ?_); refine bq_ (N := 3) #[.int .i64 a1_0, .int .i64 a1_1, .int .i64 a1_2, .slice A1_3 l1_3.length c1_3] 81 ?_; intro iA hg rD eA hb; have fA := ge1_ hg dA; replace HB := nc_ dA hb; have bA := nl_ aA hg; have cA := ng_ aA hg; replace aA := bK_ aA hb; clear hb hg; have iD := bA.out; have jD := cA.out; obtain ⟨eB, fB, gB, hB, iB, jB, kB, lB⟩ := cf4_ aA.out; obtain ⟨mB, nB, oB, pB, qB, rB, sB, tB⟩ := cf4_ eA.out))
  go_ret
  exact ⟨er_, hs2_ dA.out fA.out⟩
 have cD : (a0_1 == a1_1) = true := beq_iff_eq.mpr c4
 have dD : (a0_1 != a1_1) = false := bne_eq_false_iff_eq.mpr c4
 clear c4
 replace H := ite_ H
 obtain ⟨c5, H⟩ | ⟨c5, H⟩ := H
 rotate_left
 ·have eD : (a0_2 == a1_2) = false := beq_eq_false_iff_ne.mpr c5
  have fD : (a0_2 != a1_2) = true := bne_iff_ne.mpr c5
  obtain rfl := Option.some.inj H
  go_enter Try.func78, Try.ntmps78
  go_wp2_with (first | ((with_reducible refine gate_dst (N := 2) rfl ?_); refine bq_ (N := 2) #[.int .i64 a0_0, .int .i64 a0_1, .int .i64 a0_2, .slice A0_3 l0_3.length c0_3] 81 ?_; intro gA hg sD aA hb; have dA := ge_ hg; replace HB := nb_ hb; clear hb hg) | ((with_reducible refine gate_dst (N := 3) rfl ?_); refine bq_ (N := 3) #[.int .i64 a1_0, .int .i64 a1_1, .int .i64 a1_2, .slice A1_3 l1_3.length c1_3] 81 ?_; intro iA hg tD eA hb; have fA := ge1_ hg dA; replace HB := nc_ dA hb; have bA := nl_ aA hg; have cA := ng_ aA hg; replace aA := bK_ aA hb; clear hb hg; have kD := bA.out; have lD := cA.out; obtain ⟨uB, vB, wB, xB, yB, zB, aC, bC⟩ := cf4_ aA.out; obtain ⟨cC, dC, eC, fC, gC, hC, iC, jC⟩ := cf4_ eA.out))
  go_ret
  exact ⟨er_, hs2_ dA.out fA.out⟩
 have eD : (a0_2 == a1_2) = true := beq_iff_eq.mpr c5
 have fD : (a0_2 != a1_2) = false := bne_eq_false_iff_eq.mpr c5
 clear c5
 replace H := bnd_ H
 obtain ⟨jA, A6, H⟩ := H
 obtain rfl := Option.some.inj H
 go_enter Try.func78, Try.ntmps78
 go_wp2_with (first | ((with_reducible refine gate_dst (N := 2) rfl ?_); refine bq_ (N := 2) #[.int .i64 a0_0, .int .i64 a0_1, .int .i64 a0_2, .slice A0_3 l0_3.length c0_3] 81 ?_; intro gA hg w7 aA hb; have dA := ge_ hg; replace HB := nb_ hb; clear hb hg) | ((with_reducible refine gate_dst (N := 3) rfl ?_); refine bq_ (N := 3) #[.int .i64 a1_0, .int .i64 a1_1, .int .i64 a1_2, .slice A1_3 l1_3.length c1_3] 81 ?_; intro iA hg w8 eA hb; have fA := ge1_ hg dA; replace HB := nc_ dA hb; have bA := nl_ aA hg; have cA := ng_ aA hg; replace aA := bK_ aA hb; clear hb hg; have mD := bA.out; have nD := cA.out; obtain ⟨kC, lC, mC, nC, oC, pC, qC, rC⟩ := cf4_ aA.out; obtain ⟨sC, tC, uC, vC, wC, xC, yC, zC⟩ := cf4_ eA.out) | (go_at_call 79; (with_reducible refine (slices_Equal_Done.calls k _ _ l0_3 _ _ l1_3 jA _ ?side1 ?side2 ?side3 ?side4 A6.out).mono ?_); (case side1 => exact cs_ ((Kd.C_below kA.out HB.out))); (case side2 => exact lA.out); (case side3 => exact cs_ ((Kd.C_below mA.out HB.out))); (case side4 => exact nA.out); rintro e w' ⟨rfl, ⟨nd, rfl⟩⟩))
 go_ret
 exact ⟨er_, hs2_ dA.out fA.out⟩

/-! ### slices_EqualFunc_Producer: function 77 -/
def slices_EqualFunc_Producer.l0 : Nat → List S81 → List S81 → Nat → Option Bool
 | 0, _, _, _ => none
 | k + 1, x, y, i => if i < x.length then (impl_isPart_1.f k (x.getD i z81).f0 (x.getD i z81).f1 (x.getD i z81).f2 (x.getD i z81).f3 (y.getD i z81).f0 (y.getD i z81).f1 (y.getD i z81).f2 (y.getD i z81).f3).bind fun t => if t = true then slices_EqualFunc_Producer.l0 k x y (i + 1) else some false else some true
def slices_EqualFunc_Producer.f (k : Nat) (l0 : List S81) (l1 : List S81) : Option Bool := if l0.length = l1.length then slices_EqualFunc_Producer.l0 k l0 l1 0 else some false
theorem slices_EqualFunc_Producer.mono_l : ∀ k x y i, LeO (slices_EqualFunc_Producer.l0 k x y i) (slices_EqualFunc_Producer.l0 (k + 1) x y i)
 | 0, _, _, _ => fun r h => by simp [slices_EqualFunc_Producer.l0] at h
 | k + 1, x, y, i => by
  rw [slices_EqualFunc_Producer.l0, slices_EqualFunc_Producer.l0]
  exact LeO.ite (LeO.bind (impl_isPart_1.mono _ _ _ _ _ _ _ _ _) (fun _ => LeO.ite (slices_EqualFunc_Producer.mono_l k _ _ _) (LeO.refl _))) (LeO.refl _)
theorem slices_EqualFunc_Producer.mono : ∀ a0 a1 k, LeO (slices_EqualFunc_Producer.f k a0 a1) (slices_EqualFunc_Producer.f (k + 1) a0 a1) := fun a0 a1 k => LeO.ite (slices_EqualFunc_Producer.mono_l k a0 a1 0) (LeO.refl _)
set_option maxHeartbeats 8000000 in
set_option maxRecDepth 100000 in
theorem slices_EqualFunc_Producer.calls (k : Nat) (A0 : Option Addr) (c0 : Nat) (l0 : List S81) (A1 : Option Addr) (c1 : Nat) (l1 : List S81) (r : Bool) (w : World) (hr0 : Kd.C k81 w A0 l0.length l0) (hc0 : l0.length ≤ c0) (hr1 : Kd.C k81 w A1 l1.length l1) (hc1 : l1.length ≤ c1) (h : slices_EqualFunc_Producer.f k l0 l1 = some r) :
  Calls Try.prog 77 #[.slice A0 l0.length c0, .slice A1 l1.length c1, .func (.func 78) #[] #[]] w fun e w' => e = .returned (.bool r) ∧ Below w.heap.size w w' := by
 have hbig0 : l0.length ≤ 9223372036854775807 := hr0.2.1
 have hu_ := Try.underlying81
 have cA := am_ hr0
 have dA := am_ hr1
 clear hr0 hc0 hr1 hc1
 unfold slices_EqualFunc_Producer.f at h
 by_cases hl : l0.length = l1.length
 ·rw [if_pos hl] at h
  have eA : (((l0.length : Int) != (l1.length : Int)) = false) := bne_eq_false_iff_eq.mpr (by omega)
  have fA : ((l0.length != l1.length) = false) := bne_eq_false_iff_eq.mpr hl
  have H := am_ h
  have HL := am_ hl
  obtain ⟨g, hg⟩ : ∃ g : Nat, g = 78 := ⟨_, rfl⟩
  have eg : ∀ args w, (callFunc g args).run Try.prog w = .ok (.enter g args) w := by rw [hg]; exact fun args w => by first | rfl | kernel_rfl
  rw [show (Value.func (.func 78) #[] #[]) = Value.func (.func g) #[] #[] by rw [hg]]
  have HGG := am_ hg
  clear h hg hl
  go_enter Try.func77, Try.ntmps77
  go_wp2
  go_loopg [7, 8, 9, 17] k (fun kq s7 _ _ s17 wr => ∃ i : Nat, s17 = .int .i64 i ∧ i ≤ l0.length ∧ Aside0 (slices_EqualFunc_Producer.l0 kq l0 l1 i = some r) ∧ Aside0 (kq ≤ k) ∧ Aside0 (Below w.heap.size w wr))
  case atStart => exact ⟨0, rfl, Nat.zero_le _, H, ⟨Nat.le_refl _⟩, ⟨Below.refl _ _⟩⟩
  case round =>
   clear H
   obtain ⟨i, rfl, hi, HA, HK, HB⟩ := hrel
   cases gk with
   | zero => exact absurd HA.out (by simp [slices_EqualFunc_Producer.l0])
   | succ k1 =>
    have hA := HA.out
    clear HA
    rw [slices_EqualFunc_Producer.l0] at hA
    by_cases hlt : i < l0.length
    ·have hltz : (i : Int) < (l0.length : Int) := by omega
     have hltz1 : (i : Int) < (l1.length : Int) := by have := HL.out; omega
     rw [if_pos hlt] at hA
     obtain ⟨t, h1, h2⟩ := Option.bind_eq_some_iff.1 hA
     have H1 := am_ h1
     clear hA h1
     obtain ⟨ada, Aa3, Aac3, rfl, hca0, hca1, hca2, hca3, hla3, hra3⟩ := at_T81 (Kd.C_below cA.out HB.out) (i : Int) (by omega) hltz
     obtain ⟨adb, Ab3, Abc3, rfl, hcb0, hcb1, hcb2, hcb3, hlb3, hrb3⟩ := at_T81 (Kd.C_below dA.out HB.out) (i : Int) (by omega) hltz1
     have e0 : rd_T81 l0 (i : Int) = l0.getD i z81 := rfl
     have e1 : rd_T81 l1 (i : Int) = l1.getD i z81 := rfl
     rw [e0] at hca0 hca1 hca2 hca3 hla3 hra3
     rw [e1] at hcb0 hcb1 hcb2 hcb3 hlb3 hrb3
     generalize l0.getD i z81 = a at hca0 hca1 hca2 hca3 hla3 hra3 H1
     generalize l1.getD i z81 = b at hcb0 hcb1 hcb2 hcb3 hlb3 hrb3 H1
     clear e0 e1
     rw [Int.toNat_natCast] at hca0 hca1 hca2 hca3 hcb0 hcb1 hcb2 hcb3
     have CR0 := am_ hra3
     have CL0 := am_ hla3
     clear hra3 hla3
     have CR1 := am_ hrb3
     have CL1 := am_ hlb3
     clear hrb3 hlb3
     have HC : ∀ W, Below wr.heap.size wr W → Calls Try.prog g (#[.agg #[.int .i64 a.f0, .int .i64 a.f1, .int .i64 a.f2, .slice Aa3 a.f3.length Aac3], .agg #[.int .i64 b.f0, .int .i64 b.f1, .int .i64 b.f2, .slice Ab3 b.f3.length Abc3]] ++ #[]) W fun e w' => e = .returned (.bool t) ∧ Below W.heap.size W w' := fun W hW => by
      rw [HGG.out]
      exact impl_isPart_1.calls k1 a.f0 a.f1 a.f2 Aa3 Aac3 a.f3 b.f0 b.f1 b.f2 Ab3 Abc3 b.f3 t _ (Kd.C_below CR0.out hW) CL0.out (Kd.C_below CR1.out hW) CL1.out H1.out
     have HCC := am_ HC
     have ha0_ := fun (o_ : Obj) => pw_cell_below (below_alloc (Below.refl wr.heap.size wr) o_) hcb0
     have ha1_ := fun (o_ : Obj) => pw_cell_below (below_alloc (Below.refl wr.heap.size wr) o_) hcb1
     have ha2_ := fun (o_ : Obj) => pw_cell_below (below_alloc (Below.refl wr.heap.size wr) o_) hcb2
     have ha3_ := fun (o_ : Obj) => pw_cell_below (below_alloc (Below.refl wr.heap.size wr) o_) hcb3
     clear HC
     go_wp2_with fail
     refine (HCC.out _ (by repeat (first | exact Below.refl _ _ | apply below_alloc))).mono ?_
     rintro e w2 ⟨rfl, aA⟩
     have bA := am_ (show Below w.heap.size w w2 from below_step (by repeat (first | exact HB.out | apply below_alloc)) aA)
     clear aA
     cases t with
     | true =>
      rw [if_pos rfl] at h2
      have H2 := am_ h2
      clear h2
      go_wp2_with fail
      go_roundg k1
      case measure => have := HK.out; omega
      case rel => exact ⟨i + 1, by go_num, by omega, H2, ⟨by have := HK.out; omega⟩, bA⟩
     | false =>
      rw [if_neg (by decide)] at h2
      obtain rfl : false = r := Option.some.inj h2
      clear h2
      go_wp2_with fail
      go_ret
      exact ⟨rfl, bA.out⟩
    ·have hltz : ¬ (i : Int) < (l0.length : Int) := by omega
     have hil : i = l0.length := by omega
     subst hil
     rw [if_neg (by omega)] at hA
     obtain rfl : true = r := Option.some.inj hA
     clear hA
     go_wp2
     go_ret
     exact ⟨rfl, HB.out⟩
 ·rw [if_neg hl] at h
  obtain rfl : false = r := Option.some.inj h
  have eA : (((l0.length : Int) != (l1.length : Int)) = true) := bne_iff_ne.mpr (by omega)
  have fA : ((l0.length != l1.length) = true) := bne_iff_ne.mpr hl
  clear h
  go_enter Try.func77, Try.ntmps77
  go_wp2_with fail
  go_ret
  exact ⟨rfl, Below.refl _ _⟩



/-! ### impl_isPart: function 51 -/
def impl_isPart.f (k : Nat) (l0_0 : List (S81)) (l0_1 : List (S78)) (a0_2 : Int) : Option (Bool) := (impl_rebuild.f l0_1).bind fun bt371 => (if bt371.2.2.2 = true then (if bt371.2.2.1 = a0_2 then ((slices_EqualFunc_Producer.f k bt371.1 l0_0).bind fun t380 => (some t380)) else (some false)) else (some false))
theorem impl_isPart.mono : ∀ a0 a1 a2 k, LeO (impl_isPart.f k a0 a1 a2) (impl_isPart.f (k + 1) a0 a1 a2) := by
 intro a0 a1 a2 k
 unfold impl_isPart.f
 repeat' first
   | (with_reducible first | apply slices_EqualFunc_Producer.mono | exact LeO.refl _ | exact LeO.none _ | refine LeO.ite ?_ ?_ | refine LeO.bind ?_ (fun _ => ?_))
set_option maxHeartbeats 8000000 in
set_option maxRecDepth 100000 in
theorem impl_isPart.calls (k : Nat) (A0_0 : Option Addr) (c0_0 : Nat) (l0_0 : List (S81)) (A0_1 : Option Addr) (c0_1 : Nat) (l0_1 : List (S78)) (a0_2 : Int) (r : Bool) (w : World) (hr0_0 : Kd.C k81 w A0_0 l0_0.length l0_0) (hc0_0 : l0_0.length ≤ c0_0) (hr0_1 : Kd.C k78 w A0_1 l0_1.length l0_1) (hc0_1 : l0_1.length ≤ c0_1) (h : impl_isPart.f k l0_0 l0_1 a0_2 = some r) :
  Calls Try.prog 51 #[.agg #[.slice A0_0 l0_0.length c0_0, .slice A0_1 l0_1.length c0_1, .int .i64 a0_2]] w fun e w' => e = .returned (.bool r) ∧ Below w.heap.size w w' := by
 have hu33 := Try.underlying33
 have uA := am_ hr0_0
 have vA := am_ hc0_0
 clear hr0_0 hc0_0
 have lA := am_ hr0_1
 have mA := am_ hc0_1
 clear hr0_1 hc0_1
 have HB := am_ (Below.refl w.heap.size w)
 have H : ((impl_rebuild.f l0_1).bind fun nA => (if nA.2.2.2 = true then (if nA.2.2.1 = a0_2 then ((slices_EqualFunc_Producer.f k nA.1 l0_0).bind fun tA => (some tA)) else (some false)) else (some false))) = some r := h
 clear h
 replace H := bnd_ H
 obtain ⟨⟨kA, qA, jA, mD⟩, A2, H⟩ := H
 replace H := red_ H
 replace H := ifb_ H
 obtain ⟨rfl, H⟩ | ⟨rfl, H⟩ := H
 rotate_left
 ·obtain rfl := Option.some.inj H
  go_enter Try.func51, Try.ntmps51
  go_wp2_with (first | ((with_reducible refine gate_dst (N := 1) rfl ?_); refine bq_ (N := 1) #[.slice A0_0 l0_0.length c0_0, .slice A0_1 l0_1.length c0_1, .int .i64 a0_2] 33 ?_; intro oA hg vD aA hb; have bA := ge_ hg; replace HB := nb_ hb; clear hb hg; obtain ⟨zA, aB, bB, cB, dB, eB⟩ := cf3_ aA.out) | ((with_reducible refine gate_callee (f := 66) rfl ?_); refine gl_ 8 Try.func66 #[.slice A0_1 l0_1.length c0_1] rfl ma_ ?_; (with_reducible refine (impl_rebuild.calls _ _ l0_1 kA qA jA false _ ?side1 ?side2 A2.out).mono ?_); (case side1 => exact cs_ ((Kd.C_below lA.out HB.out))); (case side2 => exact mA.out); rintro e wD ⟨wA, xA, rfl, rA, sA, hb⟩; refine ⟨_, rfl, ?_⟩; have dA := am_ (Kd.S_lower rA (below_size (hs_ bA.out))); have eA := am_ (Kd.S_lower sA (below_size (hs_ bA.out))); replace aA := bK_ aA hb; replace HB := nc_ bA hb; (try clear hb); (try clear hb2); (try clear hk); (try clear hi); (try clear rA); (try clear sA)) | ((with_reducible refine gate_dst (N := 3) rfl ?_); refine bq_ (N := 3) #[.slice none 0 0, .slice none 0 0, .int .i64 0] 33 ?_; intro pA hg xD gA hb; replace dA := sB_ dA hb; replace eA := sB_ eA hb; have iA := ge1_ hg bA; replace HB := nc_ bA hb; have cA := nl_ aA hg; have fA := ng_ aA hg; replace aA := bK_ aA hb; clear hb hg; obtain ⟨nD, oD, pC⟩ := Kd.S_slice dA.out; subst pC; have gD := fA.out; have hD := cA.out; obtain ⟨fB, gB, hB, iB, jB, kB⟩ := cf3_ gA.out; obtain ⟨pD, qD, qC⟩ := Kd.S_slice eA.out; subst qC))
  go_ret
  exact ⟨er_, hs2_ bA.out iA.out⟩
 replace H := ite_ H
 obtain ⟨c4, H⟩ | ⟨c4, H⟩ := H
 rotate_left
 ·have rC : (jA == a0_2) = false := beq_eq_false_iff_ne.mpr c4
  have sC : (jA != a0_2) = true := bne_iff_ne.mpr c4
  obtain rfl := Option.some.inj H
  go_enter Try.func51, Try.ntmps51
  go_wp2_with (first | ((with_reducible refine gate_dst (N := 1) rfl ?_); refine bq_ (N := 1) #[.slice A0_0 l0_0.length c0_0, .slice A0_1 l0_1.length c0_1, .int .i64 a0_2] 33 ?_; intro oA hg yD aA hb; have bA := ge_ hg; replace HB := nb_ hb; clear hb hg; obtain ⟨lB, mB, nB, oB, pB, qB⟩ := cf3_ aA.out) | ((with_reducible refine gate_callee (f := 66) rfl ?_); refine gl_ 8 Try.func66 #[.slice A0_1 l0_1.length c0_1] rfl ma_ ?_; (with_reducible refine (impl_rebuild.calls _ _ l0_1 kA qA jA true _ ?side1 ?side2 A2.out).mono ?_); (case side1 => exact cs_ ((Kd.C_below lA.out HB.out))); (case side2 => exact mA.out); rintro e zD ⟨wA, xA, rfl, rA, sA, hb⟩; refine ⟨_, rfl, ?_⟩; have dA := am_ (Kd.S_lower rA (below_size (hs_ bA.out))); have eA := am_ (Kd.S_lower sA (below_size (hs_ bA.out))); replace aA := bK_ aA hb; replace HB := nc_ bA hb; (try clear hb); (try clear hb2); (try clear hk); (try clear hi); (try clear rA); (try clear sA)) | ((with_reducible refine gate_dst (N := 3) rfl ?_); refine bq_ (N := 3) #[.slice none 0 0, .slice none 0 0, .int .i64 0] 33 ?_; intro pA hg aE gA hb; replace dA := sB_ dA hb; replace eA := sB_ eA hb; have iA := ge1_ hg bA; replace HB := nc_ bA hb; have cA := nl_ aA hg; have fA := ng_ aA hg; replace aA := bK_ aA hb; clear hb hg; obtain ⟨rD, sD, tC⟩ := Kd.S_slice dA.out; subst tC; have iD := fA.out; have jD := cA.out; obtain ⟨rB, sB, tB, uB, vB, wB⟩ := cf3_ gA.out; obtain ⟨tD, uD, uC⟩ := Kd.S_slice eA.out; subst uC; obtain ⟨xB, yB, zB, aC, bC, cC⟩ := cf3_ aA.out))
  go_ret
  exact ⟨er_, hs2_ bA.out iA.out⟩
 have rC : (jA == a0_2) = true := beq_iff_eq.mpr c4
 have sC : (jA != a0_2) = false := bne_eq_false_iff_eq.mpr c4
 clear c4
 replace H := bnd_ H
 obtain ⟨tA, A5, H⟩ := H
 obtain rfl := Option.some.inj H
 go_enter Try.func51, Try.ntmps51
 go_wp2_with (first | ((with_reducible refine gate_dst (N := 1) rfl ?_); refine bq_ (N := 1) #[.slice A0_0 l0_0.length c0_0, .slice A0_1 l0_1.length c0_1, .int .i64 a0_2] 33 ?_; intro oA hg w6 aA hb; have bA := ge_ hg; replace HB := nb_ hb; clear hb hg; obtain ⟨vC, wC, xC, yC, zC, aD⟩ := cf3_ aA.out) | ((with_reducible refine gate_callee (f := 66) rfl ?_); refine gl_ 8 Try.func66 #[.slice A0_1 l0_1.length c0_1] rfl ma_ ?_; (with_reducible refine (impl_rebuild.calls _ _ l0_1 kA qA jA true _ ?side1 ?side2 A2.out).mono ?_); (case side1 => exact cs_ ((Kd.C_below lA.out HB.out))); (case side2 => exact mA.out); rintro e w8 ⟨wA, xA, rfl, rA, sA, hb⟩; refine ⟨_, rfl, ?_⟩; have dA := am_ (Kd.S_lower rA (below_size (hs_ bA.out))); have eA := am_ (Kd.S_lower sA (below_size (hs_ bA.out))); replace aA := bK_ aA hb; replace HB := nc_ bA hb; (try clear hb); (try clear hb2); (try clear hk); (try clear hi); (try clear rA); (try clear sA)) | ((with_reducible refine gate_dst (N := 3) rfl ?_); refine bq_ (N := 3) #[.slice none 0 0, .slice none 0 0, .int .i64 0] 33 ?_; intro pA hg w9 gA hb; replace dA := sB_ dA hb; replace eA := sB_ eA hb; have iA := ge1_ hg bA; replace HB := nc_ bA hb; have cA := nl_ aA hg; have fA := ng_ aA hg; replace aA := bK_ aA hb; clear hb hg; obtain ⟨bD, yA, cD⟩ := Kd.S_slice dA.out; subst cD; have kD := fA.out; have lD := cA.out; obtain ⟨dC, eC, fC, gC, hC, iC⟩ := cf3_ gA.out; obtain ⟨dD, eD, fD⟩ := Kd.S_slice eA.out; subst fD; obtain ⟨jC, kC, lC, mC, nC, oC⟩ := cf3_ aA.out) | (go_at_call 77; (with_reducible refine (slices_EqualFunc_Producer.calls k _ _ kA _ _ l0_0 tA _ ?side1 ?side2 ?side3 ?side4 A5.out).mono ?_); (case side1 => refine (Kd.S_reads' (e := 81) (base := w.heap.size) (ok := fun k_ => True) (n := kA.length) (c := yA) ?_).2.2; exact ((Kd.S_mono (sF_ (Kd.S_types dA.out gA.out (by decide))) (fun _ h_ => h_.1)))); (case side2 => exact (Kd.S_reads' dA.out).2.1); (case side3 => exact Kd.C_below uA.out (hs2_ bA.out iA.out)); (case side4 => exact vA.out); rintro e bE ⟨rfl, hb⟩; replace dA := am_ (Kd.S_below ((Kd.S_mono (sF_ (Kd.S_types dA.out gA.out (by decide))) (fun _ h_ => h_.1))) hb); replace eA := am_ (Kd.S_below ((Kd.S_mono (sF_ (Kd.S_types eA.out gA.out (by decide))) (fun _ h_ => h_.1))) hb); replace aA := am_ (blk_below (g := oA) (o := .cells #[.slice A0_0 l0_0.length c0_0, .slice A0_1 l0_1.length c0_1, .int .i64 a0_2] 33 (0, 0)) (uf_ aA cA.out) hb); replace gA := am_ (blk_below (g := pA) (o := .cells #[.slice bD kA.length yA, .slice dD qA.length eD, .int .i64 jA] 33 (0, 0)) (up_ gA) hb); replace HB := nc2_ bA iA hb; (try clear hb); (try clear hb2); (try clear hk); (try clear hi)))
 go_ret
 exact ⟨er_, hs2_ bA.out iA.out⟩
end Go.Proofs.Ytojdaolclcmalaa.QFnExactAskPart
