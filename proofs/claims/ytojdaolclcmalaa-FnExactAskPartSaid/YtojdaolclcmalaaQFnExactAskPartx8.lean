/- Functions that one statement reaches: of each a plain function, and the proof that calls come to it. Conditions: those that each contract names. Written by a program of this repository. -/
import Derived.Test.YtojdaolclcmalaaVAskParta
import Derived.Test.YtojdaolclcmalaaQFnExactAskPartx1
import Derived.Test.YtojdaolclcmalaaQFnExactAskPartx2
import Derived.Test.YtojdaolclcmalaaQFnExactAskPartx5
import Derived.Test.YtojdaolclcmalaaQFnExactAskPartx6
namespace Go.Proofs.Ytojdaolclcmalaa.QFnExactAskPart
open Go.RowKit Go.Proofs.YtojdaolclcmalaaW.PrintWords Go.Proofs.YtojdaolclcmalaaW.PrintLast Go.Proofs.YtojdaolclcmalaaW.PrintMore
attribute [local go_sem] max2_int min2_int max_two min_two max_three min_three max_four min_four Go.Proofs.YtojdaolclcmalaaW.PrintMore2.isSome_setCell   -- for this text's walks alone
set_option linter.unusedVariables false
set_option linter.unusedSimpArgs false

/-! ### laws_heldStringS: function 18 -/
def laws_heldStringS.l0 : Nat → List ByteArray → Int → Int → Option (Int)
 | 0, _, _, _ => none
 | k + 1, x0, x1, x5 => if x5 < (x0.length : Int) then (if 0 ≤ x5 then ((laws_markText.f k x1).bind fun t213 => (if (rdOf ByteArray.empty x0 x5).toList = t213.toList then (laws_heldStringS.l0 k x0 (wrap64 (x1 + 1)) (wrap64 (x5 + 1))) else (some (-1)))) else (none)) else (some x1)
def laws_heldStringS.f (k : Nat) (l0 : List ByteArray) (a1 : Int) : Option (Int) := laws_heldStringS.l0 k l0 a1 0
theorem laws_heldStringS.mono_l : ∀ k, (∀ y0 y1 y2, LeO (laws_heldStringS.l0 k y0 y1 y2) (laws_heldStringS.l0 (k + 1) y0 y1 y2))
 | 0 => fun _ _ _ r h => by simp [laws_heldStringS.l0] at h
 | k + 1 => by
  have ih0 := laws_heldStringS.mono_l k
  ·intro y0 y1 y2
   unfold laws_heldStringS.l0
   repeat' first
   | (with_reducible first | apply ih0 | apply laws_markText.mono | exact LeO.refl _ | exact LeO.none _ | refine LeO.ite ?_ ?_ | refine LeO.bind ?_ (fun _ => ?_))
theorem laws_heldStringS.mono : ∀ a0 a1 k, LeO (laws_heldStringS.f k a0 a1) (laws_heldStringS.f (k + 1) a0 a1) := by
 intro a0 a1 k
 have ih0 := laws_heldStringS.mono_l k
 unfold laws_heldStringS.f
 repeat' first
   | (with_reducible first | apply ih0 | apply laws_markText.mono | exact LeO.refl _ | exact LeO.none _ | refine LeO.ite ?_ ?_ | refine LeO.bind ?_ (fun _ => ?_))
set_option maxHeartbeats 8000000 in
set_option maxRecDepth 100000 in
theorem laws_heldStringS.calls (k : Nat) (A0 : Option Addr) (c0 : Nat) (l0 : List ByteArray) (a1 : Int) (r : Int) (w : World) (hr0 : Kd.C Kd.string w A0 l0.length l0) (hc0 : l0.length ≤ c0) (h : laws_heldStringS.f k l0 a1 = some r) :
  Calls Try.prog 18 #[.slice A0 l0.length c0, .int .i64 a1] w fun e w' => e = .returned (.int .i64 r) ∧ Below w.heap.size w w' := by
 have lA := am_ hr0
 have oA := am_ hc0
 clear hr0 hc0
 have HB := am_ (Below.refl w.heap.size w)
 have H : (laws_heldStringS.l0 k l0 a1 0) = some r := h
 clear h
 have H' := am_ H
 clear H
 go_enter Try.func18, Try.ntmps18
 go_wp2
 go_loopg [1, 5] k (fun kq v1 v5 w' => ∃ (cA : Int) (bA : Int), v1 = .int .i64 cA ∧ v5 = .int .i64 bA ∧ Aside0 (laws_heldStringS.l0 kq l0 cA bA = some r) ∧ Aside0 (kq ≤ k) ∧ Aside0 (Below w.heap.size w w'))
 case atStart => exact ⟨(a1), (0), sr_, sr_, H', ⟨Nat.le_refl _⟩, ⟨hb_⟩⟩
 case round =>
  clear H'
  obtain ⟨cA, bA, rfl, rfl, HA, mA, HB⟩ := hrel
  cases gk with
  | zero => exact absurd HA.out (by simp [laws_heldStringS.l0])
  | succ k1 =>
   have H := HA.out
   clear HA
   simp only [laws_heldStringS.l0] at H
   replace H := ite_ H
   obtain ⟨c3, H⟩ | ⟨c3, H⟩ := H
   rotate_left
   ·have iA := decide_eq_false c3
    clear c3
    obtain rfl := Option.some.inj H
    go_wp2
    go_ret
    exact ⟨er_, hb_⟩
   have iA := decide_eq_true c3
   clear c3
   replace H := ifs_ H
   obtain ⟨c4, H⟩ := H
   have nA := decide_eq_true c4
   clear c4
   replace H := bnd_ H
   obtain ⟨fA, A5, H⟩ := H
   replace H := ite_ H
   obtain ⟨c6, H⟩ | ⟨c6, H⟩ := H
   rotate_left
   ·have jA : ((rdOf ByteArray.empty l0 bA).toList == fA.toList) = false := beq_eq_false_iff_ne.mpr c6
    have kA : ((rdOf ByteArray.empty l0 bA).toList != fA.toList) = true := bne_iff_ne.mpr c6
    obtain rfl := Option.some.inj H
    try go_wp2
    replace HB := qH_ HB
    have dA : 0 ≤ (bA : Int) := oa_
    have eA : bA < (l0.length : Int) := oa_
    obtain ⟨gA, hA, aA⟩ := Kd.at_string lA.out bA dA eA
    have hw212_0 := aA
    cases hA
    replace aA := pc_ HB.out aA
    replace dA := eq_true dA
    replace eA := eq_true eA
    refine start_ (n := 7) (S := fun w' => w'.cell? (gA.add (bA).toNat) = some (.string (rdOf ByteArray.empty l0 bA))) (ds := []) #[false, false, false, false, false, false, false] (by kernel_rfl) rfl rfl ((pc_ HB.out hw212_0)) (fun hHeld => ?_)
    generalize wr.drew = w9 at HB aA hHeld ⊢
    refine px_ 0 12 ?_
    refine px_ 1 13 ?_
    refine px_ 2 14 ?_
    refine px_ 4 16 ?_
    refine tx_ 3 15 ?_
    refine ox_ 5 17 fun K hK => ?_
    refine gs_ Try.func54 #[.int .i64 cA] rfl ma_ ?_
    with_reducible refine (laws_markText.calls k1 cA fA _ A5.out).mono ?_
    rintro e pA ⟨rfl, hb⟩
    refine ⟨_, rfl, ?_⟩
    replace HB := nb_ hb
    (try clear hb)
    (try clear hb2)
    (try clear hk)
    (try clear hi)
    refine hK.out _ _ ((pc_ HB.out hw212_0)) (fun hHeld => ?_)
    clear hK K
    refine no_ ?_
    refine px_ 6 18 ?_
    refine done_ (by kernel_rfl) ?_
    try go_wp2
    go_ret
    exact ⟨er_, hb_⟩
   have jA : ((rdOf ByteArray.empty l0 bA).toList == fA.toList) = true := beq_iff_eq.mpr c6
   have kA : ((rdOf ByteArray.empty l0 bA).toList != fA.toList) = false := bne_eq_false_iff_eq.mpr c6
   clear c6
   have H' := am_ H
   clear H
   try go_wp2
   replace HB := qH_ HB
   have dA : 0 ≤ (bA : Int) := oa_
   have eA : bA < (l0.length : Int) := oa_
   obtain ⟨gA, hA, aA⟩ := Kd.at_string lA.out bA dA eA
   have hw212_0 := aA
   cases hA
   replace aA := pc_ HB.out aA
   replace dA := eq_true dA
   replace eA := eq_true eA
   refine start_ (n := 7) (S := fun w' => w'.cell? (gA.add (bA).toNat) = some (.string (rdOf ByteArray.empty l0 bA))) (ds := []) #[false, false, false, false, false, false, false] (by kernel_rfl) rfl rfl ((pc_ HB.out hw212_0)) (fun hHeld => ?_)
   generalize wr.drew = w7 at HB aA hHeld ⊢
   refine px_ 0 12 ?_
   refine px_ 1 13 ?_
   refine px_ 2 14 ?_
   refine px_ 4 16 ?_
   refine tx_ 3 15 ?_
   refine ox_ 5 17 fun K hK => ?_
   refine gs_ Try.func54 #[.int .i64 cA] rfl ma_ ?_
   with_reducible refine (laws_markText.calls k1 cA fA _ A5.out).mono ?_
   rintro e w8 ⟨rfl, hb⟩
   refine ⟨_, rfl, ?_⟩
   replace HB := nb_ hb
   (try clear hb)
   (try clear hb2)
   (try clear hk)
   (try clear hi)
   refine hK.out _ _ ((pc_ HB.out hw212_0)) (fun hHeld => ?_)
   clear hK K
   refine no_ ?_
   refine px_ 6 18 ?_
   refine done_ (by kernel_rfl) ?_
   try go_wp2
   go_roundg k1
   case measure => have := mA.out; omega
   case rel => exact ⟨(wrap64 (cA + 1)), (wrap64 (bA + 1)), sr_, sr_, H', ⟨by have := mA.out; omega⟩, ⟨hb_⟩⟩

/-! ### laws_heldBatchS: function 60 -/
def laws_heldBatchS.l0 : Nat → List (S78) → Int → Int → Option (Int)
 | 0, _, _, _ => none
 | k + 1, x0, x1, x5 => if x5 < (x0.length : Int) then (if 0 ≤ x5 then (if ((rd_T78 x0 x5).f0) = x1 then (if ((rd_T78 x0 x5).f1) = (wrap64 (x1 + 1)) then (if ((rd_T78 x0 x5).f2) = (wrap64 ((wrap64 (x1 + 1)) + 1)) then (if ((rd_T78 x0 x5).f3) = (wrap64 ((wrap64 ((wrap64 (x1 + 1)) + 1)) + 1)) then ((laws_heldStringS.f k ((rd_T78 x0 x5).f4) (wrap64 ((wrap64 ((wrap64 ((wrap64 (x1 + 1)) + 1)) + 1)) + 1))).bind fun t219 => (if t219 < 0 then (some (-1)) else (laws_heldBatchS.l0 k x0 t219 (wrap64 (x5 + 1))))) else (some (-1))) else (some (-1))) else (some (-1))) else (some (-1))) else (none)) else (some x1)
def laws_heldBatchS.f (k : Nat) (l0 : List (S78)) (a1 : Int) : Option (Int) := laws_heldBatchS.l0 k l0 a1 0
theorem laws_heldBatchS.mono_l : ∀ k, (∀ y0 y1 y2, LeO (laws_heldBatchS.l0 k y0 y1 y2) (laws_heldBatchS.l0 (k + 1) y0 y1 y2))
 | 0 => fun _ _ _ r h => by simp [laws_heldBatchS.l0] at h
 | k + 1 => by
  have ih0 := laws_heldBatchS.mono_l k
  ·intro y0 y1 y2
   unfold laws_heldBatchS.l0
   repeat' first
   | (with_reducible first | apply ih0 | apply laws_heldStringS.mono | exact LeO.refl _ | exact LeO.none _ | refine LeO.ite ?_ ?_ | refine LeO.bind ?_ (fun _ => ?_))
theorem laws_heldBatchS.mono : ∀ a0 a1 k, LeO (laws_heldBatchS.f k a0 a1) (laws_heldBatchS.f (k + 1) a0 a1) := by
 intro a0 a1 k
 have ih0 := laws_heldBatchS.mono_l k
 unfold laws_heldBatchS.f
 repeat' first
   | (with_reducible first | apply ih0 | apply laws_heldStringS.mono | exact LeO.refl _ | exact LeO.none _ | refine LeO.ite ?_ ?_ | refine LeO.bind ?_ (fun _ => ?_))
set_option maxHeartbeats 8000000 in
set_option maxRecDepth 100000 in
theorem laws_heldBatchS.calls (k : Nat) (A0 : Option Addr) (c0 : Nat) (l0 : List (S78)) (a1 : Int) (r : Int) (w : World) (hr0 : Kd.C k78 w A0 l0.length l0) (hc0 : l0.length ≤ c0) (h : laws_heldBatchS.f k l0 a1 = some r) :
  Calls Try.prog 60 #[.slice A0 l0.length c0, .int .i64 a1] w fun e w' => e = .returned (.int .i64 r) ∧ Below w.heap.size w w' := by
 have dC := am_ hr0
 have oD := am_ hc0
 clear hr0 hc0
 have HB := am_ (Below.refl w.heap.size w)
 have H : (laws_heldBatchS.l0 k l0 a1 0) = some r := h
 clear h
 have H' := am_ H
 clear H
 go_enter Try.func60, Try.ntmps60
 go_wp2
 go_loopg [1, 5] k (fun kq v1 v5 w' => ∃ (yA : Int) (aA : Int), v1 = .int .i64 yA ∧ v5 = .int .i64 aA ∧ Aside0 (laws_heldBatchS.l0 kq l0 yA aA = some r) ∧ Aside0 (kq ≤ k) ∧ Aside0 (Below w.heap.size w w'))
 case atStart => exact ⟨(a1), (0), sr_, sr_, H', ⟨Nat.le_refl _⟩, ⟨hb_⟩⟩
 case round =>
  clear H'
  obtain ⟨yA, aA, rfl, rfl, HA, mD, HB⟩ := hrel
  cases gk with
  | zero => exact absurd HA.out (by simp [laws_heldBatchS.l0])
  | succ k1 =>
   have H := HA.out
   clear HA
   simp only [laws_heldBatchS.l0] at H
   replace H := ite_ H
   obtain ⟨c3, H⟩ | ⟨c3, H⟩ := H
   rotate_left
   ·have dD := decide_eq_false c3
    clear c3
    obtain rfl := Option.some.inj H
    go_wp2
    go_ret
    exact ⟨er_, hb_⟩
   have dD := decide_eq_true c3
   clear c3
   replace H := ifs_ H
   obtain ⟨c4, H⟩ := H
   have nD := decide_eq_true c4
   clear c4
   replace H := ite_ H
   obtain ⟨c5, H⟩ | ⟨c5, H⟩ := H
   rotate_left
   ·have eD : (((rd_T78 l0 aA).f0) == yA) = false := beq_eq_false_iff_ne.mpr c5
    have fD : (((rd_T78 l0 aA).f0) != yA) = true := bne_iff_ne.mpr c5
    obtain rfl := Option.some.inj H
    have zA : 0 ≤ (aA : Int) := oa_
    have aB : aA < (l0.length : Int) := oa_
    obtain ⟨qA, kB, lB, zB, dA, eA, fA, gA, bA, hA, iA⟩ := at_T78 dC.out aA zA aB
    cases zB
    replace dA := pc_ HB.out dA
    replace eA := pc_ HB.out eA
    replace fA := pc_ HB.out fA
    replace gA := pc_ HB.out gA
    replace bA := pc_ HB.out bA
    have oB := am_ iA
    have pB := am_ hA
    clear iA hA
    replace zA := eq_true zA
    replace aB := eq_true aB
    go_wp2
    go_ret
    exact ⟨er_, hb_⟩
   have eD : (((rd_T78 l0 aA).f0) == yA) = true := beq_iff_eq.mpr c5
   have fD : (((rd_T78 l0 aA).f0) != yA) = false := bne_eq_false_iff_eq.mpr c5
   clear c5
   replace H := ite_ H
   obtain ⟨c6, H⟩ | ⟨c6, H⟩ := H
   rotate_left
   ·have gD : (((rd_T78 l0 aA).f1) == (wrap64 (yA + 1))) = false := beq_eq_false_iff_ne.mpr c6
    have hD : (((rd_T78 l0 aA).f1) != (wrap64 (yA + 1))) = true := bne_iff_ne.mpr c6
    obtain rfl := Option.some.inj H
    have zA : 0 ≤ (aA : Int) := oa_
    have aB : aA < (l0.length : Int) := oa_
    obtain ⟨qA, kB, lB, zB, dA, eA, fA, gA, bA, hA, iA⟩ := at_T78 dC.out aA zA aB
    cases zB
    replace dA := pc_ HB.out dA
    replace eA := pc_ HB.out eA
    replace fA := pc_ HB.out fA
    replace gA := pc_ HB.out gA
    replace bA := pc_ HB.out bA
    have oB := am_ iA
    have pB := am_ hA
    clear iA hA
    replace zA := eq_true zA
    replace aB := eq_true aB
    have hB : 0 ≤ (aA : Int) := oa_
    have iB : aA < (l0.length : Int) := oa_
    obtain ⟨qB, eC, fC, gC, kA, lA, mA, nA, cA, oA, pA⟩ := at_T78 dC.out aA hB iB
    obtain rfl : qA = qB := (by injection gC)
    replace kA := pc_ HB.out kA
    replace lA := pc_ HB.out lA
    replace mA := pc_ HB.out mA
    replace nA := pc_ HB.out nA
    replace cA := pc_ HB.out cA
    have xB := am_ pA
    have yB := am_ oA
    clear pA oA
    replace hB := eq_true hB
    replace iB := eq_true iB
    have ea_ := Option.some.inj (bA.symm.trans cA)
    injection ea_ with ea_ en_ ec_
    subst ea_
    subst ec_
    clear en_
    go_wp2
    go_ret
    exact ⟨er_, hb_⟩
   have gD : (((rd_T78 l0 aA).f1) == (wrap64 (yA + 1))) = true := beq_iff_eq.mpr c6
   have hD : (((rd_T78 l0 aA).f1) != (wrap64 (yA + 1))) = false := bne_eq_false_iff_eq.mpr c6
   clear c6
   replace H := ite_ H
   obtain ⟨c7, H⟩ | ⟨c7, H⟩ := H
   rotate_left
   ·have iD : (((rd_T78 l0 aA).f2) == (wrap64 ((wrap64 (yA + 1)) + 1))) = false := beq_eq_false_iff_ne.mpr c7
    have jD : (((rd_T78 l0 aA).f2) != (wrap64 ((wrap64 (yA + 1)) + 1))) = true := bne_iff_ne.mpr c7
    obtain rfl := Option.some.inj H
    have zA : 0 ≤ (aA : Int) := oa_
    have aB : aA < (l0.length : Int) := oa_
    obtain ⟨qA, kB, lB, zB, dA, eA, fA, gA, bA, hA, iA⟩ := at_T78 dC.out aA zA aB
    cases zB
    replace dA := pc_ HB.out dA
    replace eA := pc_ HB.out eA
    replace fA := pc_ HB.out fA
    replace gA := pc_ HB.out gA
    replace bA := pc_ HB.out bA
    have oB := am_ iA
    have pB := am_ hA
    clear iA hA
    replace zA := eq_true zA
    replace aB := eq_true aB
    have hB : 0 ≤ (aA : Int) := oa_
    have iB : aA < (l0.length : Int) := oa_
    obtain ⟨qB, eC, fC, gC, kA, lA, mA, nA, cA, oA, pA⟩ := at_T78 dC.out aA hB iB
    obtain rfl : qA = qB := (by injection gC)
    replace kA := pc_ HB.out kA
    replace lA := pc_ HB.out lA
    replace mA := pc_ HB.out mA
    replace nA := pc_ HB.out nA
    replace cA := pc_ HB.out cA
    have xB := am_ pA
    have yB := am_ oA
    clear pA oA
    replace hB := eq_true hB
    replace iB := eq_true iB
    have ea_ := Option.some.inj (bA.symm.trans cA)
    injection ea_ with ea_ en_ ec_
    subst ea_
    subst ec_
    clear en_
    have mB : 0 ≤ (aA : Int) := oa_
    have nB : aA < (l0.length : Int) := oa_
    obtain ⟨aC, mC, nC, oC, rA, sA, tA, uA, jA, vA, wA⟩ := at_T78 dC.out aA mB nB
    obtain rfl : qA = aC := (by injection oC)
    replace rA := pc_ HB.out rA
    replace sA := pc_ HB.out sA
    replace tA := pc_ HB.out tA
    replace uA := pc_ HB.out uA
    replace jA := pc_ HB.out jA
    have hC := am_ wA
    have iC := am_ vA
    clear wA vA
    replace mB := eq_true mB
    replace nB := eq_true nB
    have ea_ := Option.some.inj (bA.symm.trans jA)
    injection ea_ with ea_ en_ ec_
    subst ea_
    subst ec_
    clear en_
    go_wp2
    go_ret
    exact ⟨er_, hb_⟩
   have iD : (((rd_T78 l0 aA).f2) == (wrap64 ((wrap64 (yA + 1)) + 1))) = true := beq_iff_eq.mpr c7
   have jD : (((rd_T78 l0 aA).f2) != (wrap64 ((wrap64 (yA + 1)) + 1))) = false := bne_eq_false_iff_eq.mpr c7
   clear c7
   replace H := ite_ H
   obtain ⟨c8, H⟩ | ⟨c8, H⟩ := H
   rotate_left
   ·have kD : (((rd_T78 l0 aA).f3) == (wrap64 ((wrap64 ((wrap64 (yA + 1)) + 1)) + 1))) = false := beq_eq_false_iff_ne.mpr c8
    have lD : (((rd_T78 l0 aA).f3) != (wrap64 ((wrap64 ((wrap64 (yA + 1)) + 1)) + 1))) = true := bne_iff_ne.mpr c8
    obtain rfl := Option.some.inj H
    have zA : 0 ≤ (aA : Int) := oa_
    have aB : aA < (l0.length : Int) := oa_
    obtain ⟨qA, kB, lB, zB, dA, eA, fA, gA, bA, hA, iA⟩ := at_T78 dC.out aA zA aB
    cases zB
    replace dA := pc_ HB.out dA
    replace eA := pc_ HB.out eA
    replace fA := pc_ HB.out fA
    replace gA := pc_ HB.out gA
    replace bA := pc_ HB.out bA
    have oB := am_ iA
    have pB := am_ hA
    clear iA hA
    replace zA := eq_true zA
    replace aB := eq_true aB
    have hB : 0 ≤ (aA : Int) := oa_
    have iB : aA < (l0.length : Int) := oa_
    obtain ⟨qB, eC, fC, gC, kA, lA, mA, nA, cA, oA, pA⟩ := at_T78 dC.out aA hB iB
    obtain rfl : qA = qB := (by injection gC)
    replace kA := pc_ HB.out kA
    replace lA := pc_ HB.out lA
    replace mA := pc_ HB.out mA
    replace nA := pc_ HB.out nA
    replace cA := pc_ HB.out cA
    have xB := am_ pA
    have yB := am_ oA
    clear pA oA
    replace hB := eq_true hB
    replace iB := eq_true iB
    have ea_ := Option.some.inj (bA.symm.trans cA)
    injection ea_ with ea_ en_ ec_
    subst ea_
    subst ec_
    clear en_
    have mB : 0 ≤ (aA : Int) := oa_
    have nB : aA < (l0.length : Int) := oa_
    obtain ⟨aC, mC, nC, oC, rA, sA, tA, uA, jA, vA, wA⟩ := at_T78 dC.out aA mB nB
    obtain rfl : qA = aC := (by injection oC)
    replace rA := pc_ HB.out rA
    replace sA := pc_ HB.out sA
    replace tA := pc_ HB.out tA
    replace uA := pc_ HB.out uA
    replace jA := pc_ HB.out jA
    have hC := am_ wA
    have iC := am_ vA
    clear wA vA
    replace mB := eq_true mB
    replace nB := eq_true nB
    have ea_ := Option.some.inj (bA.symm.trans jA)
    injection ea_ with ea_ en_ ec_
    subst ea_
    subst ec_
    clear en_
    have bC : 0 ≤ (aA : Int) := oa_
    have cC : aA < (l0.length : Int) := oa_
    obtain ⟨lC, tC, uC, vC, bB, cB, dB, eB, xA, fB, gB⟩ := at_T78 dC.out aA bC cC
    obtain rfl : qA = lC := (by injection vC)
    replace bB := pc_ HB.out bB
    replace cB := pc_ HB.out cB
    replace dB := pc_ HB.out dB
    replace eB := pc_ HB.out eB
    replace xA := pc_ HB.out xA
    have rC := am_ gB
    have sC := am_ fB
    clear gB fB
    replace bC := eq_true bC
    replace cC := eq_true cC
    have ea_ := Option.some.inj (bA.symm.trans xA)
    injection ea_ with ea_ en_ ec_
    subst ea_
    subst ec_
    clear en_
    go_wp2
    go_ret
    exact ⟨er_, hb_⟩
   have kD : (((rd_T78 l0 aA).f3) == (wrap64 ((wrap64 ((wrap64 (yA + 1)) + 1)) + 1))) = true := beq_iff_eq.mpr c8
   have lD : (((rd_T78 l0 aA).f3) != (wrap64 ((wrap64 ((wrap64 (yA + 1)) + 1)) + 1))) = false := bne_eq_false_iff_eq.mpr c8
   clear c8
   replace H := bnd_ H
   obtain ⟨xC, A9, H⟩ := H
   replace H := ite_ H
   obtain ⟨bD, H⟩ | ⟨bD, H⟩ := H
   ·have cD := decide_eq_true bD
    clear bD
    obtain rfl := Option.some.inj H
    have zA : 0 ≤ (aA : Int) := oa_
    have aB : aA < (l0.length : Int) := oa_
    obtain ⟨qA, kB, lB, zB, dA, eA, fA, gA, bA, hA, iA⟩ := at_T78 dC.out aA zA aB
    cases zB
    replace dA := pc_ HB.out dA
    replace eA := pc_ HB.out eA
    replace fA := pc_ HB.out fA
    replace gA := pc_ HB.out gA
    replace bA := pc_ HB.out bA
    have oB := am_ iA
    have pB := am_ hA
    clear iA hA
    replace zA := eq_true zA
    replace aB := eq_true aB
    have hB : 0 ≤ (aA : Int) := oa_
    have iB : aA < (l0.length : Int) := oa_
    obtain ⟨qB, eC, fC, gC, kA, lA, mA, nA, cA, oA, pA⟩ := at_T78 dC.out aA hB iB
    obtain rfl : qA = qB := (by injection gC)
    replace kA := pc_ HB.out kA
    replace lA := pc_ HB.out lA
    replace mA := pc_ HB.out mA
    replace nA := pc_ HB.out nA
    replace cA := pc_ HB.out cA
    have xB := am_ pA
    have yB := am_ oA
    clear pA oA
    replace hB := eq_true hB
    replace iB := eq_true iB
    have ea_ := Option.some.inj (bA.symm.trans cA)
    injection ea_ with ea_ en_ ec_
    subst ea_
    subst ec_
    clear en_
    have mB : 0 ≤ (aA : Int) := oa_
    have nB : aA < (l0.length : Int) := oa_
    obtain ⟨aC, mC, nC, oC, rA, sA, tA, uA, jA, vA, wA⟩ := at_T78 dC.out aA mB nB
    obtain rfl : qA = aC := (by injection oC)
    replace rA := pc_ HB.out rA
    replace sA := pc_ HB.out sA
    replace tA := pc_ HB.out tA
    replace uA := pc_ HB.out uA
    replace jA := pc_ HB.out jA
    have hC := am_ wA
    have iC := am_ vA
    clear wA vA
    replace mB := eq_true mB
    replace nB := eq_true nB
    have ea_ := Option.some.inj (bA.symm.trans jA)
    injection ea_ with ea_ en_ ec_
    subst ea_
    subst ec_
    clear en_
    have bC : 0 ≤ (aA : Int) := oa_
    have cC : aA < (l0.length : Int) := oa_
    obtain ⟨lC, tC, uC, vC, bB, cB, dB, eB, xA, fB, gB⟩ := at_T78 dC.out aA bC cC
    obtain rfl : qA = lC := (by injection vC)
    replace bB := pc_ HB.out bB
    replace cB := pc_ HB.out cB
    replace dB := pc_ HB.out dB
    replace eB := pc_ HB.out eB
    replace xA := pc_ HB.out xA
    have rC := am_ gB
    have sC := am_ fB
    clear gB fB
    replace bC := eq_true bC
    replace cC := eq_true cC
    have ea_ := Option.some.inj (bA.symm.trans xA)
    injection ea_ with ea_ en_ ec_
    subst ea_
    subst ec_
    clear en_
    have pC : 0 ≤ (aA : Int) := oa_
    have qC : aA < (l0.length : Int) := oa_
    obtain ⟨wC, yC, zC, aD, rB, sB, tB, uB, jB, vB, wB⟩ := at_T78 dC.out aA pC qC
    obtain rfl : qA = wC := (by injection aD)
    replace rB := pc_ HB.out rB
    replace sB := pc_ HB.out sB
    replace tB := pc_ HB.out tB
    replace uB := pc_ HB.out uB
    replace jB := pc_ HB.out jB
    have jC := am_ wB
    have kC := am_ vB
    clear wB vB
    replace pC := eq_true pC
    replace qC := eq_true qC
    have ea_ := Option.some.inj (bA.symm.trans jB)
    injection ea_ with ea_ en_ ec_
    subst ea_
    subst ec_
    clear en_
    go_wp2_with (first | ((with_reducible refine gate_callee (f := 18) rfl ?_); refine gl_ 54 Try.func18 #[.slice kB ((rd_T78 l0 aA).f4).length lB, .int .i64 (wrap64 ((wrap64 ((wrap64 ((wrap64 (yA + 1)) + 1)) + 1)) + 1))] rfl ma_ ?_; (with_reducible refine (laws_heldStringS.calls k1 _ _ ((rd_T78 l0 aA).f4) (wrap64 ((wrap64 ((wrap64 ((wrap64 (yA + 1)) + 1)) + 1)) + 1)) xC _ ?side1 ?side2 A9.out).mono ?_); (case side1 => exact cs_ ((Kd.C_below jC.out HB.out))); (case side2 => exact kC.out); rintro e pD ⟨rfl, hb⟩; refine ⟨_, rfl, ?_⟩; replace HB := nb_ hb; (try clear hb); (try clear hb2); (try clear hk); (try clear hi)))
    go_ret
    exact ⟨er_, hb_⟩
   have cD := decide_eq_false bD
   clear bD
   have H' := am_ H
   clear H
   have zA : 0 ≤ (aA : Int) := oa_
   have aB : aA < (l0.length : Int) := oa_
   obtain ⟨qA, kB, lB, zB, dA, eA, fA, gA, bA, hA, iA⟩ := at_T78 dC.out aA zA aB
   cases zB
   replace dA := pc_ HB.out dA
   replace eA := pc_ HB.out eA
   replace fA := pc_ HB.out fA
   replace gA := pc_ HB.out gA
   replace bA := pc_ HB.out bA
   have oB := am_ iA
   have pB := am_ hA
   clear iA hA
   replace zA := eq_true zA
   replace aB := eq_true aB
   have hB : 0 ≤ (aA : Int) := oa_
   have iB : aA < (l0.length : Int) := oa_
   obtain ⟨qB, eC, fC, gC, kA, lA, mA, nA, cA, oA, pA⟩ := at_T78 dC.out aA hB iB
   obtain rfl : qA = qB := (by injection gC)
   replace kA := pc_ HB.out kA
   replace lA := pc_ HB.out lA
   replace mA := pc_ HB.out mA
   replace nA := pc_ HB.out nA
   replace cA := pc_ HB.out cA
   have xB := am_ pA
   have yB := am_ oA
   clear pA oA
   replace hB := eq_true hB
   replace iB := eq_true iB
   have ea_ := Option.some.inj (bA.symm.trans cA)
   injection ea_ with ea_ en_ ec_
   subst ea_
   subst ec_
   clear en_
   have mB : 0 ≤ (aA : Int) := oa_
   have nB : aA < (l0.length : Int) := oa_
   obtain ⟨aC, mC, nC, oC, rA, sA, tA, uA, jA, vA, wA⟩ := at_T78 dC.out aA mB nB
   obtain rfl : qA = aC := (by injection oC)
   replace rA := pc_ HB.out rA
   replace sA := pc_ HB.out sA
   replace tA := pc_ HB.out tA
   replace uA := pc_ HB.out uA
   replace jA := pc_ HB.out jA
   have hC := am_ wA
   have iC := am_ vA
   clear wA vA
   replace mB := eq_true mB
   replace nB := eq_true nB
   have ea_ := Option.some.inj (bA.symm.trans jA)
   injection ea_ with ea_ en_ ec_
   subst ea_
   subst ec_
   clear en_
   have bC : 0 ≤ (aA : Int) := oa_
   have cC : aA < (l0.length : Int) := oa_
   obtain ⟨lC, tC, uC, vC, bB, cB, dB, eB, xA, fB, gB⟩ := at_T78 dC.out aA bC cC
   obtain rfl : qA = lC := (by injection vC)
   replace bB := pc_ HB.out bB
   replace cB := pc_ HB.out cB
   replace dB := pc_ HB.out dB
   replace eB := pc_ HB.out eB
   replace xA := pc_ HB.out xA
   have rC := am_ gB
   have sC := am_ fB
   clear gB fB
   replace bC := eq_true bC
   replace cC := eq_true cC
   have ea_ := Option.some.inj (bA.symm.trans xA)
   injection ea_ with ea_ en_ ec_
   subst ea_
   subst ec_
   clear en_
   have pC : 0 ≤ (aA : Int) := oa_
   have qC : aA < (l0.length : Int) := oa_
   obtain ⟨wC, yC, zC, aD, rB, sB, tB, uB, jB, vB, wB⟩ := at_T78 dC.out aA pC qC
   obtain rfl : qA = wC := (by injection aD)
   replace rB := pc_ HB.out rB
   replace sB := pc_ HB.out sB
   replace tB := pc_ HB.out tB
   replace uB := pc_ HB.out uB
   replace jB := pc_ HB.out jB
   have jC := am_ wB
   have kC := am_ vB
   clear wB vB
   replace pC := eq_true pC
   replace qC := eq_true qC
   have ea_ := Option.some.inj (bA.symm.trans jB)
   injection ea_ with ea_ en_ ec_
   subst ea_
   subst ec_
   clear en_
   go_wp2_with (first | ((with_reducible refine gate_callee (f := 18) rfl ?_); refine gl_ 54 Try.func18 #[.slice kB ((rd_T78 l0 aA).f4).length lB, .int .i64 (wrap64 ((wrap64 ((wrap64 ((wrap64 (yA + 1)) + 1)) + 1)) + 1))] rfl ma_ ?_; (with_reducible refine (laws_heldStringS.calls k1 _ _ ((rd_T78 l0 aA).f4) (wrap64 ((wrap64 ((wrap64 ((wrap64 (yA + 1)) + 1)) + 1)) + 1)) xC _ ?side1 ?side2 A9.out).mono ?_); (case side1 => exact cs_ ((Kd.C_below jC.out HB.out))); (case side2 => exact kC.out); rintro e qD ⟨rfl, hb⟩; refine ⟨_, rfl, ?_⟩; replace HB := nb_ hb; (try clear hb); (try clear hb2); (try clear hk); (try clear hi)))
   go_roundg k1
   case measure => have := mD.out; omega
   case rel => exact ⟨(xC), (wrap64 (aA + 1)), sr_, sr_, H', ⟨by have := mD.out; omega⟩, ⟨hb_⟩⟩

/-! ### laws_heldPart: function 27 -/
def laws_heldPart.f (k : Nat) (l0_0 : List (S81)) (l0_1 : List (S78)) (a0_2 : Int) (a1 : Int) : Option (Int) := (laws_heldProducerS.f k l0_0 a1).bind fun t221 => (if t221 < 0 then (some (-1)) else ((laws_heldBatchS.f k l0_1 t221).bind fun t222 => (if t222 < 0 then (some (-1)) else (some t222))))
theorem laws_heldPart.mono : ∀ a0 a1 a2 a3 k, LeO (laws_heldPart.f k a0 a1 a2 a3) (laws_heldPart.f (k + 1) a0 a1 a2 a3) := by
 intro a0 a1 a2 a3 k
 unfold laws_heldPart.f
 repeat' first
   | (with_reducible first | apply laws_heldBatchS.mono | apply laws_heldProducerS.mono | exact LeO.refl _ | exact LeO.none _ | refine LeO.ite ?_ ?_ | refine LeO.bind ?_ (fun _ => ?_))
set_option maxHeartbeats 8000000 in
set_option maxRecDepth 100000 in
theorem laws_heldPart.calls (k : Nat) (A0_0 : Option Addr) (c0_0 : Nat) (l0_0 : List (S81)) (A0_1 : Option Addr) (c0_1 : Nat) (l0_1 : List (S78)) (a0_2 : Int) (a1 : Int) (r : Int) (w : World) (hr0_0 : Kd.C k81 w A0_0 l0_0.length l0_0) (hc0_0 : l0_0.length ≤ c0_0) (hr0_1 : Kd.C k78 w A0_1 l0_1.length l0_1) (hc0_1 : l0_1.length ≤ c0_1) (h : laws_heldPart.f k l0_0 l0_1 a0_2 a1 = some r) :
  Calls Try.prog 27 #[.agg #[.slice A0_0 l0_0.length c0_0, .slice A0_1 l0_1.length c0_1, .int .i64 a0_2], .int .i64 a1] w fun e w' => e = .returned (.int .i64 r) ∧ Below w.heap.size w w' := by
 have hu33 := Try.underlying33
 have dA := am_ hr0_0
 have eA := am_ hc0_0
 clear hr0_0 hc0_0
 have gA := am_ hr0_1
 have hA := am_ hc0_1
 clear hr0_1 hc0_1
 have HB := am_ (Below.refl w.heap.size w)
 have H : ((laws_heldProducerS.f k l0_0 a1).bind fun cA => (if cA < 0 then (some (-1)) else ((laws_heldBatchS.f k l0_1 cA).bind fun fA => (if fA < 0 then (some (-1)) else (some fA))))) = some r := h
 clear h
 replace H := bnd_ H
 obtain ⟨cA, A3, H⟩ := H
 replace H := ite_ H
 obtain ⟨c4, H⟩ | ⟨c4, H⟩ := H
 ·have vA := decide_eq_true c4
  clear c4
  obtain rfl := Option.some.inj H
  go_enter Try.func27, Try.ntmps27
  go_wp2_with (first | ((with_reducible refine gate_dst (N := 2) rfl ?_); refine bq_ (N := 2) #[.slice A0_0 l0_0.length c0_0, .slice A0_1 l0_1.length c0_1, .int .i64 a0_2] 33 ?_; intro iA hg w5 aA hb; have bA := ge_ hg; replace HB := nb_ hb; clear hb hg; obtain ⟨wA, xA, yA, zA, aB, bB⟩ := cf3_ aA.out) | ((with_reducible refine gate_callee (f := 59) rfl ?_); refine gl_ 8 Try.func59 #[.slice A0_0 l0_0.length c0_0, .int .i64 a1] rfl ma_ ?_; (with_reducible refine (laws_heldProducerS.calls k _ _ l0_0 a1 cA _ ?side1 ?side2 A3.out).mono ?_); (case side1 => exact cs_ ((Kd.C_below dA.out HB.out))); (case side2 => exact eA.out); rintro e w' ⟨rfl, ⟨nd, rfl⟩⟩; refine ⟨_, rfl, ?_⟩))
  go_ret
  exact ⟨er_, hs_ bA.out⟩
 have vA := decide_eq_false c4
 clear c4
 replace H := bnd_ H
 obtain ⟨fA, A7, H⟩ := H
 replace H := ite_ H
 obtain ⟨c8, H⟩ | ⟨c8, H⟩ := H
 ·have cB := decide_eq_true c8
  clear c8
  obtain rfl := Option.some.inj H
  go_enter Try.func27, Try.ntmps27
  go_wp2_with (first | ((with_reducible refine gate_dst (N := 2) rfl ?_); refine bq_ (N := 2) #[.slice A0_0 l0_0.length c0_0, .slice A0_1 l0_1.length c0_1, .int .i64 a0_2] 33 ?_; intro iA hg w9 aA hb; have bA := ge_ hg; replace HB := nb_ hb; clear hb hg; obtain ⟨jA, kA, lA, mA, nA, oA⟩ := cf3_ aA.out) | ((with_reducible refine gate_callee (f := 59) rfl ?_); refine gl_ 8 Try.func59 #[.slice A0_0 l0_0.length c0_0, .int .i64 a1] rfl ma_ ?_; (with_reducible refine (laws_heldProducerS.calls k _ _ l0_0 a1 cA _ ?side1 ?side2 A3.out).mono ?_); (case side1 => exact cs_ ((Kd.C_below dA.out HB.out))); (case side2 => exact eA.out); rintro e w' ⟨rfl, ⟨nd, rfl⟩⟩; refine ⟨_, rfl, ?_⟩) | ((with_reducible refine gate_callee (f := 60) rfl ?_); refine gl_ 14 Try.func60 #[.slice A0_1 l0_1.length c0_1, .int .i64 cA] rfl ma_ ?_; (with_reducible refine (laws_heldBatchS.calls k _ _ l0_1 cA fA _ ?side1 ?side2 A7.out).mono ?_); (case side1 => exact cs_ ((Kd.C_below gA.out (hs_ bA.out)))); (case side2 => exact hA.out); rintro e dB ⟨rfl, hb⟩; refine ⟨_, rfl, ?_⟩; replace aA := bK_ aA hb; replace HB := nc_ bA hb; (try clear hb); (try clear hb2); (try clear hk); (try clear hi)))
  go_ret
  exact ⟨er_, hs_ bA.out⟩
 have cB := decide_eq_false c8
 clear c8
 obtain rfl := Option.some.inj H
 go_enter Try.func27, Try.ntmps27
 go_wp2_with (first | ((with_reducible refine gate_dst (N := 2) rfl ?_); refine bq_ (N := 2) #[.slice A0_0 l0_0.length c0_0, .slice A0_1 l0_1.length c0_1, .int .i64 a0_2] 33 ?_; intro iA hg eB aA hb; have bA := ge_ hg; replace HB := nb_ hb; clear hb hg; obtain ⟨pA, qA, rA, sA, tA, uA⟩ := cf3_ aA.out) | ((with_reducible refine gate_callee (f := 59) rfl ?_); refine gl_ 8 Try.func59 #[.slice A0_0 l0_0.length c0_0, .int .i64 a1] rfl ma_ ?_; (with_reducible refine (laws_heldProducerS.calls k _ _ l0_0 a1 cA _ ?side1 ?side2 A3.out).mono ?_); (case side1 => exact cs_ ((Kd.C_below dA.out HB.out))); (case side2 => exact eA.out); rintro e w' ⟨rfl, ⟨nd, rfl⟩⟩; refine ⟨_, rfl, ?_⟩) | ((with_reducible refine gate_callee (f := 60) rfl ?_); refine gl_ 14 Try.func60 #[.slice A0_1 l0_1.length c0_1, .int .i64 cA] rfl ma_ ?_; (with_reducible refine (laws_heldBatchS.calls k _ _ l0_1 cA fA _ ?side1 ?side2 A7.out).mono ?_); (case side1 => exact cs_ ((Kd.C_below gA.out (hs_ bA.out)))); (case side2 => exact hA.out); rintro e fB ⟨rfl, hb⟩; refine ⟨_, rfl, ?_⟩; replace aA := bK_ aA hb; replace HB := nc_ bA hb; (try clear hb); (try clear hb2); (try clear hk); (try clear hi)))
 go_ret
 exact ⟨er_, hs_ bA.out⟩

/-! ### laws_szAsk: function 29 -/
def laws_szAsk.f (k : Nat) (a0_0 : Int) (a0_1 : Int) (a0_2 : Int) (l0_3 : List ByteArray) (a1 : Int) : Option (Int) := (laws_szStringS.f k l0_3 a1).bind fun t224 => (if t224 < 0 then (some (-1)) else (some t224))
theorem laws_szAsk.mono : ∀ a0 a1 a2 a3 a4 k, LeO (laws_szAsk.f k a0 a1 a2 a3 a4) (laws_szAsk.f (k + 1) a0 a1 a2 a3 a4) := by
 intro a0 a1 a2 a3 a4 k
 unfold laws_szAsk.f
 repeat' first
   | (with_reducible first | apply laws_szStringS.mono | exact LeO.refl _ | exact LeO.none _ | refine LeO.ite ?_ ?_ | refine LeO.bind ?_ (fun _ => ?_))
set_option maxHeartbeats 8000000 in
set_option maxRecDepth 100000 in
theorem laws_szAsk.calls (k : Nat) (a0_0 : Int) (a0_1 : Int) (a0_2 : Int) (A0_3 : Option Addr) (c0_3 : Nat) (l0_3 : List ByteArray) (a1 : Int) (r : Int) (w : World) (hr0_3 : Kd.C Kd.string w A0_3 l0_3.length l0_3) (hc0_3 : l0_3.length ≤ c0_3) (h : laws_szAsk.f k a0_0 a0_1 a0_2 l0_3 a1 = some r) :
  Calls Try.prog 29 #[.agg #[.int .i64 a0_0, .int .i64 a0_1, .int .i64 a0_2, .slice A0_3 l0_3.length c0_3], .int .i64 a1] w fun e w' => e = .returned (.int .i64 r) ∧ Below w.heap.size w w' := by
 have hu53 := Try.underlying53
 have dA := am_ hr0_3
 have eA := am_ hc0_3
 clear hr0_3 hc0_3
 have HB := am_ (Below.refl w.heap.size w)
 have H : ((laws_szStringS.f k l0_3 a1).bind fun aA => (if aA < 0 then (some (-1)) else (some aA))) = some r := h
 clear h
 replace H := bnd_ H
 obtain ⟨aA, A3, H⟩ := H
 replace H := ite_ H
 obtain ⟨c4, H⟩ | ⟨c4, H⟩ := H
 ·have gA := decide_eq_true c4
  clear c4
  obtain rfl := Option.some.inj H
  go_enter Try.func29, Try.ntmps29
  go_wp2_with (first | ((with_reducible refine gate_dst (N := 2) rfl ?_); refine bq_ (N := 2) #[.int .i64 a0_0, .int .i64 a0_1, .int .i64 a0_2, .slice A0_3 l0_3.length c0_3] 53 ?_; intro fA hg w5 bA hb; have cA := ge_ hg; replace HB := nb_ hb; clear hb hg; obtain ⟨hA, iA, jA, kA, lA, mA, nA, oA⟩ := cf4_ bA.out) | ((with_reducible refine gate_callee (f := 61) rfl ?_); refine gl_ 8 Try.func61 #[.slice A0_3 l0_3.length c0_3, .int .i64 a1] rfl ma_ ?_; (with_reducible refine (laws_szStringS.calls k _ _ l0_3 a1 aA _ ?side1 ?side2 A3.out).mono ?_); (case side1 => exact cs_ ((Kd.C_below dA.out HB.out))); (case side2 => exact eA.out); rintro e w' ⟨rfl, ⟨nd, rfl⟩⟩; refine ⟨_, rfl, ?_⟩))
  go_ret
  exact ⟨er_, hs_ cA.out⟩
 have gA := decide_eq_false c4
 clear c4
 obtain rfl := Option.some.inj H
 go_enter Try.func29, Try.ntmps29
 go_wp2_with (first | ((with_reducible refine gate_dst (N := 2) rfl ?_); refine bq_ (N := 2) #[.int .i64 a0_0, .int .i64 a0_1, .int .i64 a0_2, .slice A0_3 l0_3.length c0_3] 53 ?_; intro fA hg w7 bA hb; have cA := ge_ hg; replace HB := nb_ hb; clear hb hg; obtain ⟨pA, qA, rA, sA, tA, uA, vA, wA⟩ := cf4_ bA.out) | ((with_reducible refine gate_callee (f := 61) rfl ?_); refine gl_ 8 Try.func61 #[.slice A0_3 l0_3.length c0_3, .int .i64 a1] rfl ma_ ?_; (with_reducible refine (laws_szStringS.calls k _ _ l0_3 a1 aA _ ?side1 ?side2 A3.out).mono ?_); (case side1 => exact cs_ ((Kd.C_below dA.out HB.out))); (case side2 => exact eA.out); rintro e w' ⟨rfl, ⟨nd, rfl⟩⟩; refine ⟨_, rfl, ?_⟩))
 go_ret
 exact ⟨er_, hs_ cA.out⟩
/-! ### spec_l1In: function 82 -/
def spec_l1In.f (a0 : Int) (a1 : Int) (a2 : Int) : Option (Bool) := if a0 ≥ a1 then (some (decide (a0 ≤ a2))) else (some false)
set_option maxHeartbeats 8000000 in
set_option maxRecDepth 100000 in
theorem spec_l1In.calls (a0 : Int) (a1 : Int) (a2 : Int) (r : Bool) (w : World) (h : spec_l1In.f a0 a1 a2 = some r) :
  Calls Try.prog 82 #[.int .i64 a0, .int .i64 a1, .int .i64 a2] w fun e w' => e = .returned (.bool r) ∧ Drawn0 w w' := by
 have H : (if a0 ≥ a1 then (some (decide (a0 ≤ a2))) else (some false)) = some r := h
 clear h
 replace H := ite_ H
 obtain ⟨c4, H⟩ | ⟨c4, H⟩ := H
 rotate_left
 ·have aA := dne_ c4
  clear c4
  obtain rfl := Option.some.inj H
  go_enter Try.func82, Try.ntmps82
  go_wp2
  go_ret
  exact ⟨by first | rfl | (simp; done) | (simp [*]; done), dr_⟩
 have aA := dge_ c4
 clear c4
 obtain rfl := Option.some.inj H
 go_enter Try.func82, Try.ntmps82
 go_wp2
 go_ret
 exact ⟨by first | rfl | (simp; done) | (simp [*]; done), dr_⟩

/-! ### spec_GoodBatch: function 55 -/
def spec_GoodBatch.l0 : Nat → List ByteArray → Int → Int → Int → Int → Int → Int → List ByteArray → Option (Bool)
 | 0, _, _, _, _, _, _, _, _ => none
 | k + 1, x6, x7, x8, x226000, x226001, x226002, x226003, x226004 => if x8 < x7 then (if 0 ≤ x8 then (if x8 < (x6.length : Int) then (if ((rdOf ByteArray.empty x6 x8).size : Int) > 20 then (some false) else (spec_GoodBatch.l0 k x6 x7 (wrap64 (x8 + 1)) x226000 x226001 x226002 x226003 x226004)) else (none)) else (none)) else ((spec_l1In.f x226000 0 100000).bind fun t227 => (if t227 = true then ((spec_l1In.f x226001 0 1000).bind fun t228 => (if t228 = true then ((spec_l1In.f x226002 0 65535).bind fun t229 => (if t229 = true then ((spec_l1In.f x226003 0 65535).bind fun t230 => (if t230 = true then ((spec_l1In.f (x226004.length : Int) 1 8).bind fun t231 => (some t231)) else (some false))) else (some false))) else (some false))) else (some false)))
def spec_GoodBatch.f (k : Nat) (a0_0 : Int) (a0_1 : Int) (a0_2 : Int) (a0_3 : Int) (l0_4 : List ByteArray) : Option (Bool) := spec_GoodBatch.l0 k l0_4 (l0_4.length : Int) 0 a0_0 a0_1 a0_2 a0_3 l0_4
theorem spec_GoodBatch.mono_l : ∀ k, (∀ y0 y1 y2 y3 y4 y5 y6 y7, LeO (spec_GoodBatch.l0 k y0 y1 y2 y3 y4 y5 y6 y7) (spec_GoodBatch.l0 (k + 1) y0 y1 y2 y3 y4 y5 y6 y7))
 | 0 => fun _ _ _ _ _ _ _ _ r h => by simp [spec_GoodBatch.l0] at h
 | k + 1 => by
  have ih0 := spec_GoodBatch.mono_l k
  ·intro y0 y1 y2 y3 y4 y5 y6 y7
   unfold spec_GoodBatch.l0
   repeat' first
   | (with_reducible first | apply ih0 | exact LeO.refl _ | exact LeO.none _ | refine LeO.ite ?_ ?_ | refine LeO.bind ?_ (fun _ => ?_))
theorem spec_GoodBatch.mono : ∀ a0 a1 a2 a3 a4 k, LeO (spec_GoodBatch.f k a0 a1 a2 a3 a4) (spec_GoodBatch.f (k + 1) a0 a1 a2 a3 a4) := by
 intro a0 a1 a2 a3 a4 k
 have ih0 := spec_GoodBatch.mono_l k
 unfold spec_GoodBatch.f
 repeat' first
   | (with_reducible first | apply ih0 | exact LeO.refl _ | exact LeO.none _ | refine LeO.ite ?_ ?_ | refine LeO.bind ?_ (fun _ => ?_))
set_option maxHeartbeats 8000000 in
set_option maxRecDepth 100000 in
theorem spec_GoodBatch.calls (k : Nat) (a0_0 : Int) (a0_1 : Int) (a0_2 : Int) (a0_3 : Int) (A0_4 : Option Addr) (c0_4 : Nat) (l0_4 : List ByteArray) (r : Bool) (w : World) (hr0_4 : Kd.C Kd.string w A0_4 l0_4.length l0_4) (hc0_4 : l0_4.length ≤ c0_4) (h : spec_GoodBatch.f k a0_0 a0_1 a0_2 a0_3 l0_4 = some r) :
  Calls Try.prog 55 #[.agg #[.int .i64 a0_0, .int .i64 a0_1, .int .i64 a0_2, .int .i64 a0_3, .slice A0_4 l0_4.length c0_4]] w fun e w' => e = .returned (.bool r) ∧ Below w.heap.size w w' := by
 have hu78 := Try.underlying78
 have gA := am_ hr0_4
 have zC := am_ hc0_4
 clear hr0_4 hc0_4
 have HB := am_ (Below.refl w.heap.size w)
 have H : (spec_GoodBatch.l0 k l0_4 (l0_4.length : Int) 0 a0_0 a0_1 a0_2 a0_3 l0_4) = some r := h
 clear h
 have H' := am_ H
 clear H
 go_enter Try.func55, Try.ntmps55
 go_wp2_with (first | ((with_reducible refine gate_dst (N := 1) rfl ?_); (try (refine gate_guard (by rfl) ?_; dsimp only)); refine bq_ (N := 1) #[.int .i64 a0_0, .int .i64 a0_1, .int .i64 a0_2, .int .i64 a0_3, .slice A0_4 l0_4.length c0_4] 78 ?_; intro sA hg w2 aA hb; have cA := ge_ hg; replace HB := nb_ hb; clear hb hg; obtain ⟨hA, iA, jA, kA, lA, mA, nA, oA, pA, qA⟩ := cf5_ aA.out))
 go_loopg [8] k (fun kq v8 w' => ∃ (dA : Int), v8 = .int .i64 dA ∧ Aside0 (spec_GoodBatch.l0 kq l0_4 (l0_4.length : Int) dA a0_0 a0_1 a0_2 a0_3 l0_4 = some r) ∧ Aside0 (kq ≤ k) ∧ Aside0 (w'.heap[sA]? = some (.cells #[.int .i64 a0_0, .int .i64 a0_1, .int .i64 a0_2, .int .i64 a0_3, (.slice A0_4 l0_4.length c0_4)] 78 (0, 0))) ∧ Aside0 (Below w.heap.size w w'))
 case atStart => exact ⟨(0), sr_, H', ⟨Nat.le_refl _⟩, ⟨kb_ aA.out⟩, ⟨hs_ cA.out⟩⟩
 case round =>
  clear H'
  try clear hA
  try clear iA
  try clear jA
  try clear kA
  try clear lA
  try clear mA
  try clear nA
  try clear oA
  try clear pA
  try clear qA
  obtain ⟨dA, rfl, HA, aD, aA, HB⟩ := hrel
  cases gk with
  | zero => exact absurd HA.out (by simp [spec_GoodBatch.l0])
  | succ k1 =>
   have H := HA.out
   clear HA
   simp only [spec_GoodBatch.l0] at H
   replace H := ite_ H
   obtain ⟨c4, H⟩ | ⟨c4, H⟩ := H
   ·have uC := decide_eq_true c4
    clear c4
    replace H := ifs_ H
    obtain ⟨c5, H⟩ := H
    have cD := decide_eq_true c5
    clear c5
    replace H := ifs_ H
    obtain ⟨c6, H⟩ := H
    have dD := decide_eq_true c6
    clear c6
    replace H := ite_ H
    obtain ⟨c7, H⟩ | ⟨c7, H⟩ := H
    ·have vC := dgt_ c7
     have wC : decide (20 < (rdOf ByteArray.empty l0_4 dA).size) = true := decide_eq_true (by omega)
     clear c7
     obtain rfl := Option.some.inj H
     have eA : 0 ≤ (dA : Int) := oa_
     have fA : dA < (l0_4.length : Int) := oa_
     obtain ⟨tA, rA, bA⟩ := Kd.at_string gA.out dA eA fA
     cases rA
     replace bA := pc_ HB.out bA
     replace eA := eq_true eA
     replace fA := eq_true fA
     go_wp2
     go_ret
     exact ⟨er_, hs_ cA.out⟩
    have vC := dgf_ c7
    have wC : decide (20 < (rdOf ByteArray.empty l0_4 dA).size) = false := decide_eq_false (by omega)
    clear c7
    have H' := am_ H
    clear H
    have eA : 0 ≤ (dA : Int) := oa_
    have fA : dA < (l0_4.length : Int) := oa_
    obtain ⟨tA, rA, bA⟩ := Kd.at_string gA.out dA eA fA
    cases rA
    replace bA := pc_ HB.out bA
    replace eA := eq_true eA
    replace fA := eq_true fA
    go_wp2
    go_roundg k1
    case measure => have := aD.out; omega
    case rel => exact ⟨(wrap64 (dA + 1)), sr_, H', ⟨by have := aD.out; omega⟩, ⟨kb_ aA.out⟩, ⟨hs_ cA.out⟩⟩
   have uC := decide_eq_false c4
   clear c4
   replace H := bnd_ H
   obtain ⟨eD, A8, H⟩ := H
   replace H := ifb_ H
   obtain ⟨rfl, H⟩ | ⟨rfl, H⟩ := H
   rotate_left
   ·obtain rfl := Option.some.inj H
    obtain ⟨uA, vA, wA, xA, yA, zA, bB, cB, dB, eB⟩ := cf5_ aA.out
    go_wp2_with (first | ((with_reducible refine gate_callee (f := 82) rfl ?_); refine gl_ 18 Try.func82 #[.int .i64 a0_0, .int .i64 0, .int .i64 100000] rfl ma_ ?_; (with_reducible refine (spec_l1In.calls a0_0 0 100000 false _ A8.out).mono ?_); rintro e w' ⟨rfl, ⟨nd, rfl⟩⟩; refine ⟨_, rfl, ?_⟩))
    go_ret
    exact ⟨er_, hs_ cA.out⟩
   replace H := bnd_ H
   obtain ⟨fD, fB, H⟩ := H
   replace H := ifb_ H
   obtain ⟨rfl, H⟩ | ⟨rfl, H⟩ := H
   rotate_left
   ·obtain rfl := Option.some.inj H
    obtain ⟨gB, hB, iB, jB, kB, lB, mB, nB, oB, pB⟩ := cf5_ aA.out
    go_wp2_with (first | ((with_reducible refine gate_callee (f := 82) rfl ?_); refine gl_ 18 Try.func82 #[.int .i64 a0_0, .int .i64 0, .int .i64 100000] rfl ma_ ?_; (with_reducible refine (spec_l1In.calls a0_0 0 100000 true _ A8.out).mono ?_); rintro e w' ⟨rfl, ⟨nd, rfl⟩⟩; refine ⟨_, rfl, ?_⟩) | (go_at_call 82; (with_reducible refine (spec_l1In.calls a0_1 0 1000 false _ fB.out).mono ?_); rintro e w' ⟨rfl, ⟨nd, rfl⟩⟩))
    go_ret
    exact ⟨er_, hs_ cA.out⟩
   replace H := bnd_ H
   obtain ⟨gD, xC, H⟩ := H
   replace H := ifb_ H
   obtain ⟨rfl, H⟩ | ⟨rfl, H⟩ := H
   rotate_left
   ·obtain rfl := Option.some.inj H
    obtain ⟨qB, rB, sB, tB, uB, vB, wB, xB, yB, zB⟩ := cf5_ aA.out
    go_wp2_with (first | ((with_reducible refine gate_callee (f := 82) rfl ?_); refine gl_ 18 Try.func82 #[.int .i64 a0_0, .int .i64 0, .int .i64 100000] rfl ma_ ?_; (with_reducible refine (spec_l1In.calls a0_0 0 100000 true _ A8.out).mono ?_); rintro e w' ⟨rfl, ⟨nd, rfl⟩⟩; refine ⟨_, rfl, ?_⟩) | (go_at_call 82; (with_reducible refine (spec_l1In.calls a0_1 0 1000 true _ fB.out).mono ?_); rintro e w' ⟨rfl, ⟨nd, rfl⟩⟩) | (go_at_call 82; (with_reducible refine (spec_l1In.calls a0_2 0 65535 false _ xC.out).mono ?_); rintro e w' ⟨rfl, ⟨nd, rfl⟩⟩))
    go_ret
    exact ⟨er_, hs_ cA.out⟩
   replace H := bnd_ H
   obtain ⟨hD, bD, H⟩ := H
   replace H := ifb_ H
   obtain ⟨rfl, H⟩ | ⟨rfl, H⟩ := H
   rotate_left
   ·obtain rfl := Option.some.inj H
    obtain ⟨aC, bC, cC, dC, eC, fC, gC, hC, iC, jC⟩ := cf5_ aA.out
    go_wp2_with (first | ((with_reducible refine gate_callee (f := 82) rfl ?_); refine gl_ 18 Try.func82 #[.int .i64 a0_0, .int .i64 0, .int .i64 100000] rfl ma_ ?_; (with_reducible refine (spec_l1In.calls a0_0 0 100000 true _ A8.out).mono ?_); rintro e w' ⟨rfl, ⟨nd, rfl⟩⟩; refine ⟨_, rfl, ?_⟩) | (go_at_call 82; (with_reducible refine (spec_l1In.calls a0_1 0 1000 true _ fB.out).mono ?_); rintro e w' ⟨rfl, ⟨nd, rfl⟩⟩) | (go_at_call 82; (with_reducible refine (spec_l1In.calls a0_2 0 65535 true _ xC.out).mono ?_); rintro e w' ⟨rfl, ⟨nd, rfl⟩⟩) | (go_at_call 82; (with_reducible refine (spec_l1In.calls a0_3 0 65535 false _ bD.out).mono ?_); rintro e w' ⟨rfl, ⟨nd, rfl⟩⟩))
    go_ret
    exact ⟨er_, hs_ cA.out⟩
   replace H := bnd_ H
   obtain ⟨yC, iD, H⟩ := H
   obtain rfl := Option.some.inj H
   obtain ⟨kC, lC, mC, nC, oC, pC, qC, rC, sC, tC⟩ := cf5_ aA.out
   go_wp2_with (first | ((with_reducible refine gate_callee (f := 82) rfl ?_); refine gl_ 18 Try.func82 #[.int .i64 a0_0, .int .i64 0, .int .i64 100000] rfl ma_ ?_; (with_reducible refine (spec_l1In.calls a0_0 0 100000 true _ A8.out).mono ?_); rintro e w' ⟨rfl, ⟨nd, rfl⟩⟩; refine ⟨_, rfl, ?_⟩) | (go_at_call 82; (with_reducible refine (spec_l1In.calls a0_1 0 1000 true _ fB.out).mono ?_); rintro e w' ⟨rfl, ⟨nd, rfl⟩⟩) | (go_at_call 82; (with_reducible refine (spec_l1In.calls a0_2 0 65535 true _ xC.out).mono ?_); rintro e w' ⟨rfl, ⟨nd, rfl⟩⟩) | (go_at_call 82; (with_reducible refine (spec_l1In.calls a0_3 0 65535 true _ bD.out).mono ?_); rintro e w' ⟨rfl, ⟨nd, rfl⟩⟩) | (go_at_call 82; (with_reducible refine (spec_l1In.calls (l0_4.length : Int) 1 8 yC _ iD.out).mono ?_); rintro e w' ⟨rfl, ⟨nd, rfl⟩⟩))
   go_ret
   exact ⟨er_, hs_ cA.out⟩

/-! ### spec_l5Batch: function 56 -/
def spec_l5Batch.f (a0_0 : Int) (a0_1 : Int) (a0_2 : Int) (a0_3 : Int) (l0_4 : List ByteArray) (a1_0 : Int) (a1_1 : Int) (a1_2 : Int) (l1_3 : List ByteArray) : Option (Int × Int × Int × Int × List ByteArray) := (some (([] : List ByteArray) : List ByteArray)).bind fun y235 => (if y235.length + l1_3.length < 8796093022208 then (some (a0_0, a1_1, a1_0, a1_2, (y235 ++ l1_3))) else (none))
set_option maxHeartbeats 8000000 in
set_option maxRecDepth 100000 in
theorem spec_l5Batch.calls (a0_0 : Int) (a0_1 : Int) (a0_2 : Int) (a0_3 : Int) (A0_4 : Option Addr) (c0_4 : Nat) (l0_4 : List ByteArray) (a1_0 : Int) (a1_1 : Int) (a1_2 : Int) (A1_3 : Option Addr) (c1_3 : Nat) (l1_3 : List ByteArray) (r1 : Int) (r2 : Int) (r3 : Int) (r4 : Int) (r5 : List ByteArray) (w : World) (hr0_4 : Kd.C Kd.string w A0_4 l0_4.length l0_4) (hc0_4 : l0_4.length ≤ c0_4) (hr1_3 : Kd.C Kd.string w A1_3 l1_3.length l1_3) (hc1_3 : l1_3.length ≤ c1_3) (h : spec_l5Batch.f a0_0 a0_1 a0_2 a0_3 l0_4 a1_0 a1_1 a1_2 l1_3 = some (r1, r2, r3, r4, r5)) :
  Calls Try.prog 56 #[.agg #[.int .i64 a0_0, .int .i64 a0_1, .int .i64 a0_2, .int .i64 a0_3, .slice A0_4 l0_4.length c0_4], .agg #[.int .i64 a1_0, .int .i64 a1_1, .int .i64 a1_2, .slice A1_3 l1_3.length c1_3]] w fun e w' => ∃ v4_ : Value, e = .returned (.agg #[.int .i64 r1, .int .i64 r2, .int .i64 r3, .int .i64 r4, v4_]) ∧ Kd.R Kd.string 9 w' w.heap.size (fun _ => True) v4_ r5 ∧ Below w.heap.size w w' := by
 have hu78 := Try.underlying78
 have hu57 := Try.underlying57
 have zC := am_ hr0_4
 have aD := am_ hc0_4
 clear hr0_4 hc0_4
 have xA := am_ hr1_3
 have bD := am_ hc1_3
 clear hr1_3 hc1_3
 have HB := am_ (Below.refl w.heap.size w)
 have H : ((some (([] : List ByteArray) : List ByteArray)).bind fun lA => (if lA.length + l1_3.length < 8796093022208 then (some (a0_0, a1_1, a1_0, a1_2, (lA ++ l1_3))) else (none))) = some (r1, r2, r3, r4, r5) := h
 clear h
 obtain ⟨lA, hA⟩ : ∃ y_ : List ByteArray, y_ = (([] : List ByteArray)) := ⟨_, rfl⟩
 replace H : (if lA.length + l1_3.length < 8796093022208 then (some (a0_0, a1_1, a1_0, a1_2, (lA ++ l1_3))) else (none)) = some (r1, r2, r3, r4, r5) := by first | (rw [hA]; with_reducible exact H) | (have H2_ := (Option.bind_some _ _).symm.trans H; rw [hA]; with_reducible exact H2_) | (have H2_ := (Option.bind_some _ _).symm.trans H; with_reducible exact H2_) | with_reducible exact H | (rw [hA]; exact H) | exact H
 have tA := am_ hA
 clear hA
 replace H := ifs_ H
 obtain ⟨c3, H⟩ := H
 have oC := am_ c3
 clear c3
 obtain ⟨wA, iA⟩ : ∃ y_ : List ByteArray, y_ = (lA ++ l1_3) := ⟨_, rfl⟩
 replace H : (some (a0_0, a1_1, a1_0, a1_2, wA)) = some (r1, r2, r3, r4, r5) := by first | (rw [iA]; with_reducible exact H) | (have H2_ := (Option.bind_some _ _).symm.trans H; rw [iA]; with_reducible exact H2_) | (have H2_ := (Option.bind_some _ _).symm.trans H; with_reducible exact H2_) | with_reducible exact H | (rw [iA]; exact H) | exact H
 have yA := am_ iA
 clear iA
 simp only [Option.some.injEq, Prod.mk.injEq] at H
 obtain ⟨rfl, rfl, rfl, rfl, rfl⟩ := H
 go_enter Try.func56, Try.ntmps56
 go_wp2_with (first | ((with_reducible refine gate_dst (N := 2) rfl ?_); refine bq_ (N := 2) #[.int .i64 a0_0, .int .i64 a0_1, .int .i64 a0_2, .int .i64 a0_3, .slice A0_4 l0_4.length c0_4] 78 ?_; intro qA hg w4 aA hb; have cA := ge_ hg; replace HB := nb_ hb; clear hb hg) | ((with_reducible refine gate_dst (N := 3) rfl ?_); refine bq_ (N := 3) #[.int .i64 a1_0, .int .i64 a1_1, .int .i64 a1_2, .slice A1_3 l1_3.length c1_3] 57 ?_; intro uA hg w5 bA hb; have fA := ge1_ hg cA; replace HB := nc_ cA hb; have mA := nl_ aA hg; have gA := ng_ aA hg; replace aA := bK_ aA hb; clear hb hg) | ((with_reducible refine gate_dst (N := 4) rfl ?_); refine bq_ (N := 4) #[.int .i64 0, .int .i64 0, .int .i64 0, .int .i64 0, .slice none 0 0] 78 ?_; intro rA hg w6 eA hb; have jA := ge2_ hg cA fA; replace HB := nc2_ cA fA hb; have nA := nl_ aA hg; have dA := ng_ aA hg; replace aA := bK_ aA hb; have oA := nl_ bA hg; have pA := ng_ bA hg; replace bA := bK_ bA hb; clear hb hg; have eD := gA.out; have fD := mA.out; have gD := oA.out; have hD := pA.out; obtain ⟨pC, qC, rC, sC, tC, uC, vC, wC⟩ := cf4_ bA.out; have cD := nA.out; have dD := dA.out; obtain ⟨cB, dB, eB, fB, gB, hB, iB, jB, kB, lB⟩ := cf5_ aA.out) | ((with_reducible refine gate_dst (N := 14) rfl ?_); refine Kd.R_lit Kd.string _ 9 ?hg (N := 14) ?hd (xs := ([] : List ByteArray)) (inner := []) (ok := fun _ => True) (okp := fun _ => True) ?hr ?hp (fun _ hk => hk) trivial (Below.refl _ _) (Nat.le_refl _) (by simp) ?_; (case hd => rfl); (case hg => rfl); (case hr => first | (go_simp; done) | (go_simp; rfl)); (case hp => exact (Reps.none _ _)); intro xC jD sA hb hg_ hnew_; clear hg_ hnew_; (first | rw [← tA.out] at sA | (simp only [Int.reduceToNat] at sA; rw [← tA.out] at sA)); have kA := am_ (Kd.R_lower sA (below_size (hs3_ cA.out fA.out jA.out))); replace aA := am_ (blk_below (g := qA) (o := .cells #[.int .i64 a0_0, .int .i64 a1_1, .int .i64 a1_0, .int .i64 a1_2, .slice A0_4 l0_4.length c0_4] 78 (0, 0)) (up_ aA) hb); replace bA := am_ (blk_below (g := uA) (o := .cells #[.int .i64 a1_0, .int .i64 a1_1, .int .i64 a1_2, .slice A1_3 l1_3.length c1_3] 57 (0, 0)) (uf_ bA gA.out) hb); replace eA := am_ (blk_below (g := rA) (o := .cells #[.int .i64 0, .int .i64 0, .int .i64 0, .int .i64 0, .slice none 0 0] 78 (0, 0)) (uf_ eA dA.out) hb); replace HB := nc3_ cA fA jA hb; clear hb sA; obtain ⟨mB, nB, oB, pB, qB, rB, sB, tB⟩ := cf4_ bA.out) | ((with_reducible refine gate_builtin (b := .append) (xs := #[.tmp 14, .tmp 16]) rfl ?_); at_builtin; refine Kd.R_append_rows Kd.string (w0 := w) w.heap.size rfl (.tmp 14) (.tmp 16) 27 9 (.string ⟨#[]⟩) 16 rfl Try.underlying27 info9 rfl (by decide) (by omega) xC lA l1_3 _ _ _ (fun _ => True) (fun _ => False) rfl rfl ?aO ?aR (fun _ _ h => h) (fun _ h => h.elim) ?aF ?aB ?aS ?aL ?_; (case aR => exact cs_ ((Kd.C_below xA.out HB.out))); (case aB => exact (hs3_ cA.out fA.out jA.out)); (case aF => exact (fun _ _ => trivial)); (case aO => exact (kr_ kA.out)); (case aS => exact (below_size (hs3_ cA.out fA.out jA.out))); (case aL => have := oC.out; omega); intro iD kD ho hb hg hat; rw [← yA.out] at ho; replace aA := am_ (blk_grown (g := qA) (o := .cells #[.int .i64 a0_0, .int .i64 a1_1, .int .i64 a1_0, .int .i64 a1_2, .slice A0_4 l0_4.length c0_4] 78 (0, 0)) (kb_ aA.out) hg (Kd.R_ne kA.out aA.out (by decide))); replace bA := am_ (blk_grown (g := uA) (o := .cells #[.int .i64 a1_0, .int .i64 a1_1, .int .i64 a1_2, .slice A1_3 l1_3.length c1_3] 57 (0, 0)) (kb_ bA.out) hg (Kd.R_ne kA.out bA.out (by decide))); replace eA := am_ (blk_grown (g := rA) (o := .cells #[.int .i64 0, .int .i64 0, .int .i64 0, .int .i64 0, .slice none 0 0] 78 (0, 0)) (kb_ eA.out) hg (Kd.R_ne kA.out eA.out (by decide))); replace HB := am_ (hb); have vA := am_ (ho); clear kA; clear ho hb hg hat; obtain ⟨zA, bB, yC⟩ := Kd.R_slice vA.out; subst yC; obtain ⟨uB, vB, wB, xB, yB, zB, aC, bC, cC, dC⟩ := cf5_ aA.out; obtain ⟨eC, fC, gC, hC, iC, jC, kC, lC, mC, nC⟩ := cf5_ eA.out))
 refine bodyPost_ret (results_cell_row rfl _ _ rA 78 #[.int .i64 a0_0, .int .i64 a1_1, .int .i64 a1_0, .int .i64 a1_2, .slice zA wA.length bB] (0, 0) _ rfl (by (with_reducible repeat (first | refine blk_drewN ?_ _ | refine blk_drew ?_ | refine blk_alloc ?_ _)); refine blk_put (cs := #[.int .i64 a0_0, .int .i64 a1_1, .int .i64 a1_0, .int .i64 a1_2, .slice none 0 0]) ?_ 4 _ rfl; (with_reducible repeat (first | refine blk_drewN ?_ _ | refine blk_drew ?_ | refine blk_alloc ?_ _)); refine blk_put (cs := #[.int .i64 a0_0, .int .i64 a1_1, .int .i64 a1_0, .int .i64 0, .slice none 0 0]) ?_ 3 _ rfl; (with_reducible repeat (first | refine blk_drewN ?_ _ | refine blk_drew ?_ | refine blk_alloc ?_ _)); refine blk_put (cs := #[.int .i64 a0_0, .int .i64 a1_1, .int .i64 0, .int .i64 0, .slice none 0 0]) ?_ 2 _ rfl; (with_reducible repeat (first | refine blk_drewN ?_ _ | refine blk_drew ?_ | refine blk_alloc ?_ _)); refine blk_put (cs := #[.int .i64 a0_0, .int .i64 0, .int .i64 0, .int .i64 0, .slice none 0 0]) ?_ 1 _ rfl; (with_reducible repeat (first | refine blk_drewN ?_ _ | refine blk_drew ?_ | refine blk_alloc ?_ _)); refine blk_put (cs := #[.int .i64 0, .int .i64 0, .int .i64 0, .int .i64 0, .slice none 0 0]) ?_ 0 _ rfl; (with_reducible repeat (first | refine blk_drewN ?_ _ | refine blk_drew ?_ | refine blk_alloc ?_ _)); refine blk_far ?_ dA.out _; (with_reducible repeat (first | refine blk_drewN ?_ _ | refine blk_drew ?_ | refine blk_alloc ?_ _)); exact eA.out) Try.underlying78 rfl (by kernel_rfl)) rfl ?_
 exact ⟨_, er_, Kd.R_mono (rF_ (Kd.R_far (p := ⟨qA, 4, none⟩) (Kd.R_types (Kd.R_types vA.out aA.out (by decide)) eA.out (by decide)) (fun _ hk => hk.1.2) (.slice zA wA.length bB))) (fun _ hk => trivial), hs3_ cA.out fA.out jA.out⟩

/-! ### spec_l5At: function 48 -/
def spec_l5At.l0 : Nat → Int → List (S81) → Int → Int → Option (Int)
 | 0, _, _, _, _ => none
 | k + 1, x1, x7, x8, x9 => if x9 < x8 then (if 0 ≤ x9 then (if x9 < (x7.length : Int) then (if ((rd_T81 x7 x9).f0) = x1 then (some x9) else (spec_l5At.l0 k x1 x7 x8 (wrap64 (x9 + 1)))) else (none)) else (none)) else (some (-1))
def spec_l5At.f (k : Nat) (l0 : List (S81)) (a1 : Int) : Option (Int) := spec_l5At.l0 k a1 l0 (l0.length : Int) 0
theorem spec_l5At.mono_l : ∀ k, (∀ y0 y1 y2 y3, LeO (spec_l5At.l0 k y0 y1 y2 y3) (spec_l5At.l0 (k + 1) y0 y1 y2 y3))
 | 0 => fun _ _ _ _ r h => by simp [spec_l5At.l0] at h
 | k + 1 => by
  have ih0 := spec_l5At.mono_l k
  ·intro y0 y1 y2 y3
   unfold spec_l5At.l0
   repeat' first
   | (with_reducible first | apply ih0 | exact LeO.refl _ | exact LeO.none _ | refine LeO.ite ?_ ?_ | refine LeO.bind ?_ (fun _ => ?_))
theorem spec_l5At.mono : ∀ a0 a1 k, LeO (spec_l5At.f k a0 a1) (spec_l5At.f (k + 1) a0 a1) := by
 intro a0 a1 k
 have ih0 := spec_l5At.mono_l k
 unfold spec_l5At.f
 repeat' first
   | (with_reducible first | apply ih0 | exact LeO.refl _ | exact LeO.none _ | refine LeO.ite ?_ ?_ | refine LeO.bind ?_ (fun _ => ?_))
set_option maxHeartbeats 8000000 in
set_option maxRecDepth 100000 in
theorem spec_l5At.calls (k : Nat) (A0 : Option Addr) (c0 : Nat) (l0 : List (S81)) (a1 : Int) (r : Int) (w : World) (hr0 : Kd.C k81 w A0 l0.length l0) (hc0 : l0.length ≤ c0) (h : spec_l5At.f k l0 a1 = some r) :
  Calls Try.prog 48 #[.slice A0 l0.length c0, .int .i64 a1] w fun e w' => e = .returned (.int .i64 r) ∧ Below w.heap.size w w' := by
 have hu81 := Try.underlying81
 have mB := am_ hr0
 have qB := am_ hc0
 clear hr0 hc0
 have HB := am_ (Below.refl w.heap.size w)
 have H : (spec_l5At.l0 k a1 l0 (l0.length : Int) 0) = some r := h
 clear h
 have H' := am_ H
 clear H
 go_enter Try.func48, Try.ntmps48
 go_wp2
 go_loopg [9] k (fun kq v9 w' => ∃ (aA : Int), v9 = .int .i64 aA ∧ Aside0 (spec_l5At.l0 kq a1 l0 (l0.length : Int) aA = some r) ∧ Aside0 (kq ≤ k) ∧ Aside0 (Below w.heap.size w w'))
 case atStart => exact ⟨(0), sr_, H', ⟨Nat.le_refl _⟩, ⟨hb_⟩⟩
 case round =>
  clear H'
  obtain ⟨aA, rfl, HA, nB, HB⟩ := hrel
  cases gk with
  | zero => exact absurd HA.out (by simp [spec_l5At.l0])
  | succ k1 =>
   have H := HA.out
   clear HA
   simp only [spec_l5At.l0] at H
   replace H := ite_ H
   obtain ⟨c3, H⟩ | ⟨c3, H⟩ := H
   rotate_left
   ·have bB := decide_eq_false c3
    clear c3
    obtain rfl := Option.some.inj H
    go_wp2
    go_ret
    exact ⟨er_, hb_⟩
   have bB := decide_eq_true c3
   clear c3
   replace H := ifs_ H
   obtain ⟨c4, H⟩ := H
   have oB := decide_eq_true c4
   clear c4
   replace H := ifs_ H
   obtain ⟨c5, H⟩ := H
   have pB := decide_eq_true c5
   clear c5
   replace H := ite_ H
   obtain ⟨c6, H⟩ | ⟨c6, H⟩ := H
   ·have cB : (((rd_T81 l0 aA).f0) == a1) = true := beq_iff_eq.mpr c6
    have dB : (((rd_T81 l0 aA).f0) != a1) = false := bne_eq_false_iff_eq.mpr c6
    clear c6
    obtain rfl := Option.some.inj H
    have hA : 0 ≤ (aA : Int) := oa_
    have iA : aA < (l0.length : Int) := oa_
    obtain ⟨qA, nA, oA, pA, bA, cA, dA, eA, fA, gA⟩ := at_T81 mB.out aA hA iA
    cases pA
    replace bA := pc_ HB.out bA
    replace cA := pc_ HB.out cA
    replace dA := pc_ HB.out dA
    replace eA := pc_ HB.out eA
    have lA := am_ gA
    have mA := am_ fA
    clear gA fA
    replace hA := eq_true hA
    replace iA := eq_true iA
    go_wp2_with (first | ((with_reducible refine gate_dst (N := 6) rfl ?_); refine bq_ (N := 6) #[.int .i64 0, .int .i64 0, .int .i64 0, .slice none 0 0] 81 ?_; intro rA hg w7 jA hb; have kA := ge_ hg; replace HB := nb_ hb; clear hb hg; obtain ⟨eB, fB, gB, hB, iB, jB, kB, lB⟩ := cf4_ jA.out))
    go_ret
    exact ⟨er_, hs_ kA.out⟩
   have cB : (((rd_T81 l0 aA).f0) == a1) = false := beq_eq_false_iff_ne.mpr c6
   have dB : (((rd_T81 l0 aA).f0) != a1) = true := bne_iff_ne.mpr c6
   have H' := am_ H
   clear H
   have hA : 0 ≤ (aA : Int) := oa_
   have iA : aA < (l0.length : Int) := oa_
   obtain ⟨qA, nA, oA, pA, bA, cA, dA, eA, fA, gA⟩ := at_T81 mB.out aA hA iA
   cases pA
   replace bA := pc_ HB.out bA
   replace cA := pc_ HB.out cA
   replace dA := pc_ HB.out dA
   replace eA := pc_ HB.out eA
   have lA := am_ gA
   have mA := am_ fA
   clear gA fA
   replace hA := eq_true hA
   replace iA := eq_true iA
   go_wp2_with (first | ((with_reducible refine gate_dst (N := 6) rfl ?_); refine bq_ (N := 6) #[.int .i64 0, .int .i64 0, .int .i64 0, .slice none 0 0] 81 ?_; intro rA hg w9 jA hb; have kA := ge_ hg; replace HB := nb_ hb; clear hb hg; obtain ⟨sA, tA, uA, vA, wA, xA, yA, zA⟩ := cf4_ jA.out))
   go_roundg k1
   case measure => have := nB.out; omega
   case rel => exact ⟨(wrap64 (aA + 1)), sr_, H', ⟨by have := nB.out; omega⟩, ⟨hs_ kA.out⟩⟩
end Go.Proofs.Ytojdaolclcmalaa.QFnExactAskPart
