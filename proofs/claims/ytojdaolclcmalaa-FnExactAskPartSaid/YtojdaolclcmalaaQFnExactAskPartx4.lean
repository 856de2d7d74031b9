/- Functions that one statement reaches: of each a plain function, and the proof that calls come to it. Conditions: those that each contract names. Written by a program of this repository. -/
import Derived.Test.YtojdaolclcmalaaVAskParta
import Derived.Test.YtojdaolclcmalaaQFnExactAskPartx1
import Derived.Test.YtojdaolclcmalaaQFnExactAskPartx3
namespace Go.Proofs.Ytojdaolclcmalaa.QFnExactAskPart
open Go.RowKit Go.Proofs.YtojdaolclcmalaaW.PrintWords Go.Proofs.YtojdaolclcmalaaW.PrintLast Go.Proofs.YtojdaolclcmalaaW.PrintMore
attribute [local go_sem] max2_int min2_int max_two min_two max_three min_three max_four min_four Go.Proofs.YtojdaolclcmalaaW.PrintMore2.isSome_setCell   -- for this text's walks alone
set_option linter.unusedVariables false
set_option linter.unusedSimpArgs false

/-! ### laws_eqBatchS: function 45 -/
def laws_eqBatchS.l0 : Nat → List (S78) → List (S78) → Int → Option (Bool)
 | 0, _, _, _ => none
 | k + 1, x0, x1, x5 => if x5 < (x0.length : Int) then (if 0 ≤ x5 then (if x5 < (x1.length : Int) then ((laws_eqBatch.f k ((rd_T78 x0 x5).f0) ((rd_T78 x0 x5).f1) ((rd_T78 x0 x5).f2) ((rd_T78 x0 x5).f3) ((rd_T78 x0 x5).f4) ((rd_T78 x1 x5).f0) ((rd_T78 x1 x5).f1) ((rd_T78 x1 x5).f2) ((rd_T78 x1 x5).f3) ((rd_T78 x1 x5).f4)).bind fun t180 => (if t180 = true then (laws_eqBatchS.l0 k x0 x1 (wrap64 (x5 + 1))) else (some false))) else (none)) else (none)) else (some true)
def laws_eqBatchS.f (k : Nat) (l0 : List (S78)) (l1 : List (S78)) : Option (Bool) := if (l0.length : Int) = (l1.length : Int) then (laws_eqBatchS.l0 k l0 l1 0) else (some false)
theorem laws_eqBatchS.mono_l : ∀ k, (∀ y0 y1 y2, LeO (laws_eqBatchS.l0 k y0 y1 y2) (laws_eqBatchS.l0 (k + 1) y0 y1 y2))
 | 0 => fun _ _ _ r h => by simp [laws_eqBatchS.l0] at h
 | k + 1 => by
  have ih0 := laws_eqBatchS.mono_l k
  ·intro y0 y1 y2
   unfold laws_eqBatchS.l0
   repeat' first
   | (with_reducible first | apply ih0 | apply laws_eqBatch.mono | exact LeO.refl _ | exact LeO.none _ | refine LeO.ite ?_ ?_ | refine LeO.bind ?_ (fun _ => ?_))
theorem laws_eqBatchS.mono : ∀ a0 a1 k, LeO (laws_eqBatchS.f k a0 a1) (laws_eqBatchS.f (k + 1) a0 a1) := by
 intro a0 a1 k
 have ih0 := laws_eqBatchS.mono_l k
 unfold laws_eqBatchS.f
 repeat' first
   | (with_reducible first | apply ih0 | apply laws_eqBatch.mono | exact LeO.refl _ | exact LeO.none _ | refine LeO.ite ?_ ?_ | refine LeO.bind ?_ (fun _ => ?_))
def laws_eqBatchS.T6 : Bool × List (List Nat × List Nat) := (true, [([], []), ([], []), ([0, 1], [0, 1]), ([2], [2]), ([], []), ([], []), ([4, 5], [4, 5]), ([6], [6]), ([3, 7], [3, 7]), ([8], [8])])
def laws_eqBatchS.B6 : List Nat := [0, 0, 3, 7, 0, 0, 48, 112, 255, 511]
theorem laws_eqBatchS.tab6 : rtab .any (opsOf Try.f45 6) = laws_eqBatchS.T6 := by kernel_rfl
theorem laws_eqBatchS.bits6 : waitsOk laws_eqBatchS.T6.2 laws_eqBatchS.B6 = true := by kernel_rfl
set_option maxHeartbeats 8000000 in
set_option maxRecDepth 100000 in
theorem laws_eqBatchS.calls (k : Nat) (A0 : Option Addr) (c0 : Nat) (l0 : List (S78)) (A1 : Option Addr) (c1 : Nat) (l1 : List (S78)) (r : Bool) (w : World) (hr0 : Kd.C k78 w A0 l0.length l0) (hc0 : l0.length ≤ c0) (hr1 : Kd.C k78 w A1 l1.length l1) (hc1 : l1.length ≤ c1) (h : laws_eqBatchS.f k l0 l1 = some r) :
  Calls Try.prog 45 #[.slice A0 l0.length c0, .slice A1 l1.length c1] w fun e w' => e = .returned (.bool r) ∧ Below w.heap.size w w' := by
 have hu78 := Try.underlying78
 have jB := am_ hr0
 have pB := am_ hc0
 clear hr0 hc0
 have kB := am_ hr1
 have qB := am_ hc1
 clear hr1 hc1
 have HB := am_ (Below.refl w.heap.size w)
 have H : (if (l0.length : Int) = (l1.length : Int) then (laws_eqBatchS.l0 k l0 l1 0) else (some false)) = some r := h
 clear h
 replace H := ite_ H
 obtain ⟨c3, H⟩ | ⟨c3, H⟩ := H
 rotate_left
 ·have fB : ((l0.length : Int) == (l1.length : Int)) = false := beq_eq_false_iff_ne.mpr c3
  have gB : ((l0.length : Int) != (l1.length : Int)) = true := bne_iff_ne.mpr c3
  have hB : (l0.length == l1.length) = false := by first | simpa using c3 | (simp at c3 ⊢; omega)
  obtain rfl := Option.some.inj H
  go_enter Try.func45, Try.ntmps45
  go_wp2
  go_ret
  exact ⟨er_, hb_⟩
 have fB : ((l0.length : Int) == (l1.length : Int)) = true := beq_iff_eq.mpr c3
 have gB : ((l0.length : Int) != (l1.length : Int)) = false := bne_eq_false_iff_eq.mpr c3
 have hB : (l0.length == l1.length) = true := by first | simpa using c3 | (simp at c3 ⊢; omega)
 clear c3
 have H' := am_ H
 clear H
 go_enter Try.func45, Try.ntmps45
 go_wp2
 go_loopg [5] k (fun kq v5 w' => ∃ (aA : Int), v5 = .int .i64 aA ∧ Aside0 (laws_eqBatchS.l0 kq l0 l1 aA = some r) ∧ Aside0 (kq ≤ k) ∧ Aside0 (Below w.heap.size w w'))
 case atStart => exact ⟨(0), sr_, H', ⟨Nat.le_refl _⟩, ⟨hb_⟩⟩
 case round =>
  clear H'
  try clear c1
  try clear c3
  try clear fB
  try clear gB
  try clear hB
  obtain ⟨aA, rfl, HA, lB, HB⟩ := hrel
  cases gk with
  | zero => exact absurd HA.out (by simp [laws_eqBatchS.l0])
  | succ k1 =>
   have H := HA.out
   clear HA
   simp only [laws_eqBatchS.l0] at H
   replace H := ite_ H
   obtain ⟨c4, H⟩ | ⟨c4, H⟩ := H
   rotate_left
   ·have iB := decide_eq_false c4
    clear c4
    obtain rfl := Option.some.inj H
    go_wp2
    go_ret
    exact ⟨er_, hb_⟩
   have iB := decide_eq_true c4
   clear c4
   replace H := ifs_ H
   obtain ⟨c5, H⟩ := H
   have mB := decide_eq_true c5
   clear c5
   replace H := ifs_ H
   obtain ⟨c6, H⟩ := H
   have nB := decide_eq_true c6
   clear c6
   replace H := bnd_ H
   obtain ⟨oB, A7, H⟩ := H
   replace H := ifb_ H
   obtain ⟨rfl, H⟩ | ⟨rfl, H⟩ := H
   rotate_left
   ·obtain rfl := Option.some.inj H
    try go_wp2
    replace HB := qH_ HB
    have zA : 0 ≤ (aA : Int) := oa_
    have aB : aA < (l0.length : Int) := oa_
    obtain ⟨bA, tA, uA, dB, dA, eA, fA, gA, hA, nA, oA⟩ := at_T78 jB.out aA zA aB
    have hw178_4 := hA
    have hw178_3 := gA
    have hw178_2 := fA
    have hw178_1 := eA
    have hw178_0 := dA
    cases dB
    replace dA := pc_ HB.out dA
    replace eA := pc_ HB.out eA
    replace fA := pc_ HB.out fA
    replace gA := pc_ HB.out gA
    replace hA := pc_ HB.out hA
    have pA := am_ oA
    have xA := am_ nA
    clear oA nA
    replace zA := eq_true zA
    replace aB := eq_true aB
    have bB : 0 ≤ (aA : Int) := oa_
    have cB : aA < (l1.length : Int) := oa_
    obtain ⟨cA, vA, wA, eB, iA, jA, kA, lA, mA, qA, rA⟩ := at_T78 kB.out aA bB cB
    have hw179_4 := mA
    have hw179_3 := lA
    have hw179_2 := kA
    have hw179_1 := jA
    have hw179_0 := iA
    cases eB
    replace iA := pc_ HB.out iA
    replace jA := pc_ HB.out jA
    replace kA := pc_ HB.out kA
    replace lA := pc_ HB.out lA
    replace mA := pc_ HB.out mA
    have sA := am_ rA
    have yA := am_ qA
    clear rA qA
    replace bB := eq_true bB
    replace cB := eq_true cB
    refine start_ (n := 10) (S := fun w' => w'.cell? (bA.add ((aA).toNat * 5)) = some (.int .i64 ((rd_T78 l0 aA).f0)) ∧ w'.cell? ⟨(bA.add ((aA).toNat * 5)).block, (bA.add ((aA).toNat * 5)).off + 1, none⟩ = some (.int .i64 ((rd_T78 l0 aA).f1)) ∧ w'.cell? ⟨(bA.add ((aA).toNat * 5)).block, (bA.add ((aA).toNat * 5)).off + 2, none⟩ = some (.int .i64 ((rd_T78 l0 aA).f2)) ∧ w'.cell? ⟨(bA.add ((aA).toNat * 5)).block, (bA.add ((aA).toNat * 5)).off + 3, none⟩ = some (.int .i64 ((rd_T78 l0 aA).f3)) ∧ w'.cell? ⟨(bA.add ((aA).toNat * 5)).block, (bA.add ((aA).toNat * 5)).off + 4, none⟩ = some (.slice tA ((rd_T78 l0 aA).f4).length uA) ∧ w'.cell? (cA.add ((aA).toNat * 5)) = some (.int .i64 ((rd_T78 l1 aA).f0)) ∧ w'.cell? ⟨(cA.add ((aA).toNat * 5)).block, (cA.add ((aA).toNat * 5)).off + 1, none⟩ = some (.int .i64 ((rd_T78 l1 aA).f1)) ∧ w'.cell? ⟨(cA.add ((aA).toNat * 5)).block, (cA.add ((aA).toNat * 5)).off + 2, none⟩ = some (.int .i64 ((rd_T78 l1 aA).f2)) ∧ w'.cell? ⟨(cA.add ((aA).toNat * 5)).block, (cA.add ((aA).toNat * 5)).off + 3, none⟩ = some (.int .i64 ((rd_T78 l1 aA).f3)) ∧ w'.cell? ⟨(cA.add ((aA).toNat * 5)).block, (cA.add ((aA).toNat * 5)).off + 4, none⟩ = some (.slice vA ((rd_T78 l1 aA).f4).length wA)) (ds := []) (List.replicate 10 false).toArray (by kernel_rfl) rfl rfl ⟨(pc_ HB.out hw178_0), (pc_ HB.out hw178_1), (pc_ HB.out hw178_2), (pc_ HB.out hw178_3), (pc_ HB.out hw178_4), (pc_ HB.out hw179_0), (pc_ HB.out hw179_1), (pc_ HB.out hw179_2), (pc_ HB.out hw179_3), (pc_ HB.out hw179_4)⟩ (fun hHeld => ?_); refine with_tabW laws_eqBatchS.tab6 laws_eqBatchS.bits6 (fun HT_ HW_ => ?_)
    generalize wr.drew = rB at HB pA sA dA eA fA gA hA iA jA kA lA mA hHeld ⊢
    refine pv_ 0 17 ?_
    refine pv_ 1 18 ?_
    refine pv_ 2 19 ?_
    refine pv_ 4 21 ?_
    refine pv_ 5 22 ?_
    refine pv_ 6 23 ?_
    refine tk_ 3 20 ?_
    refine tk_ 7 24 ?_
    refine on_ 8 25 (fun K hK => ?_)
    refine gs_ Try.func72 #[.agg #[.int .i64 ((rd_T78 l0 aA).f0), .int .i64 ((rd_T78 l0 aA).f1), .int .i64 ((rd_T78 l0 aA).f2), .int .i64 ((rd_T78 l0 aA).f3), .slice tA ((rd_T78 l0 aA).f4).length uA], .agg #[.int .i64 ((rd_T78 l1 aA).f0), .int .i64 ((rd_T78 l1 aA).f1), .int .i64 ((rd_T78 l1 aA).f2), .int .i64 ((rd_T78 l1 aA).f3), .slice vA ((rd_T78 l1 aA).f4).length wA]] rfl ma_ ?_
    with_reducible refine (laws_eqBatch.calls k1 ((rd_T78 l0 aA).f0) ((rd_T78 l0 aA).f1) ((rd_T78 l0 aA).f2) ((rd_T78 l0 aA).f3) _ _ ((rd_T78 l0 aA).f4) ((rd_T78 l1 aA).f0) ((rd_T78 l1 aA).f1) ((rd_T78 l1 aA).f2) ((rd_T78 l1 aA).f3) _ _ ((rd_T78 l1 aA).f4) false _ ?side1 ?side2 ?side3 ?side4 A7.out).mono ?_
    (case side1 => exact cs_ ((Kd.C_below pA.out HB.out)))
    (case side2 => exact xA.out)
    (case side3 => exact cs_ ((Kd.C_below sA.out HB.out)))
    (case side4 => exact yA.out)
    rintro e sB ⟨rfl, hb⟩
    refine ⟨_, rfl, ?_⟩
    replace HB := nb_ hb
    (try clear hb)
    (try clear hb2)
    (try clear hk)
    (try clear hi)
    refine hK.out _ _ ⟨(pc_ HB.out hw178_0), (pc_ HB.out hw178_1), (pc_ HB.out hw178_2), (pc_ HB.out hw178_3), (pc_ HB.out hw178_4), (pc_ HB.out hw179_0), (pc_ HB.out hw179_1), (pc_ HB.out hw179_2), (pc_ HB.out hw179_3), (pc_ HB.out hw179_4)⟩ (fun hHeld => ?_)
    clear hK K
    refine no_ ?_
    refine pv_ 9 26 ?_
    refine done_ (done_of HT_.out (by kernel_rfl)) ?_
    try go_wp2
    go_ret
    exact ⟨er_, hb_⟩
   have H' := am_ H
   clear H
   try go_wp2
   replace HB := qH_ HB
   have zA : 0 ≤ (aA : Int) := oa_
   have aB : aA < (l0.length : Int) := oa_
   obtain ⟨bA, tA, uA, dB, dA, eA, fA, gA, hA, nA, oA⟩ := at_T78 jB.out aA zA aB
   have hw178_4 := hA
   have hw178_3 := gA
   have hw178_2 := fA
   have hw178_1 := eA
   have hw178_0 := dA
   cases dB
   replace dA := pc_ HB.out dA
   replace eA := pc_ HB.out eA
   replace fA := pc_ HB.out fA
   replace gA := pc_ HB.out gA
   replace hA := pc_ HB.out hA
   have pA := am_ oA
   have xA := am_ nA
   clear oA nA
   replace zA := eq_true zA
   replace aB := eq_true aB
   have bB : 0 ≤ (aA : Int) := oa_
   have cB : aA < (l1.length : Int) := oa_
   obtain ⟨cA, vA, wA, eB, iA, jA, kA, lA, mA, qA, rA⟩ := at_T78 kB.out aA bB cB
   have hw179_4 := mA
   have hw179_3 := lA
   have hw179_2 := kA
   have hw179_1 := jA
   have hw179_0 := iA
   cases eB
   replace iA := pc_ HB.out iA
   replace jA := pc_ HB.out jA
   replace kA := pc_ HB.out kA
   replace lA := pc_ HB.out lA
   replace mA := pc_ HB.out mA
   have sA := am_ rA
   have yA := am_ qA
   clear rA qA
   replace bB := eq_true bB
   replace cB := eq_true cB
   refine start_ (n := 10) (S := fun w' => w'.cell? (bA.add ((aA).toNat * 5)) = some (.int .i64 ((rd_T78 l0 aA).f0)) ∧ w'.cell? ⟨(bA.add ((aA).toNat * 5)).block, (bA.add ((aA).toNat * 5)).off + 1, none⟩ = some (.int .i64 ((rd_T78 l0 aA).f1)) ∧ w'.cell? ⟨(bA.add ((aA).toNat * 5)).block, (bA.add ((aA).toNat * 5)).off + 2, none⟩ = some (.int .i64 ((rd_T78 l0 aA).f2)) ∧ w'.cell? ⟨(bA.add ((aA).toNat * 5)).block, (bA.add ((aA).toNat * 5)).off + 3, none⟩ = some (.int .i64 ((rd_T78 l0 aA).f3)) ∧ w'.cell? ⟨(bA.add ((aA).toNat * 5)).block, (bA.add ((aA).toNat * 5)).off + 4, none⟩ = some (.slice tA ((rd_T78 l0 aA).f4).length uA) ∧ w'.cell? (cA.add ((aA).toNat * 5)) = some (.int .i64 ((rd_T78 l1 aA).f0)) ∧ w'.cell? ⟨(cA.add ((aA).toNat * 5)).block, (cA.add ((aA).toNat * 5)).off + 1, none⟩ = some (.int .i64 ((rd_T78 l1 aA).f1)) ∧ w'.cell? ⟨(cA.add ((aA).toNat * 5)).block, (cA.add ((aA).toNat * 5)).off + 2, none⟩ = some (.int .i64 ((rd_T78 l1 aA).f2)) ∧ w'.cell? ⟨(cA.add ((aA).toNat * 5)).block, (cA.add ((aA).toNat * 5)).off + 3, none⟩ = some (.int .i64 ((rd_T78 l1 aA).f3)) ∧ w'.cell? ⟨(cA.add ((aA).toNat * 5)).block, (cA.add ((aA).toNat * 5)).off + 4, none⟩ = some (.slice vA ((rd_T78 l1 aA).f4).length wA)) (ds := []) (List.replicate 10 false).toArray (by kernel_rfl) rfl rfl ⟨(pc_ HB.out hw178_0), (pc_ HB.out hw178_1), (pc_ HB.out hw178_2), (pc_ HB.out hw178_3), (pc_ HB.out hw178_4), (pc_ HB.out hw179_0), (pc_ HB.out hw179_1), (pc_ HB.out hw179_2), (pc_ HB.out hw179_3), (pc_ HB.out hw179_4)⟩ (fun hHeld => ?_); refine with_tabW laws_eqBatchS.tab6 laws_eqBatchS.bits6 (fun HT_ HW_ => ?_)
   generalize wr.drew = w9 at HB pA sA dA eA fA gA hA iA jA kA lA mA hHeld ⊢
   refine pv_ 0 17 ?_
   refine pv_ 1 18 ?_
   refine pv_ 2 19 ?_
   refine pv_ 4 21 ?_
   refine pv_ 5 22 ?_
   refine pv_ 6 23 ?_
   refine tk_ 3 20 ?_
   refine tk_ 7 24 ?_
   refine on_ 8 25 (fun K hK => ?_)
   refine gs_ Try.func72 #[.agg #[.int .i64 ((rd_T78 l0 aA).f0), .int .i64 ((rd_T78 l0 aA).f1), .int .i64 ((rd_T78 l0 aA).f2), .int .i64 ((rd_T78 l0 aA).f3), .slice tA ((rd_T78 l0 aA).f4).length uA], .agg #[.int .i64 ((rd_T78 l1 aA).f0), .int .i64 ((rd_T78 l1 aA).f1), .int .i64 ((rd_T78 l1 aA).f2), .int .i64 ((rd_T78 l1 aA).f3), .slice vA ((rd_T78 l1 aA).f4).length wA]] rfl ma_ ?_
   with_reducible refine (laws_eqBatch.calls k1 ((rd_T78 l0 aA).f0) ((rd_T78 l0 aA).f1) ((rd_T78 l0 aA).f2) ((rd_T78 l0 aA).f3) _ _ ((rd_T78 l0 aA).f4) ((rd_T78 l1 aA).f0) ((rd_T78 l1 aA).f1) ((rd_T78 l1 aA).f2) ((rd_T78 l1 aA).f3) _ _ ((rd_T78 l1 aA).f4) true _ ?side1 ?side2 ?side3 ?side4 A7.out).mono ?_
   (case side1 => exact cs_ ((Kd.C_below pA.out HB.out)))
   (case side2 => exact xA.out)
   (case side3 => exact cs_ ((Kd.C_below sA.out HB.out)))
   (case side4 => exact yA.out)
   rintro e tB ⟨rfl, hb⟩
   refine ⟨_, rfl, ?_⟩
   replace HB := nb_ hb
   (try clear hb)
   (try clear hb2)
   (try clear hk)
   (try clear hi)
   refine hK.out _ _ ⟨(pc_ HB.out hw178_0), (pc_ HB.out hw178_1), (pc_ HB.out hw178_2), (pc_ HB.out hw178_3), (pc_ HB.out hw178_4), (pc_ HB.out hw179_0), (pc_ HB.out hw179_1), (pc_ HB.out hw179_2), (pc_ HB.out hw179_3), (pc_ HB.out hw179_4)⟩ (fun hHeld => ?_)
   clear hK K
   refine no_ ?_
   refine pv_ 9 26 ?_
   refine done_ (done_of HT_.out (by kernel_rfl)) ?_
   try go_wp2
   go_roundg k1
   case measure => have := lB.out; omega
   case rel => exact ⟨(wrap64 (aA + 1)), sr_, H', ⟨by have := lB.out; omega⟩, ⟨hb_⟩⟩

/-! ### laws_eqDone: function 99 -/
def laws_eqDone.f (a0_0 : Int) (a0_1 : Int) (a0_2 : Int) (a1_0 : Int) (a1_1 : Int) (a1_2 : Int) : Option (Bool) := if a0_0 = a1_0 then (if a0_1 = a1_1 then (if a0_2 = a1_2 then (some true) else (some false)) else (some false)) else (some false)
set_option maxHeartbeats 8000000 in
set_option maxRecDepth 100000 in
theorem laws_eqDone.calls (a0_0 : Int) (a0_1 : Int) (a0_2 : Int) (a1_0 : Int) (a1_1 : Int) (a1_2 : Int) (r : Bool) (w : World) (h : laws_eqDone.f a0_0 a0_1 a0_2 a1_0 a1_1 a1_2 = some r) :
  Calls Try.prog 99 #[.agg #[.int .i64 a0_0, .int .i64 a0_1, .int .i64 a0_2], .agg #[.int .i64 a1_0, .int .i64 a1_1, .int .i64 a1_2]] w fun e w' => e = .returned (.bool r) ∧ Below w.heap.size w w' := by
 have hu112 := Try.underlying112
 have HB := am_ (Below.refl w.heap.size w)
 have H : (if a0_0 = a1_0 then (if a0_1 = a1_1 then (if a0_2 = a1_2 then (some true) else (some false)) else (some false)) else (some false)) = some r := h
 clear h
 replace H := ite_ H
 obtain ⟨c3, H⟩ | ⟨c3, H⟩ := H
 rotate_left
 ·have yB : (a0_0 == a1_0) = false := beq_eq_false_iff_ne.mpr c3
  have zB : (a0_0 != a1_0) = true := bne_iff_ne.mpr c3
  obtain rfl := Option.some.inj H
  go_enter Try.func99, Try.ntmps99
  go_wp2_with (first | ((with_reducible refine gate_dst (N := 2) rfl ?_); refine bq_ (N := 2) #[.int .i64 a0_0, .int .i64 a0_1, .int .i64 a0_2] 112 ?_; intro gA hg sC aA hb; have dA := ge_ hg; replace HB := nb_ hb; clear hb hg) | ((with_reducible refine gate_dst (N := 3) rfl ?_); refine bq_ (N := 3) #[.int .i64 a1_0, .int .i64 a1_1, .int .i64 a1_2] 112 ?_; intro hA hg tC eA hb; have fA := ge1_ hg dA; replace HB := nc_ dA hb; have bA := nl_ aA hg; have cA := ng_ aA hg; replace aA := bK_ aA hb; clear hb hg; have kC := bA.out; have lC := cA.out; obtain ⟨iA, jA, kA, lA, mA, nA⟩ := cf3_ aA.out; obtain ⟨oA, pA, qA, rA, sA, tA⟩ := cf3_ eA.out))
  go_ret
  exact ⟨er_, hs2_ dA.out fA.out⟩
 have yB : (a0_0 == a1_0) = true := beq_iff_eq.mpr c3
 have zB : (a0_0 != a1_0) = false := bne_eq_false_iff_eq.mpr c3
 clear c3
 replace H := ite_ H
 obtain ⟨c4, H⟩ | ⟨c4, H⟩ := H
 rotate_left
 ·have aC : (a0_1 == a1_1) = false := beq_eq_false_iff_ne.mpr c4
  have bC : (a0_1 != a1_1) = true := bne_iff_ne.mpr c4
  obtain rfl := Option.some.inj H
  go_enter Try.func99, Try.ntmps99
  go_wp2_with (first | ((with_reducible refine gate_dst (N := 2) rfl ?_); refine bq_ (N := 2) #[.int .i64 a0_0, .int .i64 a0_1, .int .i64 a0_2] 112 ?_; intro gA hg uC aA hb; have dA := ge_ hg; replace HB := nb_ hb; clear hb hg) | ((with_reducible refine gate_dst (N := 3) rfl ?_); refine bq_ (N := 3) #[.int .i64 a1_0, .int .i64 a1_1, .int .i64 a1_2] 112 ?_; intro hA hg vC eA hb; have fA := ge1_ hg dA; replace HB := nc_ dA hb; have bA := nl_ aA hg; have cA := ng_ aA hg; replace aA := bK_ aA hb; clear hb hg; have mC := bA.out; have nC := cA.out; obtain ⟨uA, vA, wA, xA, yA, zA⟩ := cf3_ aA.out; obtain ⟨aB, bB, cB, dB, eB, fB⟩ := cf3_ eA.out))
  go_ret
  exact ⟨er_, hs2_ dA.out fA.out⟩
 have aC : (a0_1 == a1_1) = true := beq_iff_eq.mpr c4
 have bC : (a0_1 != a1_1) = false := bne_eq_false_iff_eq.mpr c4
 clear c4
 replace H := ite_ H
 obtain ⟨c5, H⟩ | ⟨c5, H⟩ := H
 ·have cC : (a0_2 == a1_2) = true := beq_iff_eq.mpr c5
  have dC : (a0_2 != a1_2) = false := bne_eq_false_iff_eq.mpr c5
  clear c5
  obtain rfl := Option.some.inj H
  go_enter Try.func99, Try.ntmps99
  go_wp2_with (first | ((with_reducible refine gate_dst (N := 2) rfl ?_); refine bq_ (N := 2) #[.int .i64 a0_0, .int .i64 a0_1, .int .i64 a0_2] 112 ?_; intro gA hg w6 aA hb; have dA := ge_ hg; replace HB := nb_ hb; clear hb hg) | ((with_reducible refine gate_dst (N := 3) rfl ?_); refine bq_ (N := 3) #[.int .i64 a1_0, .int .i64 a1_1, .int .i64 a1_2] 112 ?_; intro hA hg w7 eA hb; have fA := ge1_ hg dA; replace HB := nc_ dA hb; have bA := nl_ aA hg; have cA := ng_ aA hg; replace aA := bK_ aA hb; clear hb hg; have qC := bA.out; have rC := cA.out; obtain ⟨eC, fC, gC, hC, iC, jC⟩ := cf3_ aA.out; obtain ⟨gB, hB, iB, jB, kB, lB⟩ := cf3_ eA.out))
  go_ret
  exact ⟨er_, hs2_ dA.out fA.out⟩
 have cC : (a0_2 == a1_2) = false := beq_eq_false_iff_ne.mpr c5
 have dC : (a0_2 != a1_2) = true := bne_iff_ne.mpr c5
 obtain rfl := Option.some.inj H
 go_enter Try.func99, Try.ntmps99
 go_wp2_with (first | ((with_reducible refine gate_dst (N := 2) rfl ?_); refine bq_ (N := 2) #[.int .i64 a0_0, .int .i64 a0_1, .int .i64 a0_2] 112 ?_; intro gA hg wC aA hb; have dA := ge_ hg; replace HB := nb_ hb; clear hb hg) | ((with_reducible refine gate_dst (N := 3) rfl ?_); refine bq_ (N := 3) #[.int .i64 a1_0, .int .i64 a1_1, .int .i64 a1_2] 112 ?_; intro hA hg xC eA hb; have fA := ge1_ hg dA; replace HB := nc_ dA hb; have bA := nl_ aA hg; have cA := ng_ aA hg; replace aA := bK_ aA hb; clear hb hg; have oC := bA.out; have pC := cA.out; obtain ⟨mB, nB, oB, pB, qB, rB⟩ := cf3_ aA.out; obtain ⟨sB, tB, uB, vB, wB, xB⟩ := cf3_ eA.out))
 go_ret
 exact ⟨er_, hs2_ dA.out fA.out⟩

/-! ### laws_eqDoneS: function 94 -/
def laws_eqDoneS.l0 : Nat → List (S112) → List (S112) → Int → Option (Bool)
 | 0, _, _, _ => none
 | k + 1, x0, x1, x5 => if x5 < (x0.length : Int) then (if 0 ≤ x5 then (if x5 < (x1.length : Int) then ((laws_eqDone.f ((rd_T112 x0 x5).f0) ((rd_T112 x0 x5).f1) ((rd_T112 x0 x5).f2) ((rd_T112 x1 x5).f0) ((rd_T112 x1 x5).f1) ((rd_T112 x1 x5).f2)).bind fun t185 => (if t185 = true then (laws_eqDoneS.l0 k x0 x1 (wrap64 (x5 + 1))) else (some false))) else (none)) else (none)) else (some true)
def laws_eqDoneS.f (k : Nat) (l0 : List (S112)) (l1 : List (S112)) : Option (Bool) := if (l0.length : Int) = (l1.length : Int) then (laws_eqDoneS.l0 k l0 l1 0) else (some false)
theorem laws_eqDoneS.mono_l : ∀ k, (∀ y0 y1 y2, LeO (laws_eqDoneS.l0 k y0 y1 y2) (laws_eqDoneS.l0 (k + 1) y0 y1 y2))
 | 0 => fun _ _ _ r h => by simp [laws_eqDoneS.l0] at h
 | k + 1 => by
  have ih0 := laws_eqDoneS.mono_l k
  ·intro y0 y1 y2
   unfold laws_eqDoneS.l0
   repeat' first
   | (with_reducible first | apply ih0 | exact LeO.refl _ | exact LeO.none _ | refine LeO.ite ?_ ?_ | refine LeO.bind ?_ (fun _ => ?_))
theorem laws_eqDoneS.mono : ∀ a0 a1 k, LeO (laws_eqDoneS.f k a0 a1) (laws_eqDoneS.f (k + 1) a0 a1) := by
 intro a0 a1 k
 have ih0 := laws_eqDoneS.mono_l k
 unfold laws_eqDoneS.f
 repeat' first
   | (with_reducible first | apply ih0 | exact LeO.refl _ | exact LeO.none _ | refine LeO.ite ?_ ?_ | refine LeO.bind ?_ (fun _ => ?_))
def laws_eqDoneS.T6 : Bool × List (List Nat × List Nat) := (true, [([], []), ([], []), ([0, 1], [0, 1]), ([2], [2]), ([], []), ([], []), ([4, 5], [4, 5]), ([6], [6]), ([3, 7], [3, 7]), ([8], [8])])
def laws_eqDoneS.B6 : List Nat := [0, 0, 3, 7, 0, 0, 48, 112, 255, 511]
theorem laws_eqDoneS.tab6 : rtab .any (opsOf Try.f94 6) = laws_eqDoneS.T6 := by kernel_rfl
theorem laws_eqDoneS.bits6 : waitsOk laws_eqDoneS.T6.2 laws_eqDoneS.B6 = true := by kernel_rfl
set_option maxHeartbeats 8000000 in
set_option maxRecDepth 100000 in
theorem laws_eqDoneS.calls (k : Nat) (A0 : Option Addr) (c0 : Nat) (l0 : List (S112)) (A1 : Option Addr) (c1 : Nat) (l1 : List (S112)) (r : Bool) (w : World) (hr0 : Kd.C k112 w A0 l0.length l0) (hc0 : l0.length ≤ c0) (hr1 : Kd.C k112 w A1 l1.length l1) (hc1 : l1.length ≤ c1) (h : laws_eqDoneS.f k l0 l1 = some r) :
  Calls Try.prog 94 #[.slice A0 l0.length c0, .slice A1 l1.length c1] w fun e w' => e = .returned (.bool r) ∧ Below w.heap.size w w' := by
 have hu112 := Try.underlying112
 have tA := am_ hr0
 have zA := am_ hc0
 clear hr0 hc0
 have uA := am_ hr1
 have aB := am_ hc1
 clear hr1 hc1
 have HB := am_ (Below.refl w.heap.size w)
 have H : (if (l0.length : Int) = (l1.length : Int) then (laws_eqDoneS.l0 k l0 l1 0) else (some false)) = some r := h
 clear h
 replace H := ite_ H
 obtain ⟨c3, H⟩ | ⟨c3, H⟩ := H
 rotate_left
 ·have pA : ((l0.length : Int) == (l1.length : Int)) = false := beq_eq_false_iff_ne.mpr c3
  have qA : ((l0.length : Int) != (l1.length : Int)) = true := bne_iff_ne.mpr c3
  have rA : (l0.length == l1.length) = false := by first | simpa using c3 | (simp at c3 ⊢; omega)
  obtain rfl := Option.some.inj H
  go_enter Try.func94, Try.ntmps94
  go_wp2
  go_ret
  exact ⟨er_, hb_⟩
 have pA : ((l0.length : Int) == (l1.length : Int)) = true := beq_iff_eq.mpr c3
 have qA : ((l0.length : Int) != (l1.length : Int)) = false := bne_eq_false_iff_eq.mpr c3
 have rA : (l0.length == l1.length) = true := by first | simpa using c3 | (simp at c3 ⊢; omega)
 clear c3
 have H' := am_ H
 clear H
 go_enter Try.func94, Try.ntmps94
 go_wp2
 go_loopg [5] k (fun kq v5 w' => ∃ (aA : Int), v5 = .int .i64 aA ∧ Aside0 (laws_eqDoneS.l0 kq l0 l1 aA = some r) ∧ Aside0 (kq ≤ k) ∧ Aside0 (Below w.heap.size w w'))
 case atStart => exact ⟨(0), sr_, H', ⟨Nat.le_refl _⟩, ⟨hb_⟩⟩
 case round =>
  clear H'
  try clear c1
  try clear c3
  try clear pA
  try clear qA
  try clear rA
  obtain ⟨aA, rfl, HA, vA, HB⟩ := hrel
  cases gk with
  | zero => exact absurd HA.out (by simp [laws_eqDoneS.l0])
  | succ k1 =>
   have H := HA.out
   clear HA
   simp only [laws_eqDoneS.l0] at H
   replace H := ite_ H
   obtain ⟨c4, H⟩ | ⟨c4, H⟩ := H
   rotate_left
   ·have sA := decide_eq_false c4
    clear c4
    obtain rfl := Option.some.inj H
    go_wp2
    go_ret
    exact ⟨er_, hb_⟩
   have sA := decide_eq_true c4
   clear c4
   replace H := ifs_ H
   obtain ⟨c5, H⟩ := H
   have wA := decide_eq_true c5
   clear c5
   replace H := ifs_ H
   obtain ⟨c6, H⟩ := H
   have xA := decide_eq_true c6
   clear c6
   replace H := bnd_ H
   obtain ⟨yA, A7, H⟩ := H
   replace H := ifb_ H
   obtain ⟨rfl, H⟩ | ⟨rfl, H⟩ := H
   rotate_left
   ·obtain rfl := Option.some.inj H
    try go_wp2
    replace HB := qH_ HB
    have jA : 0 ≤ (aA : Int) := oa_
    have kA : aA < (l0.length : Int) := oa_
    obtain ⟨hA, nA, bA, cA, dA⟩ := at_T112 tA.out aA jA kA
    have hw183_2 := dA
    have hw183_1 := cA
    have hw183_0 := bA
    cases nA
    replace bA := pc_ HB.out bA
    replace cA := pc_ HB.out cA
    replace dA := pc_ HB.out dA
    replace jA := eq_true jA
    replace kA := eq_true kA
    have lA : 0 ≤ (aA : Int) := oa_
    have mA : aA < (l1.length : Int) := oa_
    obtain ⟨iA, oA, eA, fA, gA⟩ := at_T112 uA.out aA lA mA
    have hw184_2 := gA
    have hw184_1 := fA
    have hw184_0 := eA
    cases oA
    replace eA := pc_ HB.out eA
    replace fA := pc_ HB.out fA
    replace gA := pc_ HB.out gA
    replace lA := eq_true lA
    replace mA := eq_true mA
    refine start_ (n := 10) (S := fun w' => w'.cell? (hA.add ((aA).toNat * 3)) = some (.int .i64 ((rd_T112 l0 aA).f0)) ∧ w'.cell? ⟨(hA.add ((aA).toNat * 3)).block, (hA.add ((aA).toNat * 3)).off + 1, none⟩ = some (.int .i64 ((rd_T112 l0 aA).f1)) ∧ w'.cell? ⟨(hA.add ((aA).toNat * 3)).block, (hA.add ((aA).toNat * 3)).off + 2, none⟩ = some (.int .i64 ((rd_T112 l0 aA).f2)) ∧ w'.cell? (iA.add ((aA).toNat * 3)) = some (.int .i64 ((rd_T112 l1 aA).f0)) ∧ w'.cell? ⟨(iA.add ((aA).toNat * 3)).block, (iA.add ((aA).toNat * 3)).off + 1, none⟩ = some (.int .i64 ((rd_T112 l1 aA).f1)) ∧ w'.cell? ⟨(iA.add ((aA).toNat * 3)).block, (iA.add ((aA).toNat * 3)).off + 2, none⟩ = some (.int .i64 ((rd_T112 l1 aA).f2))) (ds := []) (List.replicate 10 false).toArray (by kernel_rfl) rfl rfl ⟨(pc_ HB.out hw183_0), (pc_ HB.out hw183_1), (pc_ HB.out hw183_2), (pc_ HB.out hw184_0), (pc_ HB.out hw184_1), (pc_ HB.out hw184_2)⟩ (fun hHeld => ?_); refine with_tabW laws_eqDoneS.tab6 laws_eqDoneS.bits6 (fun HT_ HW_ => ?_)
    generalize wr.drew = bB at HB bA cA dA eA fA gA hHeld ⊢
    refine pv_ 0 17 ?_
    refine pv_ 1 18 ?_
    refine pv_ 2 19 ?_
    refine pv_ 4 21 ?_
    refine pv_ 5 22 ?_
    refine pv_ 6 23 ?_
    refine tk_ 3 20 ?_
    refine tk_ 7 24 ?_
    refine on_ 8 25 (fun K hK => ?_)
    refine gs_ Try.func99 #[.agg #[.int .i64 ((rd_T112 l0 aA).f0), .int .i64 ((rd_T112 l0 aA).f1), .int .i64 ((rd_T112 l0 aA).f2)], .agg #[.int .i64 ((rd_T112 l1 aA).f0), .int .i64 ((rd_T112 l1 aA).f1), .int .i64 ((rd_T112 l1 aA).f2)]] rfl ma_ ?_
    with_reducible refine (laws_eqDone.calls ((rd_T112 l0 aA).f0) ((rd_T112 l0 aA).f1) ((rd_T112 l0 aA).f2) ((rd_T112 l1 aA).f0) ((rd_T112 l1 aA).f1) ((rd_T112 l1 aA).f2) false _ A7.out).mono ?_
    rintro e cB ⟨rfl, hb⟩
    refine ⟨_, rfl, ?_⟩
    replace HB := nb_ hb
    (try clear hb)
    (try clear hb2)
    (try clear hk)
    (try clear hi)
    refine hK.out _ _ ⟨(pc_ HB.out hw183_0), (pc_ HB.out hw183_1), (pc_ HB.out hw183_2), (pc_ HB.out hw184_0), (pc_ HB.out hw184_1), (pc_ HB.out hw184_2)⟩ (fun hHeld => ?_)
    clear hK K
    refine no_ ?_
    refine pv_ 9 26 ?_
    refine done_ (done_of HT_.out (by kernel_rfl)) ?_
    try go_wp2
    go_ret
    exact ⟨er_, hb_⟩
   have H' := am_ H
   clear H
   try go_wp2
   replace HB := qH_ HB
   have jA : 0 ≤ (aA : Int) := oa_
   have kA : aA < (l0.length : Int) := oa_
   obtain ⟨hA, nA, bA, cA, dA⟩ := at_T112 tA.out aA jA kA
   have hw183_2 := dA
   have hw183_1 := cA
   have hw183_0 := bA
   cases nA
   replace bA := pc_ HB.out bA
   replace cA := pc_ HB.out cA
   replace dA := pc_ HB.out dA
   replace jA := eq_true jA
   replace kA := eq_true kA
   have lA : 0 ≤ (aA : Int) := oa_
   have mA : aA < (l1.length : Int) := oa_
   obtain ⟨iA, oA, eA, fA, gA⟩ := at_T112 uA.out aA lA mA
   have hw184_2 := gA
   have hw184_1 := fA
   have hw184_0 := eA
   cases oA
   replace eA := pc_ HB.out eA
   replace fA := pc_ HB.out fA
   replace gA := pc_ HB.out gA
   replace lA := eq_true lA
   replace mA := eq_true mA
   refine start_ (n := 10) (S := fun w' => w'.cell? (hA.add ((aA).toNat * 3)) = some (.int .i64 ((rd_T112 l0 aA).f0)) ∧ w'.cell? ⟨(hA.add ((aA).toNat * 3)).block, (hA.add ((aA).toNat * 3)).off + 1, none⟩ = some (.int .i64 ((rd_T112 l0 aA).f1)) ∧ w'.cell? ⟨(hA.add ((aA).toNat * 3)).block, (hA.add ((aA).toNat * 3)).off + 2, none⟩ = some (.int .i64 ((rd_T112 l0 aA).f2)) ∧ w'.cell? (iA.add ((aA).toNat * 3)) = some (.int .i64 ((rd_T112 l1 aA).f0)) ∧ w'.cell? ⟨(iA.add ((aA).toNat * 3)).block, (iA.add ((aA).toNat * 3)).off + 1, none⟩ = some (.int .i64 ((rd_T112 l1 aA).f1)) ∧ w'.cell? ⟨(iA.add ((aA).toNat * 3)).block, (iA.add ((aA).toNat * 3)).off + 2, none⟩ = some (.int .i64 ((rd_T112 l1 aA).f2))) (ds := []) (List.replicate 10 false).toArray (by kernel_rfl) rfl rfl ⟨(pc_ HB.out hw183_0), (pc_ HB.out hw183_1), (pc_ HB.out hw183_2), (pc_ HB.out hw184_0), (pc_ HB.out hw184_1), (pc_ HB.out hw184_2)⟩ (fun hHeld => ?_); refine with_tabW laws_eqDoneS.tab6 laws_eqDoneS.bits6 (fun HT_ HW_ => ?_)
   generalize wr.drew = w9 at HB bA cA dA eA fA gA hHeld ⊢
   refine pv_ 0 17 ?_
   refine pv_ 1 18 ?_
   refine pv_ 2 19 ?_
   refine pv_ 4 21 ?_
   refine pv_ 5 22 ?_
   refine pv_ 6 23 ?_
   refine tk_ 3 20 ?_
   refine tk_ 7 24 ?_
   refine on_ 8 25 (fun K hK => ?_)
   refine gs_ Try.func99 #[.agg #[.int .i64 ((rd_T112 l0 aA).f0), .int .i64 ((rd_T112 l0 aA).f1), .int .i64 ((rd_T112 l0 aA).f2)], .agg #[.int .i64 ((rd_T112 l1 aA).f0), .int .i64 ((rd_T112 l1 aA).f1), .int .i64 ((rd_T112 l1 aA).f2)]] rfl ma_ ?_
   with_reducible refine (laws_eqDone.calls ((rd_T112 l0 aA).f0) ((rd_T112 l0 aA).f1) ((rd_T112 l0 aA).f2) ((rd_T112 l1 aA).f0) ((rd_T112 l1 aA).f1) ((rd_T112 l1 aA).f2) true _ A7.out).mono ?_
   rintro e dB ⟨rfl, hb⟩
   refine ⟨_, rfl, ?_⟩
   replace HB := nb_ hb
   (try clear hb)
   (try clear hb2)
   (try clear hk)
   (try clear hi)
   refine hK.out _ _ ⟨(pc_ HB.out hw183_0), (pc_ HB.out hw183_1), (pc_ HB.out hw183_2), (pc_ HB.out hw184_0), (pc_ HB.out hw184_1), (pc_ HB.out hw184_2)⟩ (fun hHeld => ?_)
   clear hK K
   refine no_ ?_
   refine pv_ 9 26 ?_
   refine done_ (done_of HT_.out (by kernel_rfl)) ?_
   try go_wp2
   go_roundg k1
   case measure => have := vA.out; omega
   case rel => exact ⟨(wrap64 (aA + 1)), sr_, H', ⟨by have := vA.out; omega⟩, ⟨hb_⟩⟩
end Go.Proofs.Ytojdaolclcmalaa.QFnExactAskPart
