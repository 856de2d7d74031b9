/- Functions that one statement reaches: of each a plain function, and the proof that calls come to it. Conditions: those that each contract names. Written by a program of this repository. -/
import Derived.Test.YtojdaolclcmalaaVPlayAsksa
import Derived.Test.YtojdaolclcmalaaQFnExactPlayAsksx2
import Derived.Test.YtojdaolclcmalaaQFnExactPlayAsksx4
namespace Go.Proofs.Ytojdaolclcmalaa.QFnExactPlayAsks
open Go.RowKit Go.Proofs.YtojdaolclcmalaaW.PrintWords Go.Proofs.YtojdaolclcmalaaW.PrintLast Go.Proofs.YtojdaolclcmalaaW.PrintMore
attribute [local go_sem] max2_int min2_int max_two min_two max_three min_three max_four min_four Go.Proofs.YtojdaolclcmalaaW.PrintMore2.isSome_setCell   -- for this text's walks alone
set_option linter.unusedVariables false
set_option linter.unusedSimpArgs false

/-! ### laws_heldDoneS: function 85 -/
def laws_heldDoneS.l0 : Nat → List (S112) → Int → Int → Option (Int)
 | 0, _, _, _ => none
 | k + 1, x0, x1, x5 => if x5 < (x0.length : Int) then (if 0 ≤ x5 then (if ((rd_T112 x0 x5).f0) = x1 then (if ((rd_T112 x0 x5).f1) = (wrap64 (x1 + 1)) then (if ((rd_T112 x0 x5).f2) = (wrap64 ((wrap64 (x1 + 1)) + 1)) then (laws_heldDoneS.l0 k x0 (wrap64 ((wrap64 ((wrap64 (x1 + 1)) + 1)) + 1)) (wrap64 (x5 + 1))) else (some (-1))) else (some (-1))) else (some (-1))) else (none)) else (some x1)
def laws_heldDoneS.f (k : Nat) (l0 : List (S112)) (a1 : Int) : Option (Int) := laws_heldDoneS.l0 k l0 a1 0
theorem laws_heldDoneS.mono_l : ∀ k, (∀ y0 y1 y2, LeO (laws_heldDoneS.l0 k y0 y1 y2) (laws_heldDoneS.l0 (k + 1) y0 y1 y2))
 | 0 => fun _ _ _ r h => by simp [laws_heldDoneS.l0] at h
 | k + 1 => by
  have ih0 := laws_heldDoneS.mono_l k
  ·intro y0 y1 y2
   unfold laws_heldDoneS.l0
   repeat' first
   | (with_reducible first | apply ih0 | exact LeO.refl _ | exact LeO.none _ | refine LeO.ite ?_ ?_ | refine LeO.bind ?_ (fun _ => ?_))
theorem laws_heldDoneS.mono : ∀ a0 a1 k, LeO (laws_heldDoneS.f k a0 a1) (laws_heldDoneS.f (k + 1) a0 a1) := by
 intro a0 a1 k
 have ih0 := laws_heldDoneS.mono_l k
 unfold laws_heldDoneS.f
 repeat' first
   | (with_reducible first | apply ih0 | exact LeO.refl _ | exact LeO.none _ | refine LeO.ite ?_ ?_ | refine LeO.bind ?_ (fun _ => ?_))
set_option maxHeartbeats 8000000 in
set_option maxRecDepth 100000 in
theorem laws_heldDoneS.calls (k : Nat) (A0 : Option Addr) (c0 : Nat) (l0 : List (S112)) (a1 : Int) (r : Int) (w : World) (hr0 : Kd.C k112 w A0 l0.length l0) (hc0 : l0.length ≤ c0) (h : laws_heldDoneS.f k l0 a1 = some r) :
  Calls Try.prog 85 #[.slice A0 l0.length c0, .int .i64 a1] w fun e w' => e = .returned (.int .i64 r) ∧ Drawn0 w w' := by
 have HR0 := am_ hr0
 have HC0 := am_ hc0
 clear hr0 hc0
 have H : (laws_heldDoneS.l0 k l0 a1 0) = some r := h
 clear h
 have H' := am_ H
 clear H
 go_enter Try.func85, Try.ntmps85
 go_wp2
 go_loopg [1, 5] k (fun kq v1 v5 w' => ∃ (x1_1 : Int) (x5_1 : Int), v1 = .int .i64 x1_1 ∧ v5 = .int .i64 x5_1 ∧ Aside0 (laws_heldDoneS.l0 kq l0 x1_1 x5_1 = some r) ∧ Aside0 (kq ≤ k) ∧ Drawn0 w w')
 case atStart => exact ⟨(a1), (0), sr_, sr_, H', ⟨Nat.le_refl _⟩, dr_⟩
 case round =>
  clear H'
  obtain ⟨x1_1, x5_1, rfl, rfl, HA, HK1, ⟨m1, rfl⟩⟩ := hrel
  cases gk with
  | zero => exact absurd HA.out (by simp [laws_heldDoneS.l0])
  | succ k1 =>
   have H := HA.out
   clear HA
   simp only [laws_heldDoneS.l0] at H
   replace H := ite_ H
   obtain ⟨c3, H⟩ | ⟨c3, H⟩ := H
   rotate_left
   ·have c3b0 := decide_eq_false c3
    clear c3
    obtain rfl := Option.some.inj H
    go_wp2
    go_ret
    exact ⟨by first | rfl | (simp; done) | (simp [*]; done), dr_⟩
   have c3b0 := decide_eq_true c3
   clear c3
   replace H := ifs_ H
   obtain ⟨c4, H⟩ := H
   have c4b0 := decide_eq_true c4
   clear c4
   replace H := ite_ H
   obtain ⟨c5, H⟩ | ⟨c5, H⟩ := H
   rotate_left
   ·have c5b0 : (((rd_T112 l0 x5_1).f0) == x1_1) = false := beq_eq_false_iff_ne.mpr c5
    have c5b1 : (((rd_T112 l0 x5_1).f0) != x1_1) = true := bne_iff_ne.mpr c5
    obtain rfl := Option.some.inj H
    have p370 : 0 ≤ (x5_1 : Int) := oa_
    have q370 : x5_1 < (l0.length : Int) := oa_
    obtain ⟨ad370, e370, hx370_0, hx370_1, hx370_2⟩ := at_T112 HR0.out x5_1 p370 q370
    cases e370
    replace p370 := eq_true p370
    replace q370 := eq_true q370
    go_wp2
    go_ret
    exact ⟨by first | rfl | (simp; done) | (simp [*]; done), dr_⟩
   have c5b0 : (((rd_T112 l0 x5_1).f0) == x1_1) = true := beq_iff_eq.mpr c5
   have c5b1 : (((rd_T112 l0 x5_1).f0) != x1_1) = false := bne_eq_false_iff_eq.mpr c5
   clear c5
   replace H := ite_ H
   obtain ⟨c6, H⟩ | ⟨c6, H⟩ := H
   rotate_left
   ·have c6b0 : (((rd_T112 l0 x5_1).f1) == (wrap64 (x1_1 + 1))) = false := beq_eq_false_iff_ne.mpr c6
    have c6b1 : (((rd_T112 l0 x5_1).f1) != (wrap64 (x1_1 + 1))) = true := bne_iff_ne.mpr c6
    obtain rfl := Option.some.inj H
    have p370 : 0 ≤ (x5_1 : Int) := oa_
    have q370 : x5_1 < (l0.length : Int) := oa_
    obtain ⟨ad370, e370, hx370_0, hx370_1, hx370_2⟩ := at_T112 HR0.out x5_1 p370 q370
    cases e370
    replace p370 := eq_true p370
    replace q370 := eq_true q370
    have p371 : 0 ≤ (x5_1 : Int) := oa_
    have q371 : x5_1 < (l0.length : Int) := oa_
    obtain ⟨ad371, e371, hx371_0, hx371_1, hx371_2⟩ := at_T112 HR0.out x5_1 p371 q371
    obtain rfl : ad370 = ad371 := (by injection e371)
    replace p371 := eq_true p371
    replace q371 := eq_true q371
    go_wp2
    go_ret
    exact ⟨by first | rfl | (simp; done) | (simp [*]; done), dr_⟩
   have c6b0 : (((rd_T112 l0 x5_1).f1) == (wrap64 (x1_1 + 1))) = true := beq_iff_eq.mpr c6
   have c6b1 : (((rd_T112 l0 x5_1).f1) != (wrap64 (x1_1 + 1))) = false := bne_eq_false_iff_eq.mpr c6
   clear c6
   replace H := ite_ H
   obtain ⟨c7, H⟩ | ⟨c7, H⟩ := H
   rotate_left
   ·have c7b0 : (((rd_T112 l0 x5_1).f2) == (wrap64 ((wrap64 (x1_1 + 1)) + 1))) = false := beq_eq_false_iff_ne.mpr c7
    have c7b1 : (((rd_T112 l0 x5_1).f2) != (wrap64 ((wrap64 (x1_1 + 1)) + 1))) = true := bne_iff_ne.mpr c7
    obtain rfl := Option.some.inj H
    have p370 : 0 ≤ (x5_1 : Int) := oa_
    have q370 : x5_1 < (l0.length : Int) := oa_
    obtain ⟨ad370, e370, hx370_0, hx370_1, hx370_2⟩ := at_T112 HR0.out x5_1 p370 q370
    cases e370
    replace p370 := eq_true p370
    replace q370 := eq_true q370
    have p371 : 0 ≤ (x5_1 : Int) := oa_
    have q371 : x5_1 < (l0.length : Int) := oa_
    obtain ⟨ad371, e371, hx371_0, hx371_1, hx371_2⟩ := at_T112 HR0.out x5_1 p371 q371
    obtain rfl : ad370 = ad371 := (by injection e371)
    replace p371 := eq_true p371
    replace q371 := eq_true q371
    have p372 : 0 ≤ (x5_1 : Int) := oa_
    have q372 : x5_1 < (l0.length : Int) := oa_
    obtain ⟨ad372, e372, hx372_0, hx372_1, hx372_2⟩ := at_T112 HR0.out x5_1 p372 q372
    obtain rfl : ad370 = ad372 := (by injection e372)
    replace p372 := eq_true p372
    replace q372 := eq_true q372
    go_wp2
    go_ret
    exact ⟨by first | rfl | (simp; done) | (simp [*]; done), dr_⟩
   have c7b0 : (((rd_T112 l0 x5_1).f2) == (wrap64 ((wrap64 (x1_1 + 1)) + 1))) = true := beq_iff_eq.mpr c7
   have c7b1 : (((rd_T112 l0 x5_1).f2) != (wrap64 ((wrap64 (x1_1 + 1)) + 1))) = false := bne_eq_false_iff_eq.mpr c7
   clear c7
   have H' := am_ H
   clear H
   have p370 : 0 ≤ (x5_1 : Int) := oa_
   have q370 : x5_1 < (l0.length : Int) := oa_
   obtain ⟨ad370, e370, hx370_0, hx370_1, hx370_2⟩ := at_T112 HR0.out x5_1 p370 q370
   cases e370
   replace p370 := eq_true p370
   replace q370 := eq_true q370
   have p371 : 0 ≤ (x5_1 : Int) := oa_
   have q371 : x5_1 < (l0.length : Int) := oa_
   obtain ⟨ad371, e371, hx371_0, hx371_1, hx371_2⟩ := at_T112 HR0.out x5_1 p371 q371
   obtain rfl : ad370 = ad371 := (by injection e371)
   replace p371 := eq_true p371
   replace q371 := eq_true q371
   have p372 : 0 ≤ (x5_1 : Int) := oa_
   have q372 : x5_1 < (l0.length : Int) := oa_
   obtain ⟨ad372, e372, hx372_0, hx372_1, hx372_2⟩ := at_T112 HR0.out x5_1 p372 q372
   obtain rfl : ad370 = ad372 := (by injection e372)
   replace p372 := eq_true p372
   replace q372 := eq_true q372
   go_wp2
   go_roundg k1
   case measure => have := HK1.out; omega
   case rel => exact ⟨(wrap64 ((wrap64 ((wrap64 (x1_1 + 1)) + 1)) + 1)), (wrap64 (x5_1 + 1)), sr_, sr_, H', ⟨by have := HK1.out; omega⟩, dr_⟩

/-! ### laws_heldProducerS: function 59 -/
def laws_heldProducerS.l0 : Nat → List (S81) → Int → Int → Option (Int)
 | 0, _, _, _ => none
 | k + 1, x0, x1, x5 => if x5 < (x0.length : Int) then (if 0 ≤ x5 then (if ((rd_T81 x0 x5).f0) = x1 then (if ((rd_T81 x0 x5).f1) = (wrap64 (x1 + 1)) then (if ((rd_T81 x0 x5).f2) = (wrap64 ((wrap64 (x1 + 1)) + 1)) then ((laws_heldDoneS.f k ((rd_T81 x0 x5).f3) (wrap64 ((wrap64 ((wrap64 (x1 + 1)) + 1)) + 1))).bind fun t377 => (if t377 < 0 then (some (-1)) else (laws_heldProducerS.l0 k x0 t377 (wrap64 (x5 + 1))))) else (some (-1))) else (some (-1))) else (some (-1))) else (none)) else (some x1)
def laws_heldProducerS.f (k : Nat) (l0 : List (S81)) (a1 : Int) : Option (Int) := laws_heldProducerS.l0 k l0 a1 0
theorem laws_heldProducerS.mono_l : ∀ k, (∀ y0 y1 y2, LeO (laws_heldProducerS.l0 k y0 y1 y2) (laws_heldProducerS.l0 (k + 1) y0 y1 y2))
 | 0 => fun _ _ _ r h => by simp [laws_heldProducerS.l0] at h
 | k + 1 => by
  have ih0 := laws_heldProducerS.mono_l k
  ·intro y0 y1 y2
   unfold laws_heldProducerS.l0
   repeat' first
   | (with_reducible first | apply ih0 | apply laws_heldDoneS.mono | exact LeO.refl _ | exact LeO.none _ | refine LeO.ite ?_ ?_ | refine LeO.bind ?_ (fun _ => ?_))
theorem laws_heldProducerS.mono : ∀ a0 a1 k, LeO (laws_heldProducerS.f k a0 a1) (laws_heldProducerS.f (k + 1) a0 a1) := by
 intro a0 a1 k
 have ih0 := laws_heldProducerS.mono_l k
 unfold laws_heldProducerS.f
 repeat' first
   | (with_reducible first | apply ih0 | apply laws_heldDoneS.mono | exact LeO.refl _ | exact LeO.none _ | refine LeO.ite ?_ ?_ | refine LeO.bind ?_ (fun _ => ?_))
set_option maxHeartbeats 8000000 in
set_option maxRecDepth 100000 in
theorem laws_heldProducerS.calls (k : Nat) (A0 : Option Addr) (c0 : Nat) (l0 : List (S81)) (a1 : Int) (r : Int) (w : World) (hr0 : Kd.C k81 w A0 l0.length l0) (hc0 : l0.length ≤ c0) (h : laws_heldProducerS.f k l0 a1 = some r) :
  Calls Try.prog 59 #[.slice A0 l0.length c0, .int .i64 a1] w fun e w' => e = .returned (.int .i64 r) ∧ Drawn0 w w' := by
 have HR0 := am_ hr0
 have HC0 := am_ hc0
 clear hr0 hc0
 have H : (laws_heldProducerS.l0 k l0 a1 0) = some r := h
 clear h
 have H' := am_ H
 clear H
 go_enter Try.func59, Try.ntmps59
 go_wp2
 go_loopg [1, 5] k (fun kq v1 v5 w' => ∃ (x1_1 : Int) (x5_1 : Int), v1 = .int .i64 x1_1 ∧ v5 = .int .i64 x5_1 ∧ Aside0 (laws_heldProducerS.l0 kq l0 x1_1 x5_1 = some r) ∧ Aside0 (kq ≤ k) ∧ Drawn0 w w')
 case atStart => exact ⟨(a1), (0), sr_, sr_, H', ⟨Nat.le_refl _⟩, dr_⟩
 case round =>
  clear H'
  obtain ⟨x1_1, x5_1, rfl, rfl, HA, HK1, ⟨m1, rfl⟩⟩ := hrel
  cases gk with
  | zero => exact absurd HA.out (by simp [laws_heldProducerS.l0])
  | succ k1 =>
   have H := HA.out
   clear HA
   simp only [laws_heldProducerS.l0] at H
   replace H := ite_ H
   obtain ⟨c3, H⟩ | ⟨c3, H⟩ := H
   rotate_left
   ·have c3b0 := decide_eq_false c3
    clear c3
    obtain rfl := Option.some.inj H
    go_wp2
    go_ret
    exact ⟨by first | rfl | (simp; done) | (simp [*]; done), dr_⟩
   have c3b0 := decide_eq_true c3
   clear c3
   replace H := ifs_ H
   obtain ⟨c4, H⟩ := H
   have c4b0 := decide_eq_true c4
   clear c4
   replace H := ite_ H
   obtain ⟨c5, H⟩ | ⟨c5, H⟩ := H
   rotate_left
   ·have c5b0 : (((rd_T81 l0 x5_1).f0) == x1_1) = false := beq_eq_false_iff_ne.mpr c5
    have c5b1 : (((rd_T81 l0 x5_1).f0) != x1_1) = true := bne_iff_ne.mpr c5
    obtain rfl := Option.some.inj H
    have p373 : 0 ≤ (x5_1 : Int) := oa_
    have q373 : x5_1 < (l0.length : Int) := oa_
    obtain ⟨ad373, A373_3, c373_3, e373, hx373_0, hx373_1, hx373_2, hx373_3, hl373_3, hi373_3⟩ := at_T81 HR0.out x5_1 p373 q373
    cases e373
    have HR373_3 := am_ hi373_3
    have HC373_3 := am_ hl373_3
    clear hi373_3 hl373_3
    replace p373 := eq_true p373
    replace q373 := eq_true q373
    go_wp2
    go_ret
    exact ⟨by first | rfl | (simp; done) | (simp [*]; done), dr_⟩
   have c5b0 : (((rd_T81 l0 x5_1).f0) == x1_1) = true := beq_iff_eq.mpr c5
   have c5b1 : (((rd_T81 l0 x5_1).f0) != x1_1) = false := bne_eq_false_iff_eq.mpr c5
   clear c5
   replace H := ite_ H
   obtain ⟨c6, H⟩ | ⟨c6, H⟩ := H
   rotate_left
   ·have c6b0 : (((rd_T81 l0 x5_1).f1) == (wrap64 (x1_1 + 1))) = false := beq_eq_false_iff_ne.mpr c6
    have c6b1 : (((rd_T81 l0 x5_1).f1) != (wrap64 (x1_1 + 1))) = true := bne_iff_ne.mpr c6
    obtain rfl := Option.some.inj H
    have p373 : 0 ≤ (x5_1 : Int) := oa_
    have q373 : x5_1 < (l0.length : Int) := oa_
    obtain ⟨ad373, A373_3, c373_3, e373, hx373_0, hx373_1, hx373_2, hx373_3, hl373_3, hi373_3⟩ := at_T81 HR0.out x5_1 p373 q373
    cases e373
    have HR373_3 := am_ hi373_3
    have HC373_3 := am_ hl373_3
    clear hi373_3 hl373_3
    replace p373 := eq_true p373
    replace q373 := eq_true q373
    have p374 : 0 ≤ (x5_1 : Int) := oa_
    have q374 : x5_1 < (l0.length : Int) := oa_
    obtain ⟨ad374, A374_3, c374_3, e374, hx374_0, hx374_1, hx374_2, hx374_3, hl374_3, hi374_3⟩ := at_T81 HR0.out x5_1 p374 q374
    obtain rfl : ad373 = ad374 := (by injection e374)
    have HR374_3 := am_ hi374_3
    have HC374_3 := am_ hl374_3
    clear hi374_3 hl374_3
    replace p374 := eq_true p374
    replace q374 := eq_true q374
    have ea_ := Option.some.inj (hx373_3.symm.trans hx374_3)
    injection ea_ with ea_ en_ ec_
    subst ea_
    subst ec_
    clear en_
    go_wp2
    go_ret
    exact ⟨by first | rfl | (simp; done) | (simp [*]; done), dr_⟩
   have c6b0 : (((rd_T81 l0 x5_1).f1) == (wrap64 (x1_1 + 1))) = true := beq_iff_eq.mpr c6
   have c6b1 : (((rd_T81 l0 x5_1).f1) != (wrap64 (x1_1 + 1))) = false := bne_eq_false_iff_eq.mpr c6
   clear c6
   replace H := ite_ H
   obtain ⟨c7, H⟩ | ⟨c7, H⟩ := H
   rotate_left
   ·have c7b0 : (((rd_T81 l0 x5_1).f2) == (wrap64 ((wrap64 (x1_1 + 1)) + 1))) = false := beq_eq_false_iff_ne.mpr c7
    have c7b1 : (((rd_T81 l0 x5_1).f2) != (wrap64 ((wrap64 (x1_1 + 1)) + 1))) = true := bne_iff_ne.mpr c7
    obtain rfl := Option.some.inj H
    have p373 : 0 ≤ (x5_1 : Int) := oa_
    have q373 : x5_1 < (l0.length : Int) := oa_
    obtain ⟨ad373, A373_3, c373_3, e373, hx373_0, hx373_1, hx373_2, hx373_3, hl373_3, hi373_3⟩ := at_T81 HR0.out x5_1 p373 q373
    cases e373
    have HR373_3 := am_ hi373_3
    have HC373_3 := am_ hl373_3
    clear hi373_3 hl373_3
    replace p373 := eq_true p373
    replace q373 := eq_true q373
    have p374 : 0 ≤ (x5_1 : Int) := oa_
    have q374 : x5_1 < (l0.length : Int) := oa_
    obtain ⟨ad374, A374_3, c374_3, e374, hx374_0, hx374_1, hx374_2, hx374_3, hl374_3, hi374_3⟩ := at_T81 HR0.out x5_1 p374 q374
    obtain rfl : ad373 = ad374 := (by injection e374)
    have HR374_3 := am_ hi374_3
    have HC374_3 := am_ hl374_3
    clear hi374_3 hl374_3
    replace p374 := eq_true p374
    replace q374 := eq_true q374
    have ea_ := Option.some.inj (hx373_3.symm.trans hx374_3)
    injection ea_ with ea_ en_ ec_
    subst ea_
    subst ec_
    clear en_
    have p375 : 0 ≤ (x5_1 : Int) := oa_
    have q375 : x5_1 < (l0.length : Int) := oa_
    obtain ⟨ad375, A375_3, c375_3, e375, hx375_0, hx375_1, hx375_2, hx375_3, hl375_3, hi375_3⟩ := at_T81 HR0.out x5_1 p375 q375
    obtain rfl : ad373 = ad375 := (by injection e375)
    have HR375_3 := am_ hi375_3
    have HC375_3 := am_ hl375_3
    clear hi375_3 hl375_3
    replace p375 := eq_true p375
    replace q375 := eq_true q375
    have ea_ := Option.some.inj (hx373_3.symm.trans hx375_3)
    injection ea_ with ea_ en_ ec_
    subst ea_
    subst ec_
    clear en_
    go_wp2
    go_ret
    exact ⟨by first | rfl | (simp; done) | (simp [*]; done), dr_⟩
   have c7b0 : (((rd_T81 l0 x5_1).f2) == (wrap64 ((wrap64 (x1_1 + 1)) + 1))) = true := beq_iff_eq.mpr c7
   have c7b1 : (((rd_T81 l0 x5_1).f2) != (wrap64 ((wrap64 (x1_1 + 1)) + 1))) = false := bne_eq_false_iff_eq.mpr c7
   clear c7
   replace H := bnd_ H
   obtain ⟨t377, A8, H⟩ := H
   replace H := ite_ H
   obtain ⟨c9, H⟩ | ⟨c9, H⟩ := H
   ·have c9b0 := decide_eq_true c9
    clear c9
    obtain rfl := Option.some.inj H
    have p373 : 0 ≤ (x5_1 : Int) := oa_
    have q373 : x5_1 < (l0.length : Int) := oa_
    obtain ⟨ad373, A373_3, c373_3, e373, hx373_0, hx373_1, hx373_2, hx373_3, hl373_3, hi373_3⟩ := at_T81 HR0.out x5_1 p373 q373
    cases e373
    have HR373_3 := am_ hi373_3
    have HC373_3 := am_ hl373_3
    clear hi373_3 hl373_3
    replace p373 := eq_true p373
    replace q373 := eq_true q373
    have p374 : 0 ≤ (x5_1 : Int) := oa_
    have q374 : x5_1 < (l0.length : Int) := oa_
    obtain ⟨ad374, A374_3, c374_3, e374, hx374_0, hx374_1, hx374_2, hx374_3, hl374_3, hi374_3⟩ := at_T81 HR0.out x5_1 p374 q374
    obtain rfl : ad373 = ad374 := (by injection e374)
    have HR374_3 := am_ hi374_3
    have HC374_3 := am_ hl374_3
    clear hi374_3 hl374_3
    replace p374 := eq_true p374
    replace q374 := eq_true q374
    have ea_ := Option.some.inj (hx373_3.symm.trans hx374_3)
    injection ea_ with ea_ en_ ec_
    subst ea_
    subst ec_
    clear en_
    have p375 : 0 ≤ (x5_1 : Int) := oa_
    have q375 : x5_1 < (l0.length : Int) := oa_
    obtain ⟨ad375, A375_3, c375_3, e375, hx375_0, hx375_1, hx375_2, hx375_3, hl375_3, hi375_3⟩ := at_T81 HR0.out x5_1 p375 q375
    obtain rfl : ad373 = ad375 := (by injection e375)
    have HR375_3 := am_ hi375_3
    have HC375_3 := am_ hl375_3
    clear hi375_3 hl375_3
    replace p375 := eq_true p375
    replace q375 := eq_true q375
    have ea_ := Option.some.inj (hx373_3.symm.trans hx375_3)
    injection ea_ with ea_ en_ ec_
    subst ea_
    subst ec_
    clear en_
    have p376 : 0 ≤ (x5_1 : Int) := oa_
    have q376 : x5_1 < (l0.length : Int) := oa_
    obtain ⟨ad376, A376_3, c376_3, e376, hx376_0, hx376_1, hx376_2, hx376_3, hl376_3, hi376_3⟩ := at_T81 HR0.out x5_1 p376 q376
    obtain rfl : ad373 = ad376 := (by injection e376)
    have HR376_3 := am_ hi376_3
    have HC376_3 := am_ hl376_3
    clear hi376_3 hl376_3
    replace p376 := eq_true p376
    replace q376 := eq_true q376
    have ea_ := Option.some.inj (hx373_3.symm.trans hx376_3)
    injection ea_ with ea_ en_ ec_
    subst ea_
    subst ec_
    clear en_
    go_wp2_with (first | ((with_reducible refine gate_callee (f := 85) rfl ?_); refine gl_ 45 Try.func85 #[.slice A373_3 ((rd_T81 l0 x5_1).f3).length c373_3, .int .i64 (wrap64 ((wrap64 ((wrap64 (x1_1 + 1)) + 1)) + 1))] rfl ma_ ?_; (with_reducible refine (laws_heldDoneS.calls k1 _ _ ((rd_T81 l0 x5_1).f3) (wrap64 ((wrap64 ((wrap64 (x1_1 + 1)) + 1)) + 1)) t377 _ ?side1 ?side2 A8.out).mono ?_); (case side1 => exact cs_ (HR376_3.out)); (case side2 => exact HC376_3.out); rintro e w' ⟨rfl, ⟨nd, rfl⟩⟩; refine ⟨_, rfl, ?_⟩))
    go_ret
    exact ⟨by first | rfl | (simp; done) | (simp [*]; done), dr_⟩
   have c9b0 := decide_eq_false c9
   clear c9
   have H' := am_ H
   clear H
   have p373 : 0 ≤ (x5_1 : Int) := oa_
   have q373 : x5_1 < (l0.length : Int) := oa_
   obtain ⟨ad373, A373_3, c373_3, e373, hx373_0, hx373_1, hx373_2, hx373_3, hl373_3, hi373_3⟩ := at_T81 HR0.out x5_1 p373 q373
   cases e373
   have HR373_3 := am_ hi373_3
   have HC373_3 := am_ hl373_3
   clear hi373_3 hl373_3
   replace p373 := eq_true p373
   replace q373 := eq_true q373
   have p374 : 0 ≤ (x5_1 : Int) := oa_
   have q374 : x5_1 < (l0.length : Int) := oa_
   obtain ⟨ad374, A374_3, c374_3, e374, hx374_0, hx374_1, hx374_2, hx374_3, hl374_3, hi374_3⟩ := at_T81 HR0.out x5_1 p374 q374
   obtain rfl : ad373 = ad374 := (by injection e374)
   have HR374_3 := am_ hi374_3
   have HC374_3 := am_ hl374_3
   clear hi374_3 hl374_3
   replace p374 := eq_true p374
   replace q374 := eq_true q374
   have ea_ := Option.some.inj (hx373_3.symm.trans hx374_3)
   injection ea_ with ea_ en_ ec_
   subst ea_
   subst ec_
   clear en_
   have p375 : 0 ≤ (x5_1 : Int) := oa_
   have q375 : x5_1 < (l0.length : Int) := oa_
   obtain ⟨ad375, A375_3, c375_3, e375, hx375_0, hx375_1, hx375_2, hx375_3, hl375_3, hi375_3⟩ := at_T81 HR0.out x5_1 p375 q375
   obtain rfl : ad373 = ad375 := (by injection e375)
   have HR375_3 := am_ hi375_3
   have HC375_3 := am_ hl375_3
   clear hi375_3 hl375_3
   replace p375 := eq_true p375
   replace q375 := eq_true q375
   have ea_ := Option.some.inj (hx373_3.symm.trans hx375_3)
   injection ea_ with ea_ en_ ec_
   subst ea_
   subst ec_
   clear en_
   have p376 : 0 ≤ (x5_1 : Int) := oa_
   have q376 : x5_1 < (l0.length : Int) := oa_
   obtain ⟨ad376, A376_3, c376_3, e376, hx376_0, hx376_1, hx376_2, hx376_3, hl376_3, hi376_3⟩ := at_T81 HR0.out x5_1 p376 q376
   obtain rfl : ad373 = ad376 := (by injection e376)
   have HR376_3 := am_ hi376_3
   have HC376_3 := am_ hl376_3
   clear hi376_3 hl376_3
   replace p376 := eq_true p376
   replace q376 := eq_true q376
   have ea_ := Option.some.inj (hx373_3.symm.trans hx376_3)
   injection ea_ with ea_ en_ ec_
   subst ea_
   subst ec_
   clear en_
   go_wp2_with (first | ((with_reducible refine gate_callee (f := 85) rfl ?_); refine gl_ 45 Try.func85 #[.slice A373_3 ((rd_T81 l0 x5_1).f3).length c373_3, .int .i64 (wrap64 ((wrap64 ((wrap64 (x1_1 + 1)) + 1)) + 1))] rfl ma_ ?_; (with_reducible refine (laws_heldDoneS.calls k1 _ _ ((rd_T81 l0 x5_1).f3) (wrap64 ((wrap64 ((wrap64 (x1_1 + 1)) + 1)) + 1)) t377 _ ?side1 ?side2 A8.out).mono ?_); (case side1 => exact cs_ (HR376_3.out)); (case side2 => exact HC376_3.out); rintro e w' ⟨rfl, ⟨nd, rfl⟩⟩; refine ⟨_, rfl, ?_⟩))
   go_roundg k1
   case measure => have := HK1.out; omega
   case rel => exact ⟨(t377), (wrap64 (x5_1 + 1)), sr_, sr_, H', ⟨by have := HK1.out; omega⟩, dr_⟩

/-! ### laws_heldStringS: function 18 -/
def laws_heldStringS.l0 : Nat → List ByteArray → Int → Int → Option (Int)
 | 0, _, _, _ => none
 | k + 1, x0, x1, x5 => if x5 < (x0.length : Int) then (if 0 ≤ x5 then ((laws_markText.f k x1).bind fun t379 => (if (rdOf ByteArray.empty x0 x5).toList = t379.toList then (laws_heldStringS.l0 k x0 (wrap64 (x1 + 1)) (wrap64 (x5 + 1))) else (some (-1)))) else (none)) else (some x1)
def laws_heldStringS.f (k : Nat) (l0 : List ByteArray) (a1 : Int) : Option (Int) := laws_heldStringS.l0 k l0 a1 0
theorem laws_heldStringS.mono_l : ∀ k, (∀ y0 y1 y2, LeO (laws_heldStringS.l0 k y0 y1 y2) (laws_heldStringS.l0 (k + 1) y0 y1 y2))
 | 0 => fun _ _ _ r h => by simp [laws_heldStringS.l0] at h
 | k + 1 => by
  have ih0 := laws_heldStringS.mono_l k
  ·intro y0 y1 y2
   unfold laws_heldStringS.l0
   repeat' first
   | (with_reducible first | apply ih0 | apply laws_markText.mono | exact LeO.refl _ | exact LeO.none _ | refine LeO.ite ?_ ?_ | refine LeO.bind ?_ (fun _ => ?_))
theorem laws_heldStringS.mono : ∀ a0 a1 k, LeO (laws_heldStringS.f k a0 a1) (laws_heldStringS.f (k + 1) a0 a1) := by
 intro a0 a1 k
 have ih0 := laws_heldStringS.mono_l k
 unfold laws_heldStringS.f
 repeat' first
   | (with_reducible first | apply ih0 | apply laws_markText.mono | exact LeO.refl _ | exact LeO.none _ | refine LeO.ite ?_ ?_ | refine LeO.bind ?_ (fun _ => ?_))
set_option maxHeartbeats 8000000 in
set_option maxRecDepth 100000 in
theorem laws_heldStringS.calls (k : Nat) (A0 : Option Addr) (c0 : Nat) (l0 : List ByteArray) (a1 : Int) (r : Int) (w : World) (hr0 : Kd.C Kd.string w A0 l0.length l0) (hc0 : l0.length ≤ c0) (h : laws_heldStringS.f k l0 a1 = some r) :
  Calls Try.prog 18 #[.slice A0 l0.length c0, .int .i64 a1] w fun e w' => e = .returned (.int .i64 r) ∧ Below w.heap.size w w' := by
 have HR0 := am_ hr0
 have HC0 := am_ hc0
 clear hr0 hc0
 have HB := am_ (Below.refl w.heap.size w)
 have H : (laws_heldStringS.l0 k l0 a1 0) = some r := h
 clear h
 have H' := am_ H
 clear H
 go_enter Try.func18, Try.ntmps18
 go_wp2
 go_loopg [1, 5] k (fun kq v1 v5 w' => ∃ (x1_1 : Int) (x5_1 : Int), v1 = .int .i64 x1_1 ∧ v5 = .int .i64 x5_1 ∧ Aside0 (laws_heldStringS.l0 kq l0 x1_1 x5_1 = some r) ∧ Aside0 (kq ≤ k) ∧ Aside0 (Below w.heap.size w w'))
 case atStart => exact ⟨(a1), (0), sr_, sr_, H', ⟨Nat.le_refl _⟩, ⟨hb_⟩⟩
 case round =>
  clear H'
  obtain ⟨x1_1, x5_1, rfl, rfl, HA, HK1, HB⟩ := hrel
  cases gk with
  | zero => exact absurd HA.out (by simp [laws_heldStringS.l0])
  | succ k1 =>
   have H := HA.out
   clear HA
   simp only [laws_heldStringS.l0] at H
   replace H := ite_ H
   obtain ⟨c3, H⟩ | ⟨c3, H⟩ := H
   rotate_left
   ·have c3b0 := decide_eq_false c3
    clear c3
    obtain rfl := Option.some.inj H
    go_wp2
    go_ret
    exact ⟨er_, hb_⟩
   have c3b0 := decide_eq_true c3
   clear c3
   replace H := ifs_ H
   obtain ⟨c4, H⟩ := H
   have c4b0 := decide_eq_true c4
   clear c4
   replace H := bnd_ H
   obtain ⟨t379, A5, H⟩ := H
   replace H := ite_ H
   obtain ⟨c6, H⟩ | ⟨c6, H⟩ := H
   rotate_left
   ·have c6b0 : ((rdOf ByteArray.empty l0 x5_1).toList == t379.toList) = false := beq_eq_false_iff_ne.mpr c6
    have c6b1 : ((rdOf ByteArray.empty l0 x5_1).toList != t379.toList) = true := bne_iff_ne.mpr c6
    obtain rfl := Option.some.inj H
    try go_wp2
    replace HB := qH_ HB
    have p378 : 0 ≤ (x5_1 : Int) := oa_
    have q378 : x5_1 < (l0.length : Int) := oa_
    obtain ⟨ad378, e378, hx378_0⟩ := Kd.at_string HR0.out x5_1 p378 q378
    have hw378_0 := hx378_0
    cases e378
    replace hx378_0 := pc_ HB.out hx378_0
    replace p378 := eq_true p378
    replace q378 := eq_true q378
    refine start_ (n := 7) (S := fun w' => w'.cell? (ad378.add (x5_1).toNat) = some (.string (rdOf ByteArray.empty l0 x5_1))) (ds := []) #[false, false, false, false, false, false, false] (by kernel_rfl) rfl rfl ((pc_ HB.out hw378_0)) (fun hHeld => ?_)
    generalize wr.drew = w9 at HB hx378_0 hHeld ⊢
    refine px_ 0 12 ?_
    refine px_ 1 13 ?_
    refine px_ 2 14 ?_
    refine px_ 4 16 ?_
    refine tx_ 3 15 ?_
    refine ox_ 5 17 fun K hK => ?_
    refine gs_ Try.func54 #[.int .i64 x1_1] rfl ma_ ?_
    with_reducible refine (laws_markText.calls k1 x1_1 t379 _ A5.out).mono ?_
    rintro e w10 ⟨rfl, hb⟩
    refine ⟨_, rfl, ?_⟩
    replace HB := nb_ hb
    (try clear hb)
    (try clear hb2)
    (try clear hk)
    (try clear hi)
    refine hK.out _ _ ((pc_ HB.out hw378_0)) (fun hHeld => ?_)
    clear hK K
    refine no_ ?_
    refine px_ 6 18 ?_
    refine done_ (by kernel_rfl) ?_
    try go_wp2
    go_ret
    exact ⟨er_, hb_⟩
   have c6b0 : ((rdOf ByteArray.empty l0 x5_1).toList == t379.toList) = true := beq_iff_eq.mpr c6
   have c6b1 : ((rdOf ByteArray.empty l0 x5_1).toList != t379.toList) = false := bne_eq_false_iff_eq.mpr c6
   clear c6
   have H' := am_ H
   clear H
   try go_wp2
   replace HB := qH_ HB
   have p378 : 0 ≤ (x5_1 : Int) := oa_
   have q378 : x5_1 < (l0.length : Int) := oa_
   obtain ⟨ad378, e378, hx378_0⟩ := Kd.at_string HR0.out x5_1 p378 q378
   have hw378_0 := hx378_0
   cases e378
   replace hx378_0 := pc_ HB.out hx378_0
   replace p378 := eq_true p378
   replace q378 := eq_true q378
   refine start_ (n := 7) (S := fun w' => w'.cell? (ad378.add (x5_1).toNat) = some (.string (rdOf ByteArray.empty l0 x5_1))) (ds := []) #[false, false, false, false, false, false, false] (by kernel_rfl) rfl rfl ((pc_ HB.out hw378_0)) (fun hHeld => ?_)
   generalize wr.drew = w7 at HB hx378_0 hHeld ⊢
   refine px_ 0 12 ?_
   refine px_ 1 13 ?_
   refine px_ 2 14 ?_
   refine px_ 4 16 ?_
   refine tx_ 3 15 ?_
   refine ox_ 5 17 fun K hK => ?_
   refine gs_ Try.func54 #[.int .i64 x1_1] rfl ma_ ?_
   with_reducible refine (laws_markText.calls k1 x1_1 t379 _ A5.out).mono ?_
   rintro e w8 ⟨rfl, hb⟩
   refine ⟨_, rfl, ?_⟩
   replace HB := nb_ hb
   (try clear hb)
   (try clear hb2)
   (try clear hk)
   (try clear hi)
   refine hK.out _ _ ((pc_ HB.out hw378_0)) (fun hHeld => ?_)
   clear hK K
   refine no_ ?_
   refine px_ 6 18 ?_
   refine done_ (by kernel_rfl) ?_
   try go_wp2
   go_roundg k1
   case measure => have := HK1.out; omega
   case rel => exact ⟨(wrap64 (x1_1 + 1)), (wrap64 (x5_1 + 1)), sr_, sr_, H', ⟨by have := HK1.out; omega⟩, ⟨hb_⟩⟩
/-! ### laws_heldBatchS: function 60 -/
def laws_heldBatchS.l0 : Nat → List (S78) → Int → Int → Option (Int)
 | 0, _, _, _ => none
 | k + 1, x0, x1, x5 => if x5 < (x0.length : Int) then (if 0 ≤ x5 then (if ((rd_T78 x0 x5).f0) = x1 then (if ((rd_T78 x0 x5).f1) = (wrap64 (x1 + 1)) then (if ((rd_T78 x0 x5).f2) = (wrap64 ((wrap64 (x1 + 1)) + 1)) then (if ((rd_T78 x0 x5).f3) = (wrap64 ((wrap64 ((wrap64 (x1 + 1)) + 1)) + 1)) then ((laws_heldStringS.f k ((rd_T78 x0 x5).f4) (wrap64 ((wrap64 ((wrap64 ((wrap64 (x1 + 1)) + 1)) + 1)) + 1))).bind fun t385 => (if t385 < 0 then (some (-1)) else (laws_heldBatchS.l0 k x0 t385 (wrap64 (x5 + 1))))) else (some (-1))) else (some (-1))) else (some (-1))) else (some (-1))) else (none)) else (some x1)
def laws_heldBatchS.f (k : Nat) (l0 : List (S78)) (a1 : Int) : Option (Int) := laws_heldBatchS.l0 k l0 a1 0
theorem laws_heldBatchS.mono_l : ∀ k, (∀ y0 y1 y2, LeO (laws_heldBatchS.l0 k y0 y1 y2) (laws_heldBatchS.l0 (k + 1) y0 y1 y2))
 | 0 => fun _ _ _ r h => by simp [laws_heldBatchS.l0] at h
 | k + 1 => by
  have ih0 := laws_heldBatchS.mono_l k
  ·intro y0 y1 y2
   unfold laws_heldBatchS.l0
   repeat' first
   | (with_reducible first | apply ih0 | apply laws_heldStringS.mono | exact LeO.refl _ | exact LeO.none _ | refine LeO.ite ?_ ?_ | refine LeO.bind ?_ (fun _ => ?_))
theorem laws_heldBatchS.mono : ∀ a0 a1 k, LeO (laws_heldBatchS.f k a0 a1) (laws_heldBatchS.f (k + 1) a0 a1) := by
 intro a0 a1 k
 have ih0 := laws_heldBatchS.mono_l k
 unfold laws_heldBatchS.f
 repeat' first
   | (with_reducible first | apply ih0 | apply laws_heldStringS.mono | exact LeO.refl _ | exact LeO.none _ | refine LeO.ite ?_ ?_ | refine LeO.bind ?_ (fun _ => ?_))
set_option maxHeartbeats 8000000 in
set_option maxRecDepth 100000 in
theorem laws_heldBatchS.calls (k : Nat) (A0 : Option Addr) (c0 : Nat) (l0 : List (S78)) (a1 : Int) (r : Int) (w : World) (hr0 : Kd.C k78 w A0 l0.length l0) (hc0 : l0.length ≤ c0) (h : laws_heldBatchS.f k l0 a1 = some r) :
  Calls Try.prog 60 #[.slice A0 l0.length c0, .int .i64 a1] w fun e w' => e = .returned (.int .i64 r) ∧ Below w.heap.size w w' := by
 have HR0 := am_ hr0
 have HC0 := am_ hc0
 clear hr0 hc0
 have HB := am_ (Below.refl w.heap.size w)
 have H : (laws_heldBatchS.l0 k l0 a1 0) = some r := h
 clear h
 have H' := am_ H
 clear H
 go_enter Try.func60, Try.ntmps60
 go_wp2
 go_loopg [1, 5] k (fun kq v1 v5 w' => ∃ (x1_1 : Int) (x5_1 : Int), v1 = .int .i64 x1_1 ∧ v5 = .int .i64 x5_1 ∧ Aside0 (laws_heldBatchS.l0 kq l0 x1_1 x5_1 = some r) ∧ Aside0 (kq ≤ k) ∧ Aside0 (Below w.heap.size w w'))
 case atStart => exact ⟨(a1), (0), sr_, sr_, H', ⟨Nat.le_refl _⟩, ⟨hb_⟩⟩
 case round =>
  clear H'
  obtain ⟨x1_1, x5_1, rfl, rfl, HA, HK1, HB⟩ := hrel
  cases gk with
  | zero => exact absurd HA.out (by simp [laws_heldBatchS.l0])
  | succ k1 =>
   have H := HA.out
   clear HA
   simp only [laws_heldBatchS.l0] at H
   replace H := ite_ H
   obtain ⟨c3, H⟩ | ⟨c3, H⟩ := H
   rotate_left
   ·have c3b0 := decide_eq_false c3
    clear c3
    obtain rfl := Option.some.inj H
    go_wp2
    go_ret
    exact ⟨er_, hb_⟩
   have c3b0 := decide_eq_true c3
   clear c3
   replace H := ifs_ H
   obtain ⟨c4, H⟩ := H
   have c4b0 := decide_eq_true c4
   clear c4
   replace H := ite_ H
   obtain ⟨c5, H⟩ | ⟨c5, H⟩ := H
   rotate_left
   ·have c5b0 : (((rd_T78 l0 x5_1).f0) == x1_1) = false := beq_eq_false_iff_ne.mpr c5
    have c5b1 : (((rd_T78 l0 x5_1).f0) != x1_1) = true := bne_iff_ne.mpr c5
    obtain rfl := Option.some.inj H
    have p380 : 0 ≤ (x5_1 : Int) := oa_
    have q380 : x5_1 < (l0.length : Int) := oa_
    obtain ⟨ad380, A380_4, c380_4, e380, hx380_0, hx380_1, hx380_2, hx380_3, hx380_4, hl380_4, hi380_4⟩ := at_T78 HR0.out x5_1 p380 q380
    cases e380
    replace hx380_0 := pc_ HB.out hx380_0
    replace hx380_1 := pc_ HB.out hx380_1
    replace hx380_2 := pc_ HB.out hx380_2
    replace hx380_3 := pc_ HB.out hx380_3
    replace hx380_4 := pc_ HB.out hx380_4
    have HR380_4 := am_ hi380_4
    have HC380_4 := am_ hl380_4
    clear hi380_4 hl380_4
    replace p380 := eq_true p380
    replace q380 := eq_true q380
    go_wp2
    go_ret
    exact ⟨er_, hb_⟩
   have c5b0 : (((rd_T78 l0 x5_1).f0) == x1_1) = true := beq_iff_eq.mpr c5
   have c5b1 : (((rd_T78 l0 x5_1).f0) != x1_1) = false := bne_eq_false_iff_eq.mpr c5
   clear c5
   replace H := ite_ H
   obtain ⟨c6, H⟩ | ⟨c6, H⟩ := H
   rotate_left
   ·have c6b0 : (((rd_T78 l0 x5_1).f1) == (wrap64 (x1_1 + 1))) = false := beq_eq_false_iff_ne.mpr c6
    have c6b1 : (((rd_T78 l0 x5_1).f1) != (wrap64 (x1_1 + 1))) = true := bne_iff_ne.mpr c6
    obtain rfl := Option.some.inj H
    have p380 : 0 ≤ (x5_1 : Int) := oa_
    have q380 : x5_1 < (l0.length : Int) := oa_
    obtain ⟨ad380, A380_4, c380_4, e380, hx380_0, hx380_1, hx380_2, hx380_3, hx380_4, hl380_4, hi380_4⟩ := at_T78 HR0.out x5_1 p380 q380
    cases e380
    replace hx380_0 := pc_ HB.out hx380_0
    replace hx380_1 := pc_ HB.out hx380_1
    replace hx380_2 := pc_ HB.out hx380_2
    replace hx380_3 := pc_ HB.out hx380_3
    replace hx380_4 := pc_ HB.out hx380_4
    have HR380_4 := am_ hi380_4
    have HC380_4 := am_ hl380_4
    clear hi380_4 hl380_4
    replace p380 := eq_true p380
    replace q380 := eq_true q380
    have p381 : 0 ≤ (x5_1 : Int) := oa_
    have q381 : x5_1 < (l0.length : Int) := oa_
    obtain ⟨ad381, A381_4, c381_4, e381, hx381_0, hx381_1, hx381_2, hx381_3, hx381_4, hl381_4, hi381_4⟩ := at_T78 HR0.out x5_1 p381 q381
    obtain rfl : ad380 = ad381 := (by injection e381)
    replace hx381_0 := pc_ HB.out hx381_0
    replace hx381_1 := pc_ HB.out hx381_1
    replace hx381_2 := pc_ HB.out hx381_2
    replace hx381_3 := pc_ HB.out hx381_3
    replace hx381_4 := pc_ HB.out hx381_4
    have HR381_4 := am_ hi381_4
    have HC381_4 := am_ hl381_4
    clear hi381_4 hl381_4
    replace p381 := eq_true p381
    replace q381 := eq_true q381
    have ea_ := Option.some.inj (hx380_4.symm.trans hx381_4)
    injection ea_ with ea_ en_ ec_
    subst ea_
    subst ec_
    clear en_
    go_wp2
    go_ret
    exact ⟨er_, hb_⟩
   have c6b0 : (((rd_T78 l0 x5_1).f1) == (wrap64 (x1_1 + 1))) = true := beq_iff_eq.mpr c6
   have c6b1 : (((rd_T78 l0 x5_1).f1) != (wrap64 (x1_1 + 1))) = false := bne_eq_false_iff_eq.mpr c6
   clear c6
   replace H := ite_ H
   obtain ⟨c7, H⟩ | ⟨c7, H⟩ := H
   rotate_left
   ·have c7b0 : (((rd_T78 l0 x5_1).f2) == (wrap64 ((wrap64 (x1_1 + 1)) + 1))) = false := beq_eq_false_iff_ne.mpr c7
    have c7b1 : (((rd_T78 l0 x5_1).f2) != (wrap64 ((wrap64 (x1_1 + 1)) + 1))) = true := bne_iff_ne.mpr c7
    obtain rfl := Option.some.inj H
    have p380 : 0 ≤ (x5_1 : Int) := oa_
    have q380 : x5_1 < (l0.length : Int) := oa_
    obtain ⟨ad380, A380_4, c380_4, e380, hx380_0, hx380_1, hx380_2, hx380_3, hx380_4, hl380_4, hi380_4⟩ := at_T78 HR0.out x5_1 p380 q380
    cases e380
    replace hx380_0 := pc_ HB.out hx380_0
    replace hx380_1 := pc_ HB.out hx380_1
    replace hx380_2 := pc_ HB.out hx380_2
    replace hx380_3 := pc_ HB.out hx380_3
    replace hx380_4 := pc_ HB.out hx380_4
    have HR380_4 := am_ hi380_4
    have HC380_4 := am_ hl380_4
    clear hi380_4 hl380_4
    replace p380 := eq_true p380
    replace q380 := eq_true q380
    have p381 : 0 ≤ (x5_1 : Int) := oa_
    have q381 : x5_1 < (l0.length : Int) := oa_
    obtain ⟨ad381, A381_4, c381_4, e381, hx381_0, hx381_1, hx381_2, hx381_3, hx381_4, hl381_4, hi381_4⟩ := at_T78 HR0.out x5_1 p381 q381
    obtain rfl : ad380 = ad381 := (by injection e381)
    replace hx381_0 := pc_ HB.out hx381_0
    replace hx381_1 := pc_ HB.out hx381_1
    replace hx381_2 := pc_ HB.out hx381_2
    replace hx381_3 := pc_ HB.out hx381_3
    replace hx381_4 := pc_ HB.out hx381_4
    have HR381_4 := am_ hi381_4
    have HC381_4 := am_ hl381_4
    clear hi381_4 hl381_4
    replace p381 := eq_true p381
    replace q381 := eq_true q381
    have ea_ := Option.some.inj (hx380_4.symm.trans hx381_4)
    injection ea_ with ea_ en_ ec_
    subst ea_
    subst ec_
    clear en_
    have p382 : 0 ≤ (x5_1 : Int) := oa_
    have q382 : x5_1 < (l0.length : Int) := oa_
    obtain ⟨ad382, A382_4, c382_4, e382, hx382_0, hx382_1, hx382_2, hx382_3, hx382_4, hl382_4, hi382_4⟩ := at_T78 HR0.out x5_1 p382 q382
    obtain rfl : ad380 = ad382 := (by injection e382)
    replace hx382_0 := pc_ HB.out hx382_0
    replace hx382_1 := pc_ HB.out hx382_1
    replace hx382_2 := pc_ HB.out hx382_2
    replace hx382_3 := pc_ HB.out hx382_3
    replace hx382_4 := pc_ HB.out hx382_4
    have HR382_4 := am_ hi382_4
    have HC382_4 := am_ hl382_4
    clear hi382_4 hl382_4
    replace p382 := eq_true p382
    replace q382 := eq_true q382
    have ea_ := Option.some.inj (hx380_4.symm.trans hx382_4)
    injection ea_ with ea_ en_ ec_
    subst ea_
    subst ec_
    clear en_
    go_wp2
    go_ret
    exact ⟨er_, hb_⟩
   have c7b0 : (((rd_T78 l0 x5_1).f2) == (wrap64 ((wrap64 (x1_1 + 1)) + 1))) = true := beq_iff_eq.mpr c7
   have c7b1 : (((rd_T78 l0 x5_1).f2) != (wrap64 ((wrap64 (x1_1 + 1)) + 1))) = false := bne_eq_false_iff_eq.mpr c7
   clear c7
   replace H := ite_ H
   obtain ⟨c8, H⟩ | ⟨c8, H⟩ := H
   rotate_left
   ·have c8b0 : (((rd_T78 l0 x5_1).f3) == (wrap64 ((wrap64 ((wrap64 (x1_1 + 1)) + 1)) + 1))) = false := beq_eq_false_iff_ne.mpr c8
    have c8b1 : (((rd_T78 l0 x5_1).f3) != (wrap64 ((wrap64 ((wrap64 (x1_1 + 1)) + 1)) + 1))) = true := bne_iff_ne.mpr c8
    obtain rfl := Option.some.inj H
    have p380 : 0 ≤ (x5_1 : Int) := oa_
    have q380 : x5_1 < (l0.length : Int) := oa_
    obtain ⟨ad380, A380_4, c380_4, e380, hx380_0, hx380_1, hx380_2, hx380_3, hx380_4, hl380_4, hi380_4⟩ := at_T78 HR0.out x5_1 p380 q380
    cases e380
    replace hx380_0 := pc_ HB.out hx380_0
    replace hx380_1 := pc_ HB.out hx380_1
    replace hx380_2 := pc_ HB.out hx380_2
    replace hx380_3 := pc_ HB.out hx380_3
    replace hx380_4 := pc_ HB.out hx380_4
    have HR380_4 := am_ hi380_4
    have HC380_4 := am_ hl380_4
    clear hi380_4 hl380_4
    replace p380 := eq_true p380
    replace q380 := eq_true q380
    have p381 : 0 ≤ (x5_1 : Int) := oa_
    have q381 : x5_1 < (l0.length : Int) := oa_
    obtain ⟨ad381, A381_4, c381_4, e381, hx381_0, hx381_1, hx381_2, hx381_3, hx381_4, hl381_4, hi381_4⟩ := at_T78 HR0.out x5_1 p381 q381
    obtain rfl : ad380 = ad381 := (by injection e381)
    replace hx381_0 := pc_ HB.out hx381_0
    replace hx381_1 := pc_ HB.out hx381_1
    replace hx381_2 := pc_ HB.out hx381_2
    replace hx381_3 := pc_ HB.out hx381_3
    replace hx381_4 := pc_ HB.out hx381_4
    have HR381_4 := am_ hi381_4
    have HC381_4 := am_ hl381_4
    clear hi381_4 hl381_4
    replace p381 := eq_true p381
    replace q381 := eq_true q381
    have ea_ := Option.some.inj (hx380_4.symm.trans hx381_4)
    injection ea_ with ea_ en_ ec_
    subst ea_
    subst ec_
    clear en_
    have p382 : 0 ≤ (x5_1 : Int) := oa_
    have q382 : x5_1 < (l0.length : Int) := oa_
    obtain ⟨ad382, A382_4, c382_4, e382, hx382_0, hx382_1, hx382_2, hx382_3, hx382_4, hl382_4, hi382_4⟩ := at_T78 HR0.out x5_1 p382 q382
    obtain rfl : ad380 = ad382 := (by injection e382)
    replace hx382_0 := pc_ HB.out hx382_0
    replace hx382_1 := pc_ HB.out hx382_1
    replace hx382_2 := pc_ HB.out hx382_2
    replace hx382_3 := pc_ HB.out hx382_3
    replace hx382_4 := pc_ HB.out hx382_4
    have HR382_4 := am_ hi382_4
    have HC382_4 := am_ hl382_4
    clear hi382_4 hl382_4
    replace p382 := eq_true p382
    replace q382 := eq_true q382
    have ea_ := Option.some.inj (hx380_4.symm.trans hx382_4)
    injection ea_ with ea_ en_ ec_
    subst ea_
    subst ec_
    clear en_
    have p383 : 0 ≤ (x5_1 : Int) := oa_
    have q383 : x5_1 < (l0.length : Int) := oa_
    obtain ⟨ad383, A383_4, c383_4, e383, hx383_0, hx383_1, hx383_2, hx383_3, hx383_4, hl383_4, hi383_4⟩ := at_T78 HR0.out x5_1 p383 q383
    obtain rfl : ad380 = ad383 := (by injection e383)
    replace hx383_0 := pc_ HB.out hx383_0
    replace hx383_1 := pc_ HB.out hx383_1
    replace hx383_2 := pc_ HB.out hx383_2
    replace hx383_3 := pc_ HB.out hx383_3
    replace hx383_4 := pc_ HB.out hx383_4
    have HR383_4 := am_ hi383_4
    have HC383_4 := am_ hl383_4
    clear hi383_4 hl383_4
    replace p383 := eq_true p383
    replace q383 := eq_true q383
    have ea_ := Option.some.inj (hx380_4.symm.trans hx383_4)
    injection ea_ with ea_ en_ ec_
    subst ea_
    subst ec_
    clear en_
    go_wp2
    go_ret
    exact ⟨er_, hb_⟩
   have c8b0 : (((rd_T78 l0 x5_1).f3) == (wrap64 ((wrap64 ((wrap64 (x1_1 + 1)) + 1)) + 1))) = true := beq_iff_eq.mpr c8
   have c8b1 : (((rd_T78 l0 x5_1).f3) != (wrap64 ((wrap64 ((wrap64 (x1_1 + 1)) + 1)) + 1))) = false := bne_eq_false_iff_eq.mpr c8
   clear c8
   replace H := bnd_ H
   obtain ⟨t385, A9, H⟩ := H
   replace H := ite_ H
   obtain ⟨c10, H⟩ | ⟨c10, H⟩ := H
   ·have c10b0 := decide_eq_true c10
    clear c10
    obtain rfl := Option.some.inj H
    have p380 : 0 ≤ (x5_1 : Int) := oa_
    have q380 : x5_1 < (l0.length : Int) := oa_
    obtain ⟨ad380, A380_4, c380_4, e380, hx380_0, hx380_1, hx380_2, hx380_3, hx380_4, hl380_4, hi380_4⟩ := at_T78 HR0.out x5_1 p380 q380
    cases e380
    replace hx380_0 := pc_ HB.out hx380_0
    replace hx380_1 := pc_ HB.out hx380_1
    replace hx380_2 := pc_ HB.out hx380_2
    replace hx380_3 := pc_ HB.out hx380_3
    replace hx380_4 := pc_ HB.out hx380_4
    have HR380_4 := am_ hi380_4
    have HC380_4 := am_ hl380_4
    clear hi380_4 hl380_4
    replace p380 := eq_true p380
    replace q380 := eq_true q380
    have p381 : 0 ≤ (x5_1 : Int) := oa_
    have q381 : x5_1 < (l0.length : Int) := oa_
    obtain ⟨ad381, A381_4, c381_4, e381, hx381_0, hx381_1, hx381_2, hx381_3, hx381_4, hl381_4, hi381_4⟩ := at_T78 HR0.out x5_1 p381 q381
    obtain rfl : ad380 = ad381 := (by injection e381)
    replace hx381_0 := pc_ HB.out hx381_0
    replace hx381_1 := pc_ HB.out hx381_1
    replace hx381_2 := pc_ HB.out hx381_2
    replace hx381_3 := pc_ HB.out hx381_3
    replace hx381_4 := pc_ HB.out hx381_4
    have HR381_4 := am_ hi381_4
    have HC381_4 := am_ hl381_4
    clear hi381_4 hl381_4
    replace p381 := eq_true p381
    replace q381 := eq_true q381
    have ea_ := Option.some.inj (hx380_4.symm.trans hx381_4)
    injection ea_ with ea_ en_ ec_
    subst ea_
    subst ec_
    clear en_
    have p382 : 0 ≤ (x5_1 : Int) := oa_
    have q382 : x5_1 < (l0.length : Int) := oa_
    obtain ⟨ad382, A382_4, c382_4, e382, hx382_0, hx382_1, hx382_2, hx382_3, hx382_4, hl382_4, hi382_4⟩ := at_T78 HR0.out x5_1 p382 q382
    obtain rfl : ad380 = ad382 := (by injection e382)
    replace hx382_0 := pc_ HB.out hx382_0
    replace hx382_1 := pc_ HB.out hx382_1
    replace hx382_2 := pc_ HB.out hx382_2
    replace hx382_3 := pc_ HB.out hx382_3
    replace hx382_4 := pc_ HB.out hx382_4
    have HR382_4 := am_ hi382_4
    have HC382_4 := am_ hl382_4
    clear hi382_4 hl382_4
    replace p382 := eq_true p382
    replace q382 := eq_true q382
    have ea_ := Option.some.inj (hx380_4.symm.trans hx382_4)
    injection ea_ with ea_ en_ ec_
    subst ea_
    subst ec_
    clear en_
    have p383 : 0 ≤ (x5_1 : Int) := oa_
    have q383 : x5_1 < (l0.length : Int) := oa_
    obtain ⟨ad383, A383_4, c383_4, e383, hx383_0, hx383_1, hx383_2, hx383_3, hx383_4, hl383_4, hi383_4⟩ := at_T78 HR0.out x5_1 p383 q383
    obtain rfl : ad380 = ad383 := (by injection e383)
    replace hx383_0 := pc_ HB.out hx383_0
    replace hx383_1 := pc_ HB.out hx383_1
    replace hx383_2 := pc_ HB.out hx383_2
    replace hx383_3 := pc_ HB.out hx383_3
    replace hx383_4 := pc_ HB.out hx383_4
    have HR383_4 := am_ hi383_4
    have HC383_4 := am_ hl383_4
    clear hi383_4 hl383_4
    replace p383 := eq_true p383
    replace q383 := eq_true q383
    have ea_ := Option.some.inj (hx380_4.symm.trans hx383_4)
    injection ea_ with ea_ en_ ec_
    subst ea_
    subst ec_
    clear en_
    have p384 : 0 ≤ (x5_1 : Int) := oa_
    have q384 : x5_1 < (l0.length : Int) := oa_
    obtain ⟨ad384, A384_4, c384_4, e384, hx384_0, hx384_1, hx384_2, hx384_3, hx384_4, hl384_4, hi384_4⟩ := at_T78 HR0.out x5_1 p384 q384
    obtain rfl : ad380 = ad384 := (by injection e384)
    replace hx384_0 := pc_ HB.out hx384_0
    replace hx384_1 := pc_ HB.out hx384_1
    replace hx384_2 := pc_ HB.out hx384_2
    replace hx384_3 := pc_ HB.out hx384_3
    replace hx384_4 := pc_ HB.out hx384_4
    have HR384_4 := am_ hi384_4
    have HC384_4 := am_ hl384_4
    clear hi384_4 hl384_4
    replace p384 := eq_true p384
    replace q384 := eq_true q384
    have ea_ := Option.some.inj (hx380_4.symm.trans hx384_4)
    injection ea_ with ea_ en_ ec_
    subst ea_
    subst ec_
    clear en_
    go_wp2_with (first | ((with_reducible refine gate_callee (f := 18) rfl ?_); refine gl_ 54 Try.func18 #[.slice A380_4 ((rd_T78 l0 x5_1).f4).length c380_4, .int .i64 (wrap64 ((wrap64 ((wrap64 ((wrap64 (x1_1 + 1)) + 1)) + 1)) + 1))] rfl ma_ ?_; (with_reducible refine (laws_heldStringS.calls k1 _ _ ((rd_T78 l0 x5_1).f4) (wrap64 ((wrap64 ((wrap64 ((wrap64 (x1_1 + 1)) + 1)) + 1)) + 1)) t385 _ ?side1 ?side2 A9.out).mono ?_); (case side1 => exact cs_ ((Kd.C_below HR384_4.out HB.out))); (case side2 => exact HC384_4.out); rintro e w11 ⟨rfl, hb⟩; refine ⟨_, rfl, ?_⟩; replace HB := nb_ hb; (try clear hb); (try clear hb2); (try clear hk); (try clear hi)))
    go_ret
    exact ⟨er_, hb_⟩
   have c10b0 := decide_eq_false c10
   clear c10
   have H' := am_ H
   clear H
   have p380 : 0 ≤ (x5_1 : Int) := oa_
   have q380 : x5_1 < (l0.length : Int) := oa_
   obtain ⟨ad380, A380_4, c380_4, e380, hx380_0, hx380_1, hx380_2, hx380_3, hx380_4, hl380_4, hi380_4⟩ := at_T78 HR0.out x5_1 p380 q380
   cases e380
   replace hx380_0 := pc_ HB.out hx380_0
   replace hx380_1 := pc_ HB.out hx380_1
   replace hx380_2 := pc_ HB.out hx380_2
   replace hx380_3 := pc_ HB.out hx380_3
   replace hx380_4 := pc_ HB.out hx380_4
   have HR380_4 := am_ hi380_4
   have HC380_4 := am_ hl380_4
   clear hi380_4 hl380_4
   replace p380 := eq_true p380
   replace q380 := eq_true q380
   have p381 : 0 ≤ (x5_1 : Int) := oa_
   have q381 : x5_1 < (l0.length : Int) := oa_
   obtain ⟨ad381, A381_4, c381_4, e381, hx381_0, hx381_1, hx381_2, hx381_3, hx381_4, hl381_4, hi381_4⟩ := at_T78 HR0.out x5_1 p381 q381
   obtain rfl : ad380 = ad381 := (by injection e381)
   replace hx381_0 := pc_ HB.out hx381_0
   replace hx381_1 := pc_ HB.out hx381_1
   replace hx381_2 := pc_ HB.out hx381_2
   replace hx381_3 := pc_ HB.out hx381_3
   replace hx381_4 := pc_ HB.out hx381_4
   have HR381_4 := am_ hi381_4
   have HC381_4 := am_ hl381_4
   clear hi381_4 hl381_4
   replace p381 := eq_true p381
   replace q381 := eq_true q381
   have ea_ := Option.some.inj (hx380_4.symm.trans hx381_4)
   injection ea_ with ea_ en_ ec_
   subst ea_
   subst ec_
   clear en_
   have p382 : 0 ≤ (x5_1 : Int) := oa_
   have q382 : x5_1 < (l0.length : Int) := oa_
   obtain ⟨ad382, A382_4, c382_4, e382, hx382_0, hx382_1, hx382_2, hx382_3, hx382_4, hl382_4, hi382_4⟩ := at_T78 HR0.out x5_1 p382 q382
   obtain rfl : ad380 = ad382 := (by injection e382)
   replace hx382_0 := pc_ HB.out hx382_0
   replace hx382_1 := pc_ HB.out hx382_1
   replace hx382_2 := pc_ HB.out hx382_2
   replace hx382_3 := pc_ HB.out hx382_3
   replace hx382_4 := pc_ HB.out hx382_4
   have HR382_4 := am_ hi382_4
   have HC382_4 := am_ hl382_4
   clear hi382_4 hl382_4
   replace p382 := eq_true p382
   replace q382 := eq_true q382
   have ea_ := Option.some.inj (hx380_4.symm.trans hx382_4)
   injection ea_ with ea_ en_ ec_
   subst ea_
   subst ec_
   clear en_
   have p383 : 0 ≤ (x5_1 : Int) := oa_
   have q383 : x5_1 < (l0.length : Int) := oa_
   obtain ⟨ad383, A383_4, c383_4, e383, hx383_0, hx383_1, hx383_2, hx383_3, hx383_4, hl383_4, hi383_4⟩ := at_T78 HR0.out x5_1 p383 q383
   obtain rfl : ad380 = ad383 := (by injection e383)
   replace hx383_0 := pc_ HB.out hx383_0
   replace hx383_1 := pc_ HB.out hx383_1
   replace hx383_2 := pc_ HB.out hx383_2
   replace hx383_3 := pc_ HB.out hx383_3
   replace hx383_4 := pc_ HB.out hx383_4
   have HR383_4 := am_ hi383_4
   have HC383_4 := am_ hl383_4
   clear hi383_4 hl383_4
   replace p383 := eq_true p383
   replace q383 := eq_true q383
   have ea_ := Option.some.inj (hx380_4.symm.trans hx383_4)
   injection ea_ with ea_ en_ ec_
   subst ea_
   subst ec_
   clear en_
   have p384 : 0 ≤ (x5_1 : Int) := oa_
   have q384 : x5_1 < (l0.length : Int) := oa_
   obtain ⟨ad384, A384_4, c384_4, e384, hx384_0, hx384_1, hx384_2, hx384_3, hx384_4, hl384_4, hi384_4⟩ := at_T78 HR0.out x5_1 p384 q384
   obtain rfl : ad380 = ad384 := (by injection e384)
   replace hx384_0 := pc_ HB.out hx384_0
   replace hx384_1 := pc_ HB.out hx384_1
   replace hx384_2 := pc_ HB.out hx384_2
   replace hx384_3 := pc_ HB.out hx384_3
   replace hx384_4 := pc_ HB.out hx384_4
   have HR384_4 := am_ hi384_4
   have HC384_4 := am_ hl384_4
   clear hi384_4 hl384_4
   replace p384 := eq_true p384
   replace q384 := eq_true q384
   have ea_ := Option.some.inj (hx380_4.symm.trans hx384_4)
   injection ea_ with ea_ en_ ec_
   subst ea_
   subst ec_
   clear en_
   go_wp2_with (first | ((with_reducible refine gate_callee (f := 18) rfl ?_); refine gl_ 54 Try.func18 #[.slice A380_4 ((rd_T78 l0 x5_1).f4).length c380_4, .int .i64 (wrap64 ((wrap64 ((wrap64 ((wrap64 (x1_1 + 1)) + 1)) + 1)) + 1))] rfl ma_ ?_; (with_reducible refine (laws_heldStringS.calls k1 _ _ ((rd_T78 l0 x5_1).f4) (wrap64 ((wrap64 ((wrap64 ((wrap64 (x1_1 + 1)) + 1)) + 1)) + 1)) t385 _ ?side1 ?side2 A9.out).mono ?_); (case side1 => exact cs_ ((Kd.C_below HR384_4.out HB.out))); (case side2 => exact HC384_4.out); rintro e w12 ⟨rfl, hb⟩; refine ⟨_, rfl, ?_⟩; replace HB := nb_ hb; (try clear hb); (try clear hb2); (try clear hk); (try clear hi)))
   go_roundg k1
   case measure => have := HK1.out; omega
   case rel => exact ⟨(t385), (wrap64 (x5_1 + 1)), sr_, sr_, H', ⟨by have := HK1.out; omega⟩, ⟨hb_⟩⟩

/-! ### laws_heldPart: function 27 -/
def laws_heldPart.f (k : Nat) (l0_0 : List (S81)) (l0_1 : List (S78)) (a0_2 : Int) (a1 : Int) : Option (Int) := (laws_heldProducerS.f k l0_0 a1).bind fun t387 => (if t387 < 0 then (some (-1)) else ((laws_heldBatchS.f k l0_1 t387).bind fun t388 => (if t388 < 0 then (some (-1)) else (some t388))))
theorem laws_heldPart.mono : ∀ a0 a1 a2 a3 k, LeO (laws_heldPart.f k a0 a1 a2 a3) (laws_heldPart.f (k + 1) a0 a1 a2 a3) := by
 intro a0 a1 a2 a3 k
 unfold laws_heldPart.f
 repeat' first
   | (with_reducible first | apply laws_heldBatchS.mono | apply laws_heldProducerS.mono | exact LeO.refl _ | exact LeO.none _ | refine LeO.ite ?_ ?_ | refine LeO.bind ?_ (fun _ => ?_))
set_option maxHeartbeats 8000000 in
set_option maxRecDepth 100000 in
theorem laws_heldPart.calls (k : Nat) (A0_0 : Option Addr) (c0_0 : Nat) (l0_0 : List (S81)) (A0_1 : Option Addr) (c0_1 : Nat) (l0_1 : List (S78)) (a0_2 : Int) (a1 : Int) (r : Int) (w : World) (hr0_0 : Kd.C k81 w A0_0 l0_0.length l0_0) (hc0_0 : l0_0.length ≤ c0_0) (hr0_1 : Kd.C k78 w A0_1 l0_1.length l0_1) (hc0_1 : l0_1.length ≤ c0_1) (h : laws_heldPart.f k l0_0 l0_1 a0_2 a1 = some r) :
  Calls Try.prog 27 #[.agg #[.slice A0_0 l0_0.length c0_0, .slice A0_1 l0_1.length c0_1, .int .i64 a0_2], .int .i64 a1] w fun e w' => e = .returned (.int .i64 r) ∧ Below w.heap.size w w' := by
 have hu33 := Try.underlying33
 have HR0_0 := am_ hr0_0
 have HC0_0 := am_ hc0_0
 clear hr0_0 hc0_0
 have HR0_1 := am_ hr0_1
 have HC0_1 := am_ hc0_1
 clear hr0_1 hc0_1
 have HB := am_ (Below.refl w.heap.size w)
 have H : ((laws_heldProducerS.f k l0_0 a1).bind fun t387 => (if t387 < 0 then (some (-1)) else ((laws_heldBatchS.f k l0_1 t387).bind fun t388 => (if t388 < 0 then (some (-1)) else (some t388))))) = some r := h
 clear h
 replace H := bnd_ H
 obtain ⟨t387, A3, H⟩ := H
 replace H := ite_ H
 obtain ⟨c4, H⟩ | ⟨c4, H⟩ := H
 ·have c4b0 := decide_eq_true c4
  clear c4
  obtain rfl := Option.some.inj H
  go_enter Try.func27, Try.ntmps27
  go_wp2_with (first | ((with_reducible refine gate_dst (N := 2) rfl ?_); refine bq_ (N := 2) #[.slice A0_0 l0_0.length c0_0, .slice A0_1 l0_1.length c0_1, .int .i64 a0_2] 33 ?_; intro gb386 hg w5 BK386 hb; have GE386 := ge_ hg; replace HB := nb_ hb; clear hb hg; obtain ⟨hcz6_0, hcz6_1, hcz6_2, hfz6_0, hfz6_1, hfz6_2⟩ := cf3_ BK386.out) | ((with_reducible refine gate_callee (f := 59) rfl ?_); refine gl_ 8 Try.func59 #[.slice A0_0 l0_0.length c0_0, .int .i64 a1] rfl ma_ ?_; (with_reducible refine (laws_heldProducerS.calls k _ _ l0_0 a1 t387 _ ?side1 ?side2 A3.out).mono ?_); (case side1 => exact cs_ ((Kd.C_below HR0_0.out HB.out))); (case side2 => exact HC0_0.out); rintro e w' ⟨rfl, ⟨nd, rfl⟩⟩; refine ⟨_, rfl, ?_⟩))
  go_ret
  exact ⟨er_, hs_ GE386.out⟩
 have c4b0 := decide_eq_false c4
 clear c4
 replace H := bnd_ H
 obtain ⟨t388, A7, H⟩ := H
 replace H := ite_ H
 obtain ⟨c8, H⟩ | ⟨c8, H⟩ := H
 ·have c8b0 := decide_eq_true c8
  clear c8
  obtain rfl := Option.some.inj H
  go_enter Try.func27, Try.ntmps27
  go_wp2_with (first | ((with_reducible refine gate_dst (N := 2) rfl ?_); refine bq_ (N := 2) #[.slice A0_0 l0_0.length c0_0, .slice A0_1 l0_1.length c0_1, .int .i64 a0_2] 33 ?_; intro gb386 hg w9 BK386 hb; have GE386 := ge_ hg; replace HB := nb_ hb; clear hb hg; obtain ⟨hcz10_0, hcz10_1, hcz10_2, hfz10_0, hfz10_1, hfz10_2⟩ := cf3_ BK386.out) | ((with_reducible refine gate_callee (f := 59) rfl ?_); refine gl_ 8 Try.func59 #[.slice A0_0 l0_0.length c0_0, .int .i64 a1] rfl ma_ ?_; (with_reducible refine (laws_heldProducerS.calls k _ _ l0_0 a1 t387 _ ?side1 ?side2 A3.out).mono ?_); (case side1 => exact cs_ ((Kd.C_below HR0_0.out HB.out))); (case side2 => exact HC0_0.out); rintro e w' ⟨rfl, ⟨nd, rfl⟩⟩; refine ⟨_, rfl, ?_⟩) | ((with_reducible refine gate_callee (f := 60) rfl ?_); refine gl_ 14 Try.func60 #[.slice A0_1 l0_1.length c0_1, .int .i64 t387] rfl ma_ ?_; (with_reducible refine (laws_heldBatchS.calls k _ _ l0_1 t387 t388 _ ?side1 ?side2 A7.out).mono ?_); (case side1 => exact cs_ ((Kd.C_below HR0_1.out (hs_ GE386.out)))); (case side2 => exact HC0_1.out); rintro e w11 ⟨rfl, hb⟩; refine ⟨_, rfl, ?_⟩; replace BK386 := bK_ BK386 hb; replace HB := nc_ GE386 hb; (try clear hb); (try clear hb2); (try clear hk); (try clear hi)))
  go_ret
  exact ⟨er_, hs_ GE386.out⟩
 have c8b0 := decide_eq_false c8
 clear c8
 obtain rfl := Option.some.inj H
 go_enter Try.func27, Try.ntmps27
 go_wp2_with (first | ((with_reducible refine gate_dst (N := 2) rfl ?_); refine bq_ (N := 2) #[.slice A0_0 l0_0.length c0_0, .slice A0_1 l0_1.length c0_1, .int .i64 a0_2] 33 ?_; intro gb386 hg w12 BK386 hb; have GE386 := ge_ hg; replace HB := nb_ hb; clear hb hg; obtain ⟨hcz13_0, hcz13_1, hcz13_2, hfz13_0, hfz13_1, hfz13_2⟩ := cf3_ BK386.out) | ((with_reducible refine gate_callee (f := 59) rfl ?_); refine gl_ 8 Try.func59 #[.slice A0_0 l0_0.length c0_0, .int .i64 a1] rfl ma_ ?_; (with_reducible refine (laws_heldProducerS.calls k _ _ l0_0 a1 t387 _ ?side1 ?side2 A3.out).mono ?_); (case side1 => exact cs_ ((Kd.C_below HR0_0.out HB.out))); (case side2 => exact HC0_0.out); rintro e w' ⟨rfl, ⟨nd, rfl⟩⟩; refine ⟨_, rfl, ?_⟩) | ((with_reducible refine gate_callee (f := 60) rfl ?_); refine gl_ 14 Try.func60 #[.slice A0_1 l0_1.length c0_1, .int .i64 t387] rfl ma_ ?_; (with_reducible refine (laws_heldBatchS.calls k _ _ l0_1 t387 t388 _ ?side1 ?side2 A7.out).mono ?_); (case side1 => exact cs_ ((Kd.C_below HR0_1.out (hs_ GE386.out)))); (case side2 => exact HC0_1.out); rintro e w14 ⟨rfl, hb⟩; refine ⟨_, rfl, ?_⟩; replace BK386 := bK_ BK386 hb; replace HB := nc_ GE386 hb; (try clear hb); (try clear hb2); (try clear hk); (try clear hi)))
 go_ret
 exact ⟨er_, hs_ GE386.out⟩

/-! ### laws_heldIntS: function 28 -/
def laws_heldIntS.l0 : Nat → List Int → Int → Int → Option (Int)
 | 0, _, _, _ => none
 | k + 1, x0, x1, x5 => if x5 < (x0.length : Int) then (if 0 ≤ x5 then (if (rd x0 x5) = x1 then (laws_heldIntS.l0 k x0 (wrap64 (x1 + 1)) (wrap64 (x5 + 1))) else (some (-1))) else (none)) else (some x1)
def laws_heldIntS.f (k : Nat) (l0 : List Int) (a1 : Int) : Option (Int) := laws_heldIntS.l0 k l0 a1 0
theorem laws_heldIntS.mono_l : ∀ k, (∀ y0 y1 y2, LeO (laws_heldIntS.l0 k y0 y1 y2) (laws_heldIntS.l0 (k + 1) y0 y1 y2))
 | 0 => fun _ _ _ r h => by simp [laws_heldIntS.l0] at h
 | k + 1 => by
  have ih0 := laws_heldIntS.mono_l k
  ·intro y0 y1 y2
   unfold laws_heldIntS.l0
   repeat' first
   | (with_reducible first | apply ih0 | exact LeO.refl _ | exact LeO.none _ | refine LeO.ite ?_ ?_ | refine LeO.bind ?_ (fun _ => ?_))
theorem laws_heldIntS.mono : ∀ a0 a1 k, LeO (laws_heldIntS.f k a0 a1) (laws_heldIntS.f (k + 1) a0 a1) := by
 intro a0 a1 k
 have ih0 := laws_heldIntS.mono_l k
 unfold laws_heldIntS.f
 repeat' first
   | (with_reducible first | apply ih0 | exact LeO.refl _ | exact LeO.none _ | refine LeO.ite ?_ ?_ | refine LeO.bind ?_ (fun _ => ?_))
set_option maxHeartbeats 8000000 in
set_option maxRecDepth 100000 in
theorem laws_heldIntS.calls (k : Nat) (A0 : Option Addr) (c0 : Nat) (l0 : List Int) (a1 : Int) (r : Int) (w : World) (hr0 : Kd.C (Kd.int .i64) w A0 l0.length l0) (hc0 : l0.length ≤ c0) (h : laws_heldIntS.f k l0 a1 = some r) :
  Calls Try.prog 28 #[.slice A0 l0.length c0, .int .i64 a1] w fun e w' => e = .returned (.int .i64 r) ∧ Drawn0 w w' := by
 have HR0 := am_ hr0
 have HC0 := am_ hc0
 clear hr0 hc0
 have H : (laws_heldIntS.l0 k l0 a1 0) = some r := h
 clear h
 have H' := am_ H
 clear H
 go_enter Try.func28, Try.ntmps28
 go_wp2
 go_loopg [1, 5] k (fun kq v1 v5 w' => ∃ (x1_1 : Int) (x5_1 : Int), v1 = .int .i64 x1_1 ∧ v5 = .int .i64 x5_1 ∧ Aside0 (laws_heldIntS.l0 kq l0 x1_1 x5_1 = some r) ∧ Aside0 (kq ≤ k) ∧ Drawn0 w w')
 case atStart => exact ⟨(a1), (0), sr_, sr_, H', ⟨Nat.le_refl _⟩, dr_⟩
 case round =>
  clear H'
  obtain ⟨x1_1, x5_1, rfl, rfl, HA, HK1, ⟨m1, rfl⟩⟩ := hrel
  cases gk with
  | zero => exact absurd HA.out (by simp [laws_heldIntS.l0])
  | succ k1 =>
   have H := HA.out
   clear HA
   simp only [laws_heldIntS.l0] at H
   replace H := ite_ H
   obtain ⟨c3, H⟩ | ⟨c3, H⟩ := H
   rotate_left
   ·have c3b0 := decide_eq_false c3
    clear c3
    obtain rfl := Option.some.inj H
    go_wp2
    go_ret
    exact ⟨by first | rfl | (simp; done) | (simp [*]; done), dr_⟩
   have c3b0 := decide_eq_true c3
   clear c3
   replace H := ifs_ H
   obtain ⟨c4, H⟩ := H
   have c4b0 := decide_eq_true c4
   clear c4
   replace H := ite_ H
   obtain ⟨c5, H⟩ | ⟨c5, H⟩ := H
   rotate_left
   ·have c5b0 : ((rd l0 x5_1) == x1_1) = false := beq_eq_false_iff_ne.mpr c5
    have c5b1 : ((rd l0 x5_1) != x1_1) = true := bne_iff_ne.mpr c5
    obtain rfl := Option.some.inj H
    have p389 : 0 ≤ (x5_1 : Int) := oa_
    have q389 : x5_1 < (l0.length : Int) := oa_
    obtain ⟨ad389, e389, hx389_0⟩ := Kd.at_int HR0.out x5_1 p389 q389
    cases e389
    replace p389 := eq_true p389
    replace q389 := eq_true q389
    go_wp2
    go_ret
    exact ⟨by first | rfl | (simp; done) | (simp [*]; done), dr_⟩
   have c5b0 : ((rd l0 x5_1) == x1_1) = true := beq_iff_eq.mpr c5
   have c5b1 : ((rd l0 x5_1) != x1_1) = false := bne_eq_false_iff_eq.mpr c5
   clear c5
   have H' := am_ H
   clear H
   have p389 : 0 ≤ (x5_1 : Int) := oa_
   have q389 : x5_1 < (l0.length : Int) := oa_
   obtain ⟨ad389, e389, hx389_0⟩ := Kd.at_int HR0.out x5_1 p389 q389
   cases e389
   replace p389 := eq_true p389
   replace q389 := eq_true q389
   go_wp2
   go_roundg k1
   case measure => have := HK1.out; omega
   case rel => exact ⟨(wrap64 (x1_1 + 1)), (wrap64 (x5_1 + 1)), sr_, sr_, H', ⟨by have := HK1.out; omega⟩, dr_⟩
end Go.Proofs.Ytojdaolclcmalaa.QFnExactPlayAsks
