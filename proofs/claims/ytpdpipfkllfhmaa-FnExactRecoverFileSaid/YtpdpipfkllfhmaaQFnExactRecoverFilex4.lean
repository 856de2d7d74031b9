/- For each Go function that one statement reaches: a plain function with the same answers, and the proof that the call comes to them. Conditions: those that each contract names. Written by a program of this repository. -/
import Derived.Test.YtpdpipfkllfhmaaVRecoverFilea
import Derived.Test.YtpdpipfkllfhmaaQFnExactRecoverFilex0
import Derived.Test.YtpdpipfkllfhmaaQFnExactRecoverFilex3
namespace Go.Proofs.Ytpdpipfkllfhmaa.QFnExactRecoverFile
open Go.RowKit Go.Proofs.YtpdpipfkllfhmaaW.PrintWords Go.Proofs.YtpdpipfkllfhmaaW.PrintLast Go.Proofs.YtpdpipfkllfhmaaW.PrintMore
attribute [local go_sem] max2_int min2_int max_two min_two max_three min_three max_four min_four Go.Proofs.YtpdpipfkllfhmaaW.PrintMore2.isSome_setCell   -- for this text's walks alone
set_option linter.unusedVariables false
set_option linter.unusedSimpArgs false

/-! ### laws_heldBatchS: function 16 -/
def laws_heldBatchS.l0 : Nat → List (S44) → Int → Int → Option (Int)
 | 0, _, _, _ => none
 | k + 1, x0, x1, x5 => if x5 < (x0.length : Int) then (if 0 ≤ x5 then (if ((rd_T44 x0 x5).f0) = x1 then (if ((rd_T44 x0 x5).f1) = (wrap64 (x1 + 1)) then (if ((rd_T44 x0 x5).f2) = (wrap64 ((wrap64 (x1 + 1)) + 1)) then (if ((rd_T44 x0 x5).f3) = (wrap64 ((wrap64 ((wrap64 (x1 + 1)) + 1)) + 1)) then ((laws_heldStringS.f k ((rd_T44 x0 x5).f4) (wrap64 ((wrap64 ((wrap64 ((wrap64 (x1 + 1)) + 1)) + 1)) + 1))).bind fun t156 => (if t156 < 0 then (some (-1)) else (laws_heldBatchS.l0 k x0 t156 (wrap64 (x5 + 1))))) else (some (-1))) else (some (-1))) else (some (-1))) else (some (-1))) else (none)) else (some x1)
def laws_heldBatchS.f (k : Nat) (l0 : List (S44)) (a1 : Int) : Option (Int) := laws_heldBatchS.l0 k l0 a1 0
theorem laws_heldBatchS.mono_l : ∀ k, (∀ y0 y1 y2, LeO (laws_heldBatchS.l0 k y0 y1 y2) (laws_heldBatchS.l0 (k + 1) y0 y1 y2))
 | 0 => fun _ _ _ r h => by simp [laws_heldBatchS.l0] at h
 | k + 1 => by
  have ih0 := laws_heldBatchS.mono_l k
  ·intro y0 y1 y2
   unfold laws_heldBatchS.l0
   repeat' first
   | (with_reducible exact ih0 _ _ _)
   | (with_reducible exact laws_heldStringS.mono _ _ _)
   | (with_reducible exact LeO.refl _)
   | (with_reducible exact LeO.none _)
   | (with_reducible refine LeO.ite ?_ ?_)
   | (with_reducible refine LeO.bind ?_ (fun _ => ?_))
   | exact ih0 _ _ _
   | exact laws_heldStringS.mono _ _ _
   | exact LeO.none _
   | refine LeO.ite ?_ ?_
   | refine LeO.bind ?_ (fun _ => ?_)
theorem laws_heldBatchS.mono : ∀ a0 a1 k, LeO (laws_heldBatchS.f k a0 a1) (laws_heldBatchS.f (k + 1) a0 a1) := by
 intro a0 a1 k
 have ih0 := laws_heldBatchS.mono_l k
 unfold laws_heldBatchS.f
 repeat' first
   | (with_reducible exact ih0 _ _ _)
   | (with_reducible exact laws_heldStringS.mono _ _ _)
   | (with_reducible exact LeO.refl _)
   | (with_reducible exact LeO.none _)
   | (with_reducible refine LeO.ite ?_ ?_)
   | (with_reducible refine LeO.bind ?_ (fun _ => ?_))
   | exact ih0 _ _ _
   | exact laws_heldStringS.mono _ _ _
   | exact LeO.none _
   | refine LeO.ite ?_ ?_
   | refine LeO.bind ?_ (fun _ => ?_)
set_option maxHeartbeats 8000000 in
set_option maxRecDepth 100000 in
theorem laws_heldBatchS.calls (k : Nat) (A0 : Option Addr) (c0 : Nat) (l0 : List (S44)) (a1 : Int) (r : Int) (w : World) (hr0 : Kd.C k44 w A0 l0.length l0) (hc0 : l0.length ≤ c0) (h : laws_heldBatchS.f k l0 a1 = some r) :
  Calls Try.prog 16 #[.slice A0 l0.length c0, .int .i64 a1] w fun e w' => e = .returned (.int .i64 r) ∧ Below w.heap.size w w' := by
 have HR0 := Aside0.mk hr0
 have HC0 := Aside0.mk hc0
 clear hr0 hc0
 have HB := Aside0.mk (Below.refl w.heap.size w)
 have H : (laws_heldBatchS.l0 k l0 a1 0) = some r := h
 clear h
 have H' := Aside0.mk H
 clear H
 go_enter Try.func16, Try.ntmps16
 go_wp2
 go_loopg [1, 5] k (fun kq v1 v5 w' => ∃ (x1_1 : Int) (x5_1 : Int), v1 = .int .i64 x1_1 ∧ v5 = .int .i64 x5_1 ∧ Aside0 (laws_heldBatchS.l0 kq l0 x1_1 x5_1 = some r) ∧ Aside0 (kq ≤ k) ∧ Aside0 (Below w.heap.size w w'))
 case atStart => exact ⟨(a1), (0), sr_, sr_, H', ⟨Nat.le_refl _⟩, ⟨hb_⟩⟩
 case round =>
  clear H'
  try clear c1
  try clear p2
  obtain ⟨x1_1, x5_1, rfl, rfl, HA, HK1, HB⟩ := hrel
  cases gk with
  | zero => exact absurd HA.out (by simp [laws_heldBatchS.l0])
  | succ k1 =>
   have H := HA.out
   clear HA
   simp only [laws_heldBatchS.l0] at H
   replace H := ite_ H
   obtain ⟨c3, H⟩ | ⟨c3, H⟩ := H
   rotate_left
   ·have c3b0 := decide_eq_false c3
    clear c3
    obtain rfl := Option.some.inj H
    go_wp2
    go_ret
    exact ⟨er_, hb_⟩
   have c3b0 := decide_eq_true c3
   clear c3
   replace H := ifs_ H
   obtain ⟨c4, H⟩ := H
   have c4b0 := decide_eq_true c4
   clear c4
   replace H := ite_ H
   obtain ⟨c5, H⟩ | ⟨c5, H⟩ := H
   rotate_left
   ·have c5b0 : (((rd_T44 l0 x5_1).f0) == x1_1) = false := beq_eq_false_iff_ne.mpr c5
    have c5b1 : (((rd_T44 l0 x5_1).f0) != x1_1) = true := bne_iff_ne.mpr c5
    obtain rfl := Option.some.inj H
    have p151 : 0 ≤ (x5_1 : Int) := of_decide_eq_true (by first | (with_reducible assumption) | assumption)
    have q151 : x5_1 < (l0.length : Int) := of_decide_eq_true (by first | (with_reducible assumption) | assumption)
    obtain ⟨ad151, A151_4, c151_4, e151, hx151_0, hx151_1, hx151_2, hx151_3, hx151_4, hl151_4, hi151_4⟩ := at_T44 HR0.out x5_1 p151 q151
    cases e151
    replace hx151_0 := pc_ HB.out hx151_0
    replace hx151_1 := pc_ HB.out hx151_1
    replace hx151_2 := pc_ HB.out hx151_2
    replace hx151_3 := pc_ HB.out hx151_3
    replace hx151_4 := pc_ HB.out hx151_4
    have HR151_4 := Aside0.mk hi151_4
    have HC151_4 := Aside0.mk hl151_4
    clear hi151_4 hl151_4
    replace p151 := eq_true p151
    replace q151 := eq_true q151
    go_wp2
    go_ret
    exact ⟨er_, hb_⟩
   have c5b0 : (((rd_T44 l0 x5_1).f0) == x1_1) = true := beq_iff_eq.mpr c5
   have c5b1 : (((rd_T44 l0 x5_1).f0) != x1_1) = false := bne_eq_false_iff_eq.mpr c5
   clear c5
   replace H := ite_ H
   obtain ⟨c6, H⟩ | ⟨c6, H⟩ := H
   rotate_left
   ·have c6b0 : (((rd_T44 l0 x5_1).f1) == (wrap64 (x1_1 + 1))) = false := beq_eq_false_iff_ne.mpr c6
    have c6b1 : (((rd_T44 l0 x5_1).f1) != (wrap64 (x1_1 + 1))) = true := bne_iff_ne.mpr c6
    obtain rfl := Option.some.inj H
    have p151 : 0 ≤ (x5_1 : Int) := of_decide_eq_true (by first | (with_reducible assumption) | assumption)
    have q151 : x5_1 < (l0.length : Int) := of_decide_eq_true (by first | (with_reducible assumption) | assumption)
    obtain ⟨ad151, A151_4, c151_4, e151, hx151_0, hx151_1, hx151_2, hx151_3, hx151_4, hl151_4, hi151_4⟩ := at_T44 HR0.out x5_1 p151 q151
    cases e151
    replace hx151_0 := pc_ HB.out hx151_0
    replace hx151_1 := pc_ HB.out hx151_1
    replace hx151_2 := pc_ HB.out hx151_2
    replace hx151_3 := pc_ HB.out hx151_3
    replace hx151_4 := pc_ HB.out hx151_4
    have HR151_4 := Aside0.mk hi151_4
    have HC151_4 := Aside0.mk hl151_4
    clear hi151_4 hl151_4
    replace p151 := eq_true p151
    replace q151 := eq_true q151
    have p152 : 0 ≤ (x5_1 : Int) := of_decide_eq_true (by first | (with_reducible assumption) | assumption)
    have q152 : x5_1 < (l0.length : Int) := of_decide_eq_true (by first | (with_reducible assumption) | assumption)
    obtain ⟨ad152, A152_4, c152_4, e152, hx152_0, hx152_1, hx152_2, hx152_3, hx152_4, hl152_4, hi152_4⟩ := at_T44 HR0.out x5_1 p152 q152
    obtain rfl : ad151 = ad152 := (by injection e152)
    replace hx152_0 := pc_ HB.out hx152_0
    replace hx152_1 := pc_ HB.out hx152_1
    replace hx152_2 := pc_ HB.out hx152_2
    replace hx152_3 := pc_ HB.out hx152_3
    replace hx152_4 := pc_ HB.out hx152_4
    have HR152_4 := Aside0.mk hi152_4
    have HC152_4 := Aside0.mk hl152_4
    clear hi152_4 hl152_4
    replace p152 := eq_true p152
    replace q152 := eq_true q152
    have ea_ := Option.some.inj (hx151_4.symm.trans hx152_4)
    injection ea_ with ea_ en_ ec_
    subst ea_
    subst ec_
    clear en_
    go_wp2
    go_ret
    exact ⟨er_, hb_⟩
   have c6b0 : (((rd_T44 l0 x5_1).f1) == (wrap64 (x1_1 + 1))) = true := beq_iff_eq.mpr c6
   have c6b1 : (((rd_T44 l0 x5_1).f1) != (wrap64 (x1_1 + 1))) = false := bne_eq_false_iff_eq.mpr c6
   clear c6
   replace H := ite_ H
   obtain ⟨c7, H⟩ | ⟨c7, H⟩ := H
   rotate_left
   ·have c7b0 : (((rd_T44 l0 x5_1).f2) == (wrap64 ((wrap64 (x1_1 + 1)) + 1))) = false := beq_eq_false_iff_ne.mpr c7
    have c7b1 : (((rd_T44 l0 x5_1).f2) != (wrap64 ((wrap64 (x1_1 + 1)) + 1))) = true := bne_iff_ne.mpr c7
    obtain rfl := Option.some.inj H
    have p151 : 0 ≤ (x5_1 : Int) := of_decide_eq_true (by first | (with_reducible assumption) | assumption)
    have q151 : x5_1 < (l0.length : Int) := of_decide_eq_true (by first | (with_reducible assumption) | assumption)
    obtain ⟨ad151, A151_4, c151_4, e151, hx151_0, hx151_1, hx151_2, hx151_3, hx151_4, hl151_4, hi151_4⟩ := at_T44 HR0.out x5_1 p151 q151
    cases e151
    replace hx151_0 := pc_ HB.out hx151_0
    replace hx151_1 := pc_ HB.out hx151_1
    replace hx151_2 := pc_ HB.out hx151_2
    replace hx151_3 := pc_ HB.out hx151_3
    replace hx151_4 := pc_ HB.out hx151_4
    have HR151_4 := Aside0.mk hi151_4
    have HC151_4 := Aside0.mk hl151_4
    clear hi151_4 hl151_4
    replace p151 := eq_true p151
    replace q151 := eq_true q151
    have p152 : 0 ≤ (x5_1 : Int) := of_decide_eq_true (by first | (with_reducible assumption) | assumption)
    have q152 : x5_1 < (l0.length : Int) := of_decide_eq_true (by first | (with_reducible assumption) | assumption)
    obtain ⟨ad152, A152_4, c152_4, e152, hx152_0, hx152_1, hx152_2, hx152_3, hx152_4, hl152_4, hi152_4⟩ := at_T44 HR0.out x5_1 p152 q152
    obtain rfl : ad151 = ad152 := (by injection e152)
    replace hx152_0 := pc_ HB.out hx152_0
    replace hx152_1 := pc_ HB.out hx152_1
    replace hx152_2 := pc_ HB.out hx152_2
    replace hx152_3 := pc_ HB.out hx152_3
    replace hx152_4 := pc_ HB.out hx152_4
    have HR152_4 := Aside0.mk hi152_4
    have HC152_4 := Aside0.mk hl152_4
    clear hi152_4 hl152_4
    replace p152 := eq_true p152
    replace q152 := eq_true q152
    have ea_ := Option.some.inj (hx151_4.symm.trans hx152_4)
    injection ea_ with ea_ en_ ec_
    subst ea_
    subst ec_
    clear en_
    have p153 : 0 ≤ (x5_1 : Int) := of_decide_eq_true (by first | (with_reducible assumption) | assumption)
    have q153 : x5_1 < (l0.length : Int) := of_decide_eq_true (by first | (with_reducible assumption) | assumption)
    obtain ⟨ad153, A153_4, c153_4, e153, hx153_0, hx153_1, hx153_2, hx153_3, hx153_4, hl153_4, hi153_4⟩ := at_T44 HR0.out x5_1 p153 q153
    obtain rfl : ad151 = ad153 := (by injection e153)
    replace hx153_0 := pc_ HB.out hx153_0
    replace hx153_1 := pc_ HB.out hx153_1
    replace hx153_2 := pc_ HB.out hx153_2
    replace hx153_3 := pc_ HB.out hx153_3
    replace hx153_4 := pc_ HB.out hx153_4
    have HR153_4 := Aside0.mk hi153_4
    have HC153_4 := Aside0.mk hl153_4
    clear hi153_4 hl153_4
    replace p153 := eq_true p153
    replace q153 := eq_true q153
    have ea_ := Option.some.inj (hx151_4.symm.trans hx153_4)
    injection ea_ with ea_ en_ ec_
    subst ea_
    subst ec_
    clear en_
    go_wp2
    go_ret
    exact ⟨er_, hb_⟩
   have c7b0 : (((rd_T44 l0 x5_1).f2) == (wrap64 ((wrap64 (x1_1 + 1)) + 1))) = true := beq_iff_eq.mpr c7
   have c7b1 : (((rd_T44 l0 x5_1).f2) != (wrap64 ((wrap64 (x1_1 + 1)) + 1))) = false := bne_eq_false_iff_eq.mpr c7
   clear c7
   replace H := ite_ H
   obtain ⟨c8, H⟩ | ⟨c8, H⟩ := H
   rotate_left
   ·have c8b0 : (((rd_T44 l0 x5_1).f3) == (wrap64 ((wrap64 ((wrap64 (x1_1 + 1)) + 1)) + 1))) = false := beq_eq_false_iff_ne.mpr c8
    have c8b1 : (((rd_T44 l0 x5_1).f3) != (wrap64 ((wrap64 ((wrap64 (x1_1 + 1)) + 1)) + 1))) = true := bne_iff_ne.mpr c8
    obtain rfl := Option.some.inj H
    have p151 : 0 ≤ (x5_1 : Int) := of_decide_eq_true (by first | (with_reducible assumption) | assumption)
    have q151 : x5_1 < (l0.length : Int) := of_decide_eq_true (by first | (with_reducible assumption) | assumption)
    obtain ⟨ad151, A151_4, c151_4, e151, hx151_0, hx151_1, hx151_2, hx151_3, hx151_4, hl151_4, hi151_4⟩ := at_T44 HR0.out x5_1 p151 q151
    cases e151
    replace hx151_0 := pc_ HB.out hx151_0
    replace hx151_1 := pc_ HB.out hx151_1
    replace hx151_2 := pc_ HB.out hx151_2
    replace hx151_3 := pc_ HB.out hx151_3
    replace hx151_4 := pc_ HB.out hx151_4
    have HR151_4 := Aside0.mk hi151_4
    have HC151_4 := Aside0.mk hl151_4
    clear hi151_4 hl151_4
    replace p151 := eq_true p151
    replace q151 := eq_true q151
    have p152 : 0 ≤ (x5_1 : Int) := of_decide_eq_true (by first | (with_reducible assumption) | assumption)
    have q152 : x5_1 < (l0.length : Int) := of_decide_eq_true (by first | (with_reducible assumption) | assumption)
    obtain ⟨ad152, A152_4, c152_4, e152, hx152_0, hx152_1, hx152_2, hx152_3, hx152_4, hl152_4, hi152_4⟩ := at_T44 HR0.out x5_1 p152 q152
    obtain rfl : ad151 = ad152 := (by injection e152)
    replace hx152_0 := pc_ HB.out hx152_0
    replace hx152_1 := pc_ HB.out hx152_1
    replace hx152_2 := pc_ HB.out hx152_2
    replace hx152_3 := pc_ HB.out hx152_3
    replace hx152_4 := pc_ HB.out hx152_4
    have HR152_4 := Aside0.mk hi152_4
    have HC152_4 := Aside0.mk hl152_4
    clear hi152_4 hl152_4
    replace p152 := eq_true p152
    replace q152 := eq_true q152
    have ea_ := Option.some.inj (hx151_4.symm.trans hx152_4)
    injection ea_ with ea_ en_ ec_
    subst ea_
    subst ec_
    clear en_
    have p153 : 0 ≤ (x5_1 : Int) := of_decide_eq_true (by first | (with_reducible assumption) | assumption)
    have q153 : x5_1 < (l0.length : Int) := of_decide_eq_true (by first | (with_reducible assumption) | assumption)
    obtain ⟨ad153, A153_4, c153_4, e153, hx153_0, hx153_1, hx153_2, hx153_3, hx153_4, hl153_4, hi153_4⟩ := at_T44 HR0.out x5_1 p153 q153
    obtain rfl : ad151 = ad153 := (by injection e153)
    replace hx153_0 := pc_ HB.out hx153_0
    replace hx153_1 := pc_ HB.out hx153_1
    replace hx153_2 := pc_ HB.out hx153_2
    replace hx153_3 := pc_ HB.out hx153_3
    replace hx153_4 := pc_ HB.out hx153_4
    have HR153_4 := Aside0.mk hi153_4
    have HC153_4 := Aside0.mk hl153_4
    clear hi153_4 hl153_4
    replace p153 := eq_true p153
    replace q153 := eq_true q153
    have ea_ := Option.some.inj (hx151_4.symm.trans hx153_4)
    injection ea_ with ea_ en_ ec_
    subst ea_
    subst ec_
    clear en_
    have p154 : 0 ≤ (x5_1 : Int) := of_decide_eq_true (by first | (with_reducible assumption) | assumption)
    have q154 : x5_1 < (l0.length : Int) := of_decide_eq_true (by first | (with_reducible assumption) | assumption)
    obtain ⟨ad154, A154_4, c154_4, e154, hx154_0, hx154_1, hx154_2, hx154_3, hx154_4, hl154_4, hi154_4⟩ := at_T44 HR0.out x5_1 p154 q154
    obtain rfl : ad151 = ad154 := (by injection e154)
    replace hx154_0 := pc_ HB.out hx154_0
    replace hx154_1 := pc_ HB.out hx154_1
    replace hx154_2 := pc_ HB.out hx154_2
    replace hx154_3 := pc_ HB.out hx154_3
    replace hx154_4 := pc_ HB.out hx154_4
    have HR154_4 := Aside0.mk hi154_4
    have HC154_4 := Aside0.mk hl154_4
    clear hi154_4 hl154_4
    replace p154 := eq_true p154
    replace q154 := eq_true q154
    have ea_ := Option.some.inj (hx151_4.symm.trans hx154_4)
    injection ea_ with ea_ en_ ec_
    subst ea_
    subst ec_
    clear en_
    go_wp2
    go_ret
    exact ⟨er_, hb_⟩
   have c8b0 : (((rd_T44 l0 x5_1).f3) == (wrap64 ((wrap64 ((wrap64 (x1_1 + 1)) + 1)) + 1))) = true := beq_iff_eq.mpr c8
   have c8b1 : (((rd_T44 l0 x5_1).f3) != (wrap64 ((wrap64 ((wrap64 (x1_1 + 1)) + 1)) + 1))) = false := bne_eq_false_iff_eq.mpr c8
   clear c8
   replace H := bnd_ H
   obtain ⟨t156, A9, H⟩ := H
   replace H := ite_ H
   obtain ⟨c10, H⟩ | ⟨c10, H⟩ := H
   ·have c10b0 := decide_eq_true c10
    clear c10
    obtain rfl := Option.some.inj H
    have p151 : 0 ≤ (x5_1 : Int) := of_decide_eq_true (by first | (with_reducible assumption) | assumption)
    have q151 : x5_1 < (l0.length : Int) := of_decide_eq_true (by first | (with_reducible assumption) | assumption)
    obtain ⟨ad151, A151_4, c151_4, e151, hx151_0, hx151_1, hx151_2, hx151_3, hx151_4, hl151_4, hi151_4⟩ := at_T44 HR0.out x5_1 p151 q151
    cases e151
    replace hx151_0 := pc_ HB.out hx151_0
    replace hx151_1 := pc_ HB.out hx151_1
    replace hx151_2 := pc_ HB.out hx151_2
    replace hx151_3 := pc_ HB.out hx151_3
    replace hx151_4 := pc_ HB.out hx151_4
    have HR151_4 := Aside0.mk hi151_4
    have HC151_4 := Aside0.mk hl151_4
    clear hi151_4 hl151_4
    replace p151 := eq_true p151
    replace q151 := eq_true q151
    have p152 : 0 ≤ (x5_1 : Int) := of_decide_eq_true (by first | (with_reducible assumption) | assumption)
    have q152 : x5_1 < (l0.length : Int) := of_decide_eq_true (by first | (with_reducible assumption) | assumption)
    obtain ⟨ad152, A152_4, c152_4, e152, hx152_0, hx152_1, hx152_2, hx152_3, hx152_4, hl152_4, hi152_4⟩ := at_T44 HR0.out x5_1 p152 q152
    obtain rfl : ad151 = ad152 := (by injection e152)
    replace hx152_0 := pc_ HB.out hx152_0
    replace hx152_1 := pc_ HB.out hx152_1
    replace hx152_2 := pc_ HB.out hx152_2
    replace hx152_3 := pc_ HB.out hx152_3
    replace hx152_4 := pc_ HB.out hx152_4
    have HR152_4 := Aside0.mk hi152_4
    have HC152_4 := Aside0.mk hl152_4
    clear hi152_4 hl152_4
    replace p152 := eq_true p152
    replace q152 := eq_true q152
    have ea_ := Option.some.inj (hx151_4.symm.trans hx152_4)
    injection ea_ with ea_ en_ ec_
    subst ea_
    subst ec_
    clear en_
    have p153 : 0 ≤ (x5_1 : Int) := of_decide_eq_true (by first | (with_reducible assumption) | assumption)
    have q153 : x5_1 < (l0.length : Int) := of_decide_eq_true (by first | (with_reducible assumption) | assumption)
    obtain ⟨ad153, A153_4, c153_4, e153, hx153_0, hx153_1, hx153_2, hx153_3, hx153_4, hl153_4, hi153_4⟩ := at_T44 HR0.out x5_1 p153 q153
    obtain rfl : ad151 = ad153 := (by injection e153)
    replace hx153_0 := pc_ HB.out hx153_0
    replace hx153_1 := pc_ HB.out hx153_1
    replace hx153_2 := pc_ HB.out hx153_2
    replace hx153_3 := pc_ HB.out hx153_3
    replace hx153_4 := pc_ HB.out hx153_4
    have HR153_4 := Aside0.mk hi153_4
    have HC153_4 := Aside0.mk hl153_4
    clear hi153_4 hl153_4
    replace p153 := eq_true p153
    replace q153 := eq_true q153
    have ea_ := Option.some.inj (hx151_4.symm.trans hx153_4)
    injection ea_ with ea_ en_ ec_
    subst ea_
    subst ec_
    clear en_
    have p154 : 0 ≤ (x5_1 : Int) := of_decide_eq_true (by first | (with_reducible assumption) | assumption)
    have q154 : x5_1 < (l0.length : Int) := of_decide_eq_true (by first | (with_reducible assumption) | assumption)
    obtain ⟨ad154, A154_4, c154_4, e154, hx154_0, hx154_1, hx154_2, hx154_3, hx154_4, hl154_4, hi154_4⟩ := at_T44 HR0.out x5_1 p154 q154
    obtain rfl : ad151 = ad154 := (by injection e154)
    replace hx154_0 := pc_ HB.out hx154_0
    replace hx154_1 := pc_ HB.out hx154_1
    replace hx154_2 := pc_ HB.out hx154_2
    replace hx154_3 := pc_ HB.out hx154_3
    replace hx154_4 := pc_ HB.out hx154_4
    have HR154_4 := Aside0.mk hi154_4
    have HC154_4 := Aside0.mk hl154_4
    clear hi154_4 hl154_4
    replace p154 := eq_true p154
    replace q154 := eq_true q154
    have ea_ := Option.some.inj (hx151_4.symm.trans hx154_4)
    injection ea_ with ea_ en_ ec_
    subst ea_
    subst ec_
    clear en_
    have p155 : 0 ≤ (x5_1 : Int) := of_decide_eq_true (by first | (with_reducible assumption) | assumption)
    have q155 : x5_1 < (l0.length : Int) := of_decide_eq_true (by first | (with_reducible assumption) | assumption)
    obtain ⟨ad155, A155_4, c155_4, e155, hx155_0, hx155_1, hx155_2, hx155_3, hx155_4, hl155_4, hi155_4⟩ := at_T44 HR0.out x5_1 p155 q155
    obtain rfl : ad151 = ad155 := (by injection e155)
    replace hx155_0 := pc_ HB.out hx155_0
    replace hx155_1 := pc_ HB.out hx155_1
    replace hx155_2 := pc_ HB.out hx155_2
    replace hx155_3 := pc_ HB.out hx155_3
    replace hx155_4 := pc_ HB.out hx155_4
    have HR155_4 := Aside0.mk hi155_4
    have HC155_4 := Aside0.mk hl155_4
    clear hi155_4 hl155_4
    replace p155 := eq_true p155
    replace q155 := eq_true q155
    have ea_ := Option.some.inj (hx151_4.symm.trans hx155_4)
    injection ea_ with ea_ en_ ec_
    subst ea_
    subst ec_
    clear en_
    go_wp2_with (first | ((with_reducible refine gate_callee (f := 57) rfl ?_); refine goesL_ (some 54) rfl rfl Try.func57 (by kernel_rfl) rfl #[.slice A151_4 ((rd_T44 l0 x5_1).f4).length c151_4, .int .i64 (wrap64 ((wrap64 ((wrap64 ((wrap64 (x1_1 + 1)) + 1)) + 1)) + 1))] rfl ma_ ?_; (with_reducible refine (laws_heldStringS.calls k1 _ _ ((rd_T44 l0 x5_1).f4) (wrap64 ((wrap64 ((wrap64 ((wrap64 (x1_1 + 1)) + 1)) + 1)) + 1)) t156 _ ?side1 ?side2 A9.out).mono ?_); (case side1 => exact cs_ ((Kd.C_below HR155_4.out HB.out))); (case side2 => exact HC155_4.out); rintro e w11 ⟨rfl, hb⟩; refine ⟨_, rfl, ?_⟩; have n0_ := Aside0.mk (below_step (hb_) hb); clear HB; have HB := n0_; clear n0_; (try clear hb); (try clear hb2); (try clear hk); (try clear hi)))
    go_ret
    exact ⟨er_, hb_⟩
   have c10b0 := decide_eq_false c10
   clear c10
   have H' := Aside0.mk H
   clear H
   have p151 : 0 ≤ (x5_1 : Int) := of_decide_eq_true (by first | (with_reducible assumption) | assumption)
   have q151 : x5_1 < (l0.length : Int) := of_decide_eq_true (by first | (with_reducible assumption) | assumption)
   obtain ⟨ad151, A151_4, c151_4, e151, hx151_0, hx151_1, hx151_2, hx151_3, hx151_4, hl151_4, hi151_4⟩ := at_T44 HR0.out x5_1 p151 q151
   cases e151
   replace hx151_0 := pc_ HB.out hx151_0
   replace hx151_1 := pc_ HB.out hx151_1
   replace hx151_2 := pc_ HB.out hx151_2
   replace hx151_3 := pc_ HB.out hx151_3
   replace hx151_4 := pc_ HB.out hx151_4
   have HR151_4 := Aside0.mk hi151_4
   have HC151_4 := Aside0.mk hl151_4
   clear hi151_4 hl151_4
   replace p151 := eq_true p151
   replace q151 := eq_true q151
   have p152 : 0 ≤ (x5_1 : Int) := of_decide_eq_true (by first | (with_reducible assumption) | assumption)
   have q152 : x5_1 < (l0.length : Int) := of_decide_eq_true (by first | (with_reducible assumption) | assumption)
   obtain ⟨ad152, A152_4, c152_4, e152, hx152_0, hx152_1, hx152_2, hx152_3, hx152_4, hl152_4, hi152_4⟩ := at_T44 HR0.out x5_1 p152 q152
   obtain rfl : ad151 = ad152 := (by injection e152)
   replace hx152_0 := pc_ HB.out hx152_0
   replace hx152_1 := pc_ HB.out hx152_1
   replace hx152_2 := pc_ HB.out hx152_2
   replace hx152_3 := pc_ HB.out hx152_3
   replace hx152_4 := pc_ HB.out hx152_4
   have HR152_4 := Aside0.mk hi152_4
   have HC152_4 := Aside0.mk hl152_4
   clear hi152_4 hl152_4
   replace p152 := eq_true p152
   replace q152 := eq_true q152
   have ea_ := Option.some.inj (hx151_4.symm.trans hx152_4)
   injection ea_ with ea_ en_ ec_
   subst ea_
   subst ec_
   clear en_
   have p153 : 0 ≤ (x5_1 : Int) := of_decide_eq_true (by first | (with_reducible assumption) | assumption)
   have q153 : x5_1 < (l0.length : Int) := of_decide_eq_true (by first | (with_reducible assumption) | assumption)
   obtain ⟨ad153, A153_4, c153_4, e153, hx153_0, hx153_1, hx153_2, hx153_3, hx153_4, hl153_4, hi153_4⟩ := at_T44 HR0.out x5_1 p153 q153
   obtain rfl : ad151 = ad153 := (by injection e153)
   replace hx153_0 := pc_ HB.out hx153_0
   replace hx153_1 := pc_ HB.out hx153_1
   replace hx153_2 := pc_ HB.out hx153_2
   replace hx153_3 := pc_ HB.out hx153_3
   replace hx153_4 := pc_ HB.out hx153_4
   have HR153_4 := Aside0.mk hi153_4
   have HC153_4 := Aside0.mk hl153_4
   clear hi153_4 hl153_4
   replace p153 := eq_true p153
   replace q153 := eq_true q153
   have ea_ := Option.some.inj (hx151_4.symm.trans hx153_4)
   injection ea_ with ea_ en_ ec_
   subst ea_
   subst ec_
   clear en_
   have p154 : 0 ≤ (x5_1 : Int) := of_decide_eq_true (by first | (with_reducible assumption) | assumption)
   have q154 : x5_1 < (l0.length : Int) := of_decide_eq_true (by first | (with_reducible assumption) | assumption)
   obtain ⟨ad154, A154_4, c154_4, e154, hx154_0, hx154_1, hx154_2, hx154_3, hx154_4, hl154_4, hi154_4⟩ := at_T44 HR0.out x5_1 p154 q154
   obtain rfl : ad151 = ad154 := (by injection e154)
   replace hx154_0 := pc_ HB.out hx154_0
   replace hx154_1 := pc_ HB.out hx154_1
   replace hx154_2 := pc_ HB.out hx154_2
   replace hx154_3 := pc_ HB.out hx154_3
   replace hx154_4 := pc_ HB.out hx154_4
   have HR154_4 := Aside0.mk hi154_4
   have HC154_4 := Aside0.mk hl154_4
   clear hi154_4 hl154_4
   replace p154 := eq_true p154
   replace q154 := eq_true q154
   have ea_ := Option.some.inj (hx151_4.symm.trans hx154_4)
   injection ea_ with ea_ en_ ec_
   subst ea_
   subst ec_
   clear en_
   have p155 : 0 ≤ (x5_1 : Int) := of_decide_eq_true (by first | (with_reducible assumption) | assumption)
   have q155 : x5_1 < (l0.length : Int) := of_decide_eq_true (by first | (with_reducible assumption) | assumption)
   obtain ⟨ad155, A155_4, c155_4, e155, hx155_0, hx155_1, hx155_2, hx155_3, hx155_4, hl155_4, hi155_4⟩ := at_T44 HR0.out x5_1 p155 q155
   obtain rfl : ad151 = ad155 := (by injection e155)
   replace hx155_0 := pc_ HB.out hx155_0
   replace hx155_1 := pc_ HB.out hx155_1
   replace hx155_2 := pc_ HB.out hx155_2
   replace hx155_3 := pc_ HB.out hx155_3
   replace hx155_4 := pc_ HB.out hx155_4
   have HR155_4 := Aside0.mk hi155_4
   have HC155_4 := Aside0.mk hl155_4
   clear hi155_4 hl155_4
   replace p155 := eq_true p155
   replace q155 := eq_true q155
   have ea_ := Option.some.inj (hx151_4.symm.trans hx155_4)
   injection ea_ with ea_ en_ ec_
   subst ea_
   subst ec_
   clear en_
   go_wp2_with (first | ((with_reducible refine gate_callee (f := 57) rfl ?_); refine goesL_ (some 54) rfl rfl Try.func57 (by kernel_rfl) rfl #[.slice A151_4 ((rd_T44 l0 x5_1).f4).length c151_4, .int .i64 (wrap64 ((wrap64 ((wrap64 ((wrap64 (x1_1 + 1)) + 1)) + 1)) + 1))] rfl ma_ ?_; (with_reducible refine (laws_heldStringS.calls k1 _ _ ((rd_T44 l0 x5_1).f4) (wrap64 ((wrap64 ((wrap64 ((wrap64 (x1_1 + 1)) + 1)) + 1)) + 1)) t156 _ ?side1 ?side2 A9.out).mono ?_); (case side1 => exact cs_ ((Kd.C_below HR155_4.out HB.out))); (case side2 => exact HC155_4.out); rintro e w12 ⟨rfl, hb⟩; refine ⟨_, rfl, ?_⟩; have n0_ := Aside0.mk (below_step (hb_) hb); clear HB; have HB := n0_; clear n0_; (try clear hb); (try clear hb2); (try clear hk); (try clear hi)))
   go_roundg k1
   case measure => have := HK1.out; omega
   case rel => exact ⟨(t156), (wrap64 (x5_1 + 1)), sr_, sr_, H', ⟨by have := HK1.out; omega⟩, ⟨hb_⟩⟩

end Go.Proofs.Ytpdpipfkllfhmaa.QFnExactRecoverFile
