/- For each Go function that one statement reaches: a plain function with the same answers, and the proof that the call comes to them. Conditions: those that each contract names. Written by a program of this repository. -/
import Derived.Test.YtpdpipfkllfhmaaVSurvivesIna
import Derived.Test.YtpdpipfkllfhmaaQFnExactSurvivesInx0
import Derived.Test.YtpdpipfkllfhmaaQFnExactSurvivesInx1
import Derived.Test.YtpdpipfkllfhmaaQFnExactSurvivesInx6
import Derived.Test.YtpdpipfkllfhmaaQFnExactSurvivesInx10
import Derived.Test.YtpdpipfkllfhmaaQFnExactSurvivesInx11
import Derived.Test.YtpdpipfkllfhmaaQFnExactSurvivesInx12
namespace Go.Proofs.Ytpdpipfkllfhmaa.QFnExactSurvivesIn
open Go.RowKit Go.Proofs.YtpdpipfkllfhmaaW.PrintWords Go.Proofs.YtpdpipfkllfhmaaW.PrintLast Go.Proofs.YtpdpipfkllfhmaaW.PrintMore
attribute [local go_sem] max2_int min2_int max_two min_two max_three min_three max_four min_four Go.Proofs.YtpdpipfkllfhmaaW.PrintMore2.isSome_setCell   -- for this text's walks alone
set_option linter.unusedVariables false
set_option linter.unusedSimpArgs false

/-! ### laws_heldBatchS: function 16 -/
def laws_heldBatchS.l0 : Nat → List (S44) → Int → Int → Option (Int)
 | 0, _, _, _ => none
 | k + 1, x0, x1, x5 => if x5 < (x0.length : Int) then (if 0 ≤ x5 then (if ((rd_T44 x0 x5).f0) = x1 then (if ((rd_T44 x0 x5).f1) = (wrap64 (x1 + 1)) then (if ((rd_T44 x0 x5).f2) = (wrap64 ((wrap64 (x1 + 1)) + 1)) then (if ((rd_T44 x0 x5).f3) = (wrap64 ((wrap64 ((wrap64 (x1 + 1)) + 1)) + 1)) then ((laws_heldStringS.f k ((rd_T44 x0 x5).f4) (wrap64 ((wrap64 ((wrap64 ((wrap64 (x1 + 1)) + 1)) + 1)) + 1))).bind fun t293 => (if t293 < 0 then (some (-1)) else (laws_heldBatchS.l0 k x0 t293 (wrap64 (x5 + 1))))) else (some (-1))) else (some (-1))) else (some (-1))) else (some (-1))) else (none)) else (some x1)
def laws_heldBatchS.f (k : Nat) (l0 : List (S44)) (a1 : Int) : Option (Int) := laws_heldBatchS.l0 k l0 a1 0
theorem laws_heldBatchS.mono_l : ∀ k, (∀ y0 y1 y2, LeO (laws_heldBatchS.l0 k y0 y1 y2) (laws_heldBatchS.l0 (k + 1) y0 y1 y2))
 | 0 => fun _ _ _ r h => by simp [laws_heldBatchS.l0] at h
 | k + 1 => by
  have ih0 := laws_heldBatchS.mono_l k
  ·intro y0 y1 y2
   unfold laws_heldBatchS.l0
   repeat' first
   | (with_reducible exact ih0 _ _ _)
   | (with_reducible exact laws_heldStringS.mono _ _ _)
   | (with_reducible exact LeO.refl _)
   | (with_reducible exact LeO.none _)
   | (with_reducible refine LeO.ite ?_ ?_)
   | (with_reducible refine LeO.bind ?_ (fun _ => ?_))
   | exact ih0 _ _ _
   | exact laws_heldStringS.mono _ _ _
   | exact LeO.none _
   | refine LeO.ite ?_ ?_
   | refine LeO.bind ?_ (fun _ => ?_)
theorem laws_heldBatchS.mono : ∀ a0 a1 k, LeO (laws_heldBatchS.f k a0 a1) (laws_heldBatchS.f (k + 1) a0 a1) := by
 intro a0 a1 k
 have ih0 := laws_heldBatchS.mono_l k
 unfold laws_heldBatchS.f
 repeat' first
   | (with_reducible exact ih0 _ _ _)
   | (with_reducible exact laws_heldStringS.mono _ _ _)
   | (with_reducible exact LeO.refl _)
   | (with_reducible exact LeO.none _)
   | (with_reducible refine LeO.ite ?_ ?_)
   | (with_reducible refine LeO.bind ?_ (fun _ => ?_))
   | exact ih0 _ _ _
   | exact laws_heldStringS.mono _ _ _
   | exact LeO.none _
   | refine LeO.ite ?_ ?_
   | refine LeO.bind ?_ (fun _ => ?_)
set_option maxHeartbeats 8000000 in
set_option maxRecDepth 100000 in
theorem laws_heldBatchS.calls (k : Nat) (A0 : Option Addr) (c0 : Nat) (l0 : List (S44)) (a1 : Int) (r : Int) (w : World) (hr0 : Kd.C k44 w A0 l0.length l0) (hc0 : l0.length ≤ c0) (h : laws_heldBatchS.f k l0 a1 = some r) :
  Calls Try.prog 16 #[.slice A0 l0.length c0, .int .i64 a1] w fun e w' => e = .returned (.int .i64 r) ∧ Below w.heap.size w w' := by
 have HR0 := Aside0.mk hr0
 have HC0 := Aside0.mk hc0
 clear hr0 hc0
 have HB := Aside0.mk (Below.refl w.heap.size w)
 have H : (laws_heldBatchS.l0 k l0 a1 0) = some r := h
 clear h
 have H' := Aside0.mk H
 clear H
 go_enter Try.func16, Try.ntmps16
 go_wp2
 go_loopg [1, 5] k (fun kq v1 v5 w' => ∃ (x1_1 : Int) (x5_1 : Int), v1 = .int .i64 x1_1 ∧ v5 = .int .i64 x5_1 ∧ Aside0 (laws_heldBatchS.l0 kq l0 x1_1 x5_1 = some r) ∧ Aside0 (kq ≤ k) ∧ Aside0 (Below w.heap.size w w'))
 case atStart => exact ⟨(a1), (0), (by first | rfl | (simp; done) | (simp [*]; done)), (by first | rfl | (simp; done) | (simp [*]; done)), H', ⟨Nat.le_refl _⟩, ⟨hb_⟩⟩
 case round =>
  clear H'
  try clear c1
  try clear p2
  obtain ⟨x1_1, x5_1, rfl, rfl, HA, HK1, HB⟩ := hrel
  cases gk with
  | zero => exact absurd HA.out (by simp [laws_heldBatchS.l0])
  | succ k1 =>
   have H := HA.out
   clear HA
   simp only [laws_heldBatchS.l0] at H
   by_cases c3 : x5_1 < (l0.length : Int)
   ·rw [if_pos c3] at H
    have c3b0 : decide (x5_1 < (l0.length : Int)) = true := decide_eq_true c3
    clear c3
    by_cases c4 : 0 ≤ x5_1
    ·rw [if_pos c4] at H
     have c4b0 : decide (0 ≤ x5_1) = true := decide_eq_true c4
     clear c4
     by_cases c5 : ((rd_T44 l0 x5_1).f0) = x1_1
     ·rw [if_pos c5] at H
      have c5b0 : (((rd_T44 l0 x5_1).f0) == x1_1) = true := beq_iff_eq.mpr c5
      have c5b1 : (((rd_T44 l0 x5_1).f0) != x1_1) = false := bne_eq_false_iff_eq.mpr c5
      clear c5
      by_cases c6 : ((rd_T44 l0 x5_1).f1) = (wrap64 (x1_1 + 1))
      ·rw [if_pos c6] at H
       have c6b0 : (((rd_T44 l0 x5_1).f1) == (wrap64 (x1_1 + 1))) = true := beq_iff_eq.mpr c6
       have c6b1 : (((rd_T44 l0 x5_1).f1) != (wrap64 (x1_1 + 1))) = false := bne_eq_false_iff_eq.mpr c6
       clear c6
       by_cases c7 : ((rd_T44 l0 x5_1).f2) = (wrap64 ((wrap64 (x1_1 + 1)) + 1))
       ·rw [if_pos c7] at H
        have c7b0 : (((rd_T44 l0 x5_1).f2) == (wrap64 ((wrap64 (x1_1 + 1)) + 1))) = true := beq_iff_eq.mpr c7
        have c7b1 : (((rd_T44 l0 x5_1).f2) != (wrap64 ((wrap64 (x1_1 + 1)) + 1))) = false := bne_eq_false_iff_eq.mpr c7
        clear c7
        by_cases c8 : ((rd_T44 l0 x5_1).f3) = (wrap64 ((wrap64 ((wrap64 (x1_1 + 1)) + 1)) + 1))
        ·rw [if_pos c8] at H
         have c8b0 : (((rd_T44 l0 x5_1).f3) == (wrap64 ((wrap64 ((wrap64 (x1_1 + 1)) + 1)) + 1))) = true := beq_iff_eq.mpr c8
         have c8b1 : (((rd_T44 l0 x5_1).f3) != (wrap64 ((wrap64 ((wrap64 (x1_1 + 1)) + 1)) + 1))) = false := bne_eq_false_iff_eq.mpr c8
         clear c8
         replace H := Option.bind_eq_some_iff.mp H
         obtain ⟨t293, A90, H⟩ := H
         replace H : (if t293 < 0 then (some (-1)) else (laws_heldBatchS.l0 k1 l0 t293 (wrap64 (x5_1 + 1)))) = some r := H
         have A9 := Aside0.mk A90
         clear A90
         by_cases c10 : t293 < 0
         ·rw [if_pos c10] at H
          have c10b0 : decide (t293 < 0) = true := decide_eq_true c10
          clear c10
          obtain rfl := Option.some.inj H
          have p288 : 0 ≤ (x5_1 : Int) := of_decide_eq_true (by first | (with_reducible assumption) | assumption)
          have q288 : x5_1 < (l0.length : Int) := of_decide_eq_true (by first | (with_reducible assumption) | assumption)
          obtain ⟨ad288, A288_4, c288_4, e288, hx288_0, hx288_1, hx288_2, hx288_3, hx288_4, hl288_4, hi288_4⟩ := at_T44 HR0.out x5_1 p288 q288
          cases e288
          replace hx288_0 := (HB.out.cell (World.block_lt_of_cell? w _ hx288_0)).trans hx288_0
          replace hx288_1 := (HB.out.cell (World.block_lt_of_cell? w _ hx288_1)).trans hx288_1
          replace hx288_2 := (HB.out.cell (World.block_lt_of_cell? w _ hx288_2)).trans hx288_2
          replace hx288_3 := (HB.out.cell (World.block_lt_of_cell? w _ hx288_3)).trans hx288_3
          replace hx288_4 := (HB.out.cell (World.block_lt_of_cell? w _ hx288_4)).trans hx288_4
          have HR288_4 := Aside0.mk hi288_4
          have HC288_4 := Aside0.mk hl288_4
          clear hi288_4 hl288_4
          replace p288 := eq_true p288
          replace q288 := eq_true q288
          have p289 : 0 ≤ (x5_1 : Int) := of_decide_eq_true (by first | (with_reducible assumption) | assumption)
          have q289 : x5_1 < (l0.length : Int) := of_decide_eq_true (by first | (with_reducible assumption) | assumption)
          obtain ⟨ad289, A289_4, c289_4, e289, hx289_0, hx289_1, hx289_2, hx289_3, hx289_4, hl289_4, hi289_4⟩ := at_T44 HR0.out x5_1 p289 q289
          obtain rfl : ad288 = ad289 := (by injection e289)
          replace hx289_0 := (HB.out.cell (World.block_lt_of_cell? w _ hx289_0)).trans hx289_0
          replace hx289_1 := (HB.out.cell (World.block_lt_of_cell? w _ hx289_1)).trans hx289_1
          replace hx289_2 := (HB.out.cell (World.block_lt_of_cell? w _ hx289_2)).trans hx289_2
          replace hx289_3 := (HB.out.cell (World.block_lt_of_cell? w _ hx289_3)).trans hx289_3
          replace hx289_4 := (HB.out.cell (World.block_lt_of_cell? w _ hx289_4)).trans hx289_4
          have HR289_4 := Aside0.mk hi289_4
          have HC289_4 := Aside0.mk hl289_4
          clear hi289_4 hl289_4
          replace p289 := eq_true p289
          replace q289 := eq_true q289
          have ea_ := Option.some.inj (hx288_4.symm.trans hx289_4)
          injection ea_ with ea_ en_ ec_
          subst ea_
          subst ec_
          clear en_
          have p290 : 0 ≤ (x5_1 : Int) := of_decide_eq_true (by first | (with_reducible assumption) | assumption)
          have q290 : x5_1 < (l0.length : Int) := of_decide_eq_true (by first | (with_reducible assumption) | assumption)
          obtain ⟨ad290, A290_4, c290_4, e290, hx290_0, hx290_1, hx290_2, hx290_3, hx290_4, hl290_4, hi290_4⟩ := at_T44 HR0.out x5_1 p290 q290
          obtain rfl : ad288 = ad290 := (by injection e290)
          replace hx290_0 := (HB.out.cell (World.block_lt_of_cell? w _ hx290_0)).trans hx290_0
          replace hx290_1 := (HB.out.cell (World.block_lt_of_cell? w _ hx290_1)).trans hx290_1
          replace hx290_2 := (HB.out.cell (World.block_lt_of_cell? w _ hx290_2)).trans hx290_2
          replace hx290_3 := (HB.out.cell (World.block_lt_of_cell? w _ hx290_3)).trans hx290_3
          replace hx290_4 := (HB.out.cell (World.block_lt_of_cell? w _ hx290_4)).trans hx290_4
          have HR290_4 := Aside0.mk hi290_4
          have HC290_4 := Aside0.mk hl290_4
          clear hi290_4 hl290_4
          replace p290 := eq_true p290
          replace q290 := eq_true q290
          have ea_ := Option.some.inj (hx288_4.symm.trans hx290_4)
          injection ea_ with ea_ en_ ec_
          subst ea_
          subst ec_
          clear en_
          have p291 : 0 ≤ (x5_1 : Int) := of_decide_eq_true (by first | (with_reducible assumption) | assumption)
          have q291 : x5_1 < (l0.length : Int) := of_decide_eq_true (by first | (with_reducible assumption) | assumption)
          obtain ⟨ad291, A291_4, c291_4, e291, hx291_0, hx291_1, hx291_2, hx291_3, hx291_4, hl291_4, hi291_4⟩ := at_T44 HR0.out x5_1 p291 q291
          obtain rfl : ad288 = ad291 := (by injection e291)
          replace hx291_0 := (HB.out.cell (World.block_lt_of_cell? w _ hx291_0)).trans hx291_0
          replace hx291_1 := (HB.out.cell (World.block_lt_of_cell? w _ hx291_1)).trans hx291_1
          replace hx291_2 := (HB.out.cell (World.block_lt_of_cell? w _ hx291_2)).trans hx291_2
          replace hx291_3 := (HB.out.cell (World.block_lt_of_cell? w _ hx291_3)).trans hx291_3
          replace hx291_4 := (HB.out.cell (World.block_lt_of_cell? w _ hx291_4)).trans hx291_4
          have HR291_4 := Aside0.mk hi291_4
          have HC291_4 := Aside0.mk hl291_4
          clear hi291_4 hl291_4
          replace p291 := eq_true p291
          replace q291 := eq_true q291
          have ea_ := Option.some.inj (hx288_4.symm.trans hx291_4)
          injection ea_ with ea_ en_ ec_
          subst ea_
          subst ec_
          clear en_
          have p292 : 0 ≤ (x5_1 : Int) := of_decide_eq_true (by first | (with_reducible assumption) | assumption)
          have q292 : x5_1 < (l0.length : Int) := of_decide_eq_true (by first | (with_reducible assumption) | assumption)
          obtain ⟨ad292, A292_4, c292_4, e292, hx292_0, hx292_1, hx292_2, hx292_3, hx292_4, hl292_4, hi292_4⟩ := at_T44 HR0.out x5_1 p292 q292
          obtain rfl : ad288 = ad292 := (by injection e292)
          replace hx292_0 := (HB.out.cell (World.block_lt_of_cell? w _ hx292_0)).trans hx292_0
          replace hx292_1 := (HB.out.cell (World.block_lt_of_cell? w _ hx292_1)).trans hx292_1
          replace hx292_2 := (HB.out.cell (World.block_lt_of_cell? w _ hx292_2)).trans hx292_2
          replace hx292_3 := (HB.out.cell (World.block_lt_of_cell? w _ hx292_3)).trans hx292_3
          replace hx292_4 := (HB.out.cell (World.block_lt_of_cell? w _ hx292_4)).trans hx292_4
          have HR292_4 := Aside0.mk hi292_4
          have HC292_4 := Aside0.mk hl292_4
          clear hi292_4 hl292_4
          replace p292 := eq_true p292
          replace q292 := eq_true q292
          have ea_ := Option.some.inj (hx288_4.symm.trans hx292_4)
          injection ea_ with ea_ en_ ec_
          subst ea_
          subst ec_
          clear en_
          go_wp2_with (first | ((with_reducible refine gate_callee (f := 57) rfl ?_); refine goesL_ (some 54) rfl rfl Try.func57 (by kernel_rfl) rfl #[.slice A288_4 ((rd_T44 l0 x5_1).f4).length c288_4, .int .i64 (wrap64 ((wrap64 ((wrap64 ((wrap64 (x1_1 + 1)) + 1)) + 1)) + 1))] rfl (by (try simp only [List.map_toArray, List.map_cons, List.map_nil]); first | done | rfl | (simp only [List.length_drop, List.length_take]; rfl)) ?_; (with_reducible refine (laws_heldStringS.calls k1 _ _ ((rd_T44 l0 x5_1).f4) (wrap64 ((wrap64 ((wrap64 ((wrap64 (x1_1 + 1)) + 1)) + 1)) + 1)) t293 _ ?side1 ?side2 A9.out).mono ?_); (case side1 => repeat (first | exact (Kd.C_below HR292_4.out HB.out) | (with_reducible refine Kd.C_alloc ?_ _) | (with_reducible refine Kd.C_drewN ?_ _) | (with_reducible refine Kd.C_drew ?_))); (case side2 => exact HC292_4.out); rintro e w11 ⟨rfl, hb⟩; refine ⟨_, rfl, ?_⟩; have n0_ := Aside0.mk (below_step (hb_) hb); clear HB; have HB := n0_; clear n0_; (try clear hb); (try clear hb2); (try clear hk); (try clear hi)))
          go_ret
          exact ⟨by first | rfl | (simp [errW_none, errW_some] <;> rfl) | (simp [*, errW_none, errW_some] <;> rfl), hb_⟩
         ·rw [if_neg c10] at H
          have c10b0 : decide (t293 < 0) = false := decide_eq_false c10
          clear c10
          have H' := Aside0.mk H
          clear H
          have p288 : 0 ≤ (x5_1 : Int) := of_decide_eq_true (by first | (with_reducible assumption) | assumption)
          have q288 : x5_1 < (l0.length : Int) := of_decide_eq_true (by first | (with_reducible assumption) | assumption)
          obtain ⟨ad288, A288_4, c288_4, e288, hx288_0, hx288_1, hx288_2, hx288_3, hx288_4, hl288_4, hi288_4⟩ := at_T44 HR0.out x5_1 p288 q288
          cases e288
          replace hx288_0 := (HB.out.cell (World.block_lt_of_cell? w _ hx288_0)).trans hx288_0
          replace hx288_1 := (HB.out.cell (World.block_lt_of_cell? w _ hx288_1)).trans hx288_1
          replace hx288_2 := (HB.out.cell (World.block_lt_of_cell? w _ hx288_2)).trans hx288_2
          replace hx288_3 := (HB.out.cell (World.block_lt_of_cell? w _ hx288_3)).trans hx288_3
          replace hx288_4 := (HB.out.cell (World.block_lt_of_cell? w _ hx288_4)).trans hx288_4
          have HR288_4 := Aside0.mk hi288_4
          have HC288_4 := Aside0.mk hl288_4
          clear hi288_4 hl288_4
          replace p288 := eq_true p288
          replace q288 := eq_true q288
          have p289 : 0 ≤ (x5_1 : Int) := of_decide_eq_true (by first | (with_reducible assumption) | assumption)
          have q289 : x5_1 < (l0.length : Int) := of_decide_eq_true (by first | (with_reducible assumption) | assumption)
          obtain ⟨ad289, A289_4, c289_4, e289, hx289_0, hx289_1, hx289_2, hx289_3, hx289_4, hl289_4, hi289_4⟩ := at_T44 HR0.out x5_1 p289 q289
          obtain rfl : ad288 = ad289 := (by injection e289)
          replace hx289_0 := (HB.out.cell (World.block_lt_of_cell? w _ hx289_0)).trans hx289_0
          replace hx289_1 := (HB.out.cell (World.block_lt_of_cell? w _ hx289_1)).trans hx289_1
          replace hx289_2 := (HB.out.cell (World.block_lt_of_cell? w _ hx289_2)).trans hx289_2
          replace hx289_3 := (HB.out.cell (World.block_lt_of_cell? w _ hx289_3)).trans hx289_3
          replace hx289_4 := (HB.out.cell (World.block_lt_of_cell? w _ hx289_4)).trans hx289_4
          have HR289_4 := Aside0.mk hi289_4
          have HC289_4 := Aside0.mk hl289_4
          clear hi289_4 hl289_4
          replace p289 := eq_true p289
          replace q289 := eq_true q289
          have ea_ := Option.some.inj (hx288_4.symm.trans hx289_4)
          injection ea_ with ea_ en_ ec_
          subst ea_
          subst ec_
          clear en_
          have p290 : 0 ≤ (x5_1 : Int) := of_decide_eq_true (by first | (with_reducible assumption) | assumption)
          have q290 : x5_1 < (l0.length : Int) := of_decide_eq_true (by first | (with_reducible assumption) | assumption)
          obtain ⟨ad290, A290_4, c290_4, e290, hx290_0, hx290_1, hx290_2, hx290_3, hx290_4, hl290_4, hi290_4⟩ := at_T44 HR0.out x5_1 p290 q290
          obtain rfl : ad288 = ad290 := (by injection e290)
          replace hx290_0 := (HB.out.cell (World.block_lt_of_cell? w _ hx290_0)).trans hx290_0
          replace hx290_1 := (HB.out.cell (World.block_lt_of_cell? w _ hx290_1)).trans hx290_1
          replace hx290_2 := (HB.out.cell (World.block_lt_of_cell? w _ hx290_2)).trans hx290_2
          replace hx290_3 := (HB.out.cell (World.block_lt_of_cell? w _ hx290_3)).trans hx290_3
          replace hx290_4 := (HB.out.cell (World.block_lt_of_cell? w _ hx290_4)).trans hx290_4
          have HR290_4 := Aside0.mk hi290_4
          have HC290_4 := Aside0.mk hl290_4
          clear hi290_4 hl290_4
          replace p290 := eq_true p290
          replace q290 := eq_true q290
          have ea_ := Option.some.inj (hx288_4.symm.trans hx290_4)
          injection ea_ with ea_ en_ ec_
          subst ea_
          subst ec_
          clear en_
          have p291 : 0 ≤ (x5_1 : Int) := of_decide_eq_true (by first | (with_reducible assumption) | assumption)
          have q291 : x5_1 < (l0.length : Int) := of_decide_eq_true (by first | (with_reducible assumption) | assumption)
          obtain ⟨ad291, A291_4, c291_4, e291, hx291_0, hx291_1, hx291_2, hx291_3, hx291_4, hl291_4, hi291_4⟩ := at_T44 HR0.out x5_1 p291 q291
          obtain rfl : ad288 = ad291 := (by injection e291)
          replace hx291_0 := (HB.out.cell (World.block_lt_of_cell? w _ hx291_0)).trans hx291_0
          replace hx291_1 := (HB.out.cell (World.block_lt_of_cell? w _ hx291_1)).trans hx291_1
          replace hx291_2 := (HB.out.cell (World.block_lt_of_cell? w _ hx291_2)).trans hx291_2
          replace hx291_3 := (HB.out.cell (World.block_lt_of_cell? w _ hx291_3)).trans hx291_3
          replace hx291_4 := (HB.out.cell (World.block_lt_of_cell? w _ hx291_4)).trans hx291_4
          have HR291_4 := Aside0.mk hi291_4
          have HC291_4 := Aside0.mk hl291_4
          clear hi291_4 hl291_4
          replace p291 := eq_true p291
          replace q291 := eq_true q291
          have ea_ := Option.some.inj (hx288_4.symm.trans hx291_4)
          injection ea_ with ea_ en_ ec_
          subst ea_
          subst ec_
          clear en_
          have p292 : 0 ≤ (x5_1 : Int) := of_decide_eq_true (by first | (with_reducible assumption) | assumption)
          have q292 : x5_1 < (l0.length : Int) := of_decide_eq_true (by first | (with_reducible assumption) | assumption)
          obtain ⟨ad292, A292_4, c292_4, e292, hx292_0, hx292_1, hx292_2, hx292_3, hx292_4, hl292_4, hi292_4⟩ := at_T44 HR0.out x5_1 p292 q292
          obtain rfl : ad288 = ad292 := (by injection e292)
          replace hx292_0 := (HB.out.cell (World.block_lt_of_cell? w _ hx292_0)).trans hx292_0
          replace hx292_1 := (HB.out.cell (World.block_lt_of_cell? w _ hx292_1)).trans hx292_1
          replace hx292_2 := (HB.out.cell (World.block_lt_of_cell? w _ hx292_2)).trans hx292_2
          replace hx292_3 := (HB.out.cell (World.block_lt_of_cell? w _ hx292_3)).trans hx292_3
          replace hx292_4 := (HB.out.cell (World.block_lt_of_cell? w _ hx292_4)).trans hx292_4
          have HR292_4 := Aside0.mk hi292_4
          have HC292_4 := Aside0.mk hl292_4
          clear hi292_4 hl292_4
          replace p292 := eq_true p292
          replace q292 := eq_true q292
          have ea_ := Option.some.inj (hx288_4.symm.trans hx292_4)
          injection ea_ with ea_ en_ ec_
          subst ea_
          subst ec_
          clear en_
          go_wp2_with (first | ((with_reducible refine gate_callee (f := 57) rfl ?_); refine goesL_ (some 54) rfl rfl Try.func57 (by kernel_rfl) rfl #[.slice A288_4 ((rd_T44 l0 x5_1).f4).length c288_4, .int .i64 (wrap64 ((wrap64 ((wrap64 ((wrap64 (x1_1 + 1)) + 1)) + 1)) + 1))] rfl (by (try simp only [List.map_toArray, List.map_cons, List.map_nil]); first | done | rfl | (simp only [List.length_drop, List.length_take]; rfl)) ?_; (with_reducible refine (laws_heldStringS.calls k1 _ _ ((rd_T44 l0 x5_1).f4) (wrap64 ((wrap64 ((wrap64 ((wrap64 (x1_1 + 1)) + 1)) + 1)) + 1)) t293 _ ?side1 ?side2 A9.out).mono ?_); (case side1 => repeat (first | exact (Kd.C_below HR292_4.out HB.out) | (with_reducible refine Kd.C_alloc ?_ _) | (with_reducible refine Kd.C_drewN ?_ _) | (with_reducible refine Kd.C_drew ?_))); (case side2 => exact HC292_4.out); rintro e w12 ⟨rfl, hb⟩; refine ⟨_, rfl, ?_⟩; have n0_ := Aside0.mk (below_step (hb_) hb); clear HB; have HB := n0_; clear n0_; (try clear hb); (try clear hb2); (try clear hk); (try clear hi)))
          go_roundg k1
          case measure => have := HK1.out; omega
          case rel => exact ⟨(t293), (wrap64 (x5_1 + 1)), (by first | rfl | (simp; done) | (simp [*]; done)), (by first | rfl | (simp; done) | (simp [*]; done)), H', ⟨by have := HK1.out; omega⟩, ⟨hb_⟩⟩
        ·rw [if_neg c8] at H
         have c8b0 : (((rd_T44 l0 x5_1).f3) == (wrap64 ((wrap64 ((wrap64 (x1_1 + 1)) + 1)) + 1))) = false := beq_eq_false_iff_ne.mpr c8
         have c8b1 : (((rd_T44 l0 x5_1).f3) != (wrap64 ((wrap64 ((wrap64 (x1_1 + 1)) + 1)) + 1))) = true := bne_iff_ne.mpr c8
         obtain rfl := Option.some.inj H
         have p288 : 0 ≤ (x5_1 : Int) := of_decide_eq_true (by first | (with_reducible assumption) | assumption)
         have q288 : x5_1 < (l0.length : Int) := of_decide_eq_true (by first | (with_reducible assumption) | assumption)
         obtain ⟨ad288, A288_4, c288_4, e288, hx288_0, hx288_1, hx288_2, hx288_3, hx288_4, hl288_4, hi288_4⟩ := at_T44 HR0.out x5_1 p288 q288
         cases e288
         replace hx288_0 := (HB.out.cell (World.block_lt_of_cell? w _ hx288_0)).trans hx288_0
         replace hx288_1 := (HB.out.cell (World.block_lt_of_cell? w _ hx288_1)).trans hx288_1
         replace hx288_2 := (HB.out.cell (World.block_lt_of_cell? w _ hx288_2)).trans hx288_2
         replace hx288_3 := (HB.out.cell (World.block_lt_of_cell? w _ hx288_3)).trans hx288_3
         replace hx288_4 := (HB.out.cell (World.block_lt_of_cell? w _ hx288_4)).trans hx288_4
         have HR288_4 := Aside0.mk hi288_4
         have HC288_4 := Aside0.mk hl288_4
         clear hi288_4 hl288_4
         replace p288 := eq_true p288
         replace q288 := eq_true q288
         have p289 : 0 ≤ (x5_1 : Int) := of_decide_eq_true (by first | (with_reducible assumption) | assumption)
         have q289 : x5_1 < (l0.length : Int) := of_decide_eq_true (by first | (with_reducible assumption) | assumption)
         obtain ⟨ad289, A289_4, c289_4, e289, hx289_0, hx289_1, hx289_2, hx289_3, hx289_4, hl289_4, hi289_4⟩ := at_T44 HR0.out x5_1 p289 q289
         obtain rfl : ad288 = ad289 := (by injection e289)
         replace hx289_0 := (HB.out.cell (World.block_lt_of_cell? w _ hx289_0)).trans hx289_0
         replace hx289_1 := (HB.out.cell (World.block_lt_of_cell? w _ hx289_1)).trans hx289_1
         replace hx289_2 := (HB.out.cell (World.block_lt_of_cell? w _ hx289_2)).trans hx289_2
         replace hx289_3 := (HB.out.cell (World.block_lt_of_cell? w _ hx289_3)).trans hx289_3
         replace hx289_4 := (HB.out.cell (World.block_lt_of_cell? w _ hx289_4)).trans hx289_4
         have HR289_4 := Aside0.mk hi289_4
         have HC289_4 := Aside0.mk hl289_4
         clear hi289_4 hl289_4
         replace p289 := eq_true p289
         replace q289 := eq_true q289
         have ea_ := Option.some.inj (hx288_4.symm.trans hx289_4)
         injection ea_ with ea_ en_ ec_
         subst ea_
         subst ec_
         clear en_
         have p290 : 0 ≤ (x5_1 : Int) := of_decide_eq_true (by first | (with_reducible assumption) | assumption)
         have q290 : x5_1 < (l0.length : Int) := of_decide_eq_true (by first | (with_reducible assumption) | assumption)
         obtain ⟨ad290, A290_4, c290_4, e290, hx290_0, hx290_1, hx290_2, hx290_3, hx290_4, hl290_4, hi290_4⟩ := at_T44 HR0.out x5_1 p290 q290
         obtain rfl : ad288 = ad290 := (by injection e290)
         replace hx290_0 := (HB.out.cell (World.block_lt_of_cell? w _ hx290_0)).trans hx290_0
         replace hx290_1 := (HB.out.cell (World.block_lt_of_cell? w _ hx290_1)).trans hx290_1
         replace hx290_2 := (HB.out.cell (World.block_lt_of_cell? w _ hx290_2)).trans hx290_2
         replace hx290_3 := (HB.out.cell (World.block_lt_of_cell? w _ hx290_3)).trans hx290_3
         replace hx290_4 := (HB.out.cell (World.block_lt_of_cell? w _ hx290_4)).trans hx290_4
         have HR290_4 := Aside0.mk hi290_4
         have HC290_4 := Aside0.mk hl290_4
         clear hi290_4 hl290_4
         replace p290 := eq_true p290
         replace q290 := eq_true q290
         have ea_ := Option.some.inj (hx288_4.symm.trans hx290_4)
         injection ea_ with ea_ en_ ec_
         subst ea_
         subst ec_
         clear en_
         have p291 : 0 ≤ (x5_1 : Int) := of_decide_eq_true (by first | (with_reducible assumption) | assumption)
         have q291 : x5_1 < (l0.length : Int) := of_decide_eq_true (by first | (with_reducible assumption) | assumption)
         obtain ⟨ad291, A291_4, c291_4, e291, hx291_0, hx291_1, hx291_2, hx291_3, hx291_4, hl291_4, hi291_4⟩ := at_T44 HR0.out x5_1 p291 q291
         obtain rfl : ad288 = ad291 := (by injection e291)
         replace hx291_0 := (HB.out.cell (World.block_lt_of_cell? w _ hx291_0)).trans hx291_0
         replace hx291_1 := (HB.out.cell (World.block_lt_of_cell? w _ hx291_1)).trans hx291_1
         replace hx291_2 := (HB.out.cell (World.block_lt_of_cell? w _ hx291_2)).trans hx291_2
         replace hx291_3 := (HB.out.cell (World.block_lt_of_cell? w _ hx291_3)).trans hx291_3
         replace hx291_4 := (HB.out.cell (World.block_lt_of_cell? w _ hx291_4)).trans hx291_4
         have HR291_4 := Aside0.mk hi291_4
         have HC291_4 := Aside0.mk hl291_4
         clear hi291_4 hl291_4
         replace p291 := eq_true p291
         replace q291 := eq_true q291
         have ea_ := Option.some.inj (hx288_4.symm.trans hx291_4)
         injection ea_ with ea_ en_ ec_
         subst ea_
         subst ec_
         clear en_
         go_wp2
         go_ret
         exact ⟨by first | rfl | (simp [errW_none, errW_some] <;> rfl) | (simp [*, errW_none, errW_some] <;> rfl), hb_⟩
       ·rw [if_neg c7] at H
        have c7b0 : (((rd_T44 l0 x5_1).f2) == (wrap64 ((wrap64 (x1_1 + 1)) + 1))) = false := beq_eq_false_iff_ne.mpr c7
        have c7b1 : (((rd_T44 l0 x5_1).f2) != (wrap64 ((wrap64 (x1_1 + 1)) + 1))) = true := bne_iff_ne.mpr c7
        obtain rfl := Option.some.inj H
        have p288 : 0 ≤ (x5_1 : Int) := of_decide_eq_true (by first | (with_reducible assumption) | assumption)
        have q288 : x5_1 < (l0.length : Int) := of_decide_eq_true (by first | (with_reducible assumption) | assumption)
        obtain ⟨ad288, A288_4, c288_4, e288, hx288_0, hx288_1, hx288_2, hx288_3, hx288_4, hl288_4, hi288_4⟩ := at_T44 HR0.out x5_1 p288 q288
        cases e288
        replace hx288_0 := (HB.out.cell (World.block_lt_of_cell? w _ hx288_0)).trans hx288_0
        replace hx288_1 := (HB.out.cell (World.block_lt_of_cell? w _ hx288_1)).trans hx288_1
        replace hx288_2 := (HB.out.cell (World.block_lt_of_cell? w _ hx288_2)).trans hx288_2
        replace hx288_3 := (HB.out.cell (World.block_lt_of_cell? w _ hx288_3)).trans hx288_3
        replace hx288_4 := (HB.out.cell (World.block_lt_of_cell? w _ hx288_4)).trans hx288_4
        have HR288_4 := Aside0.mk hi288_4
        have HC288_4 := Aside0.mk hl288_4
        clear hi288_4 hl288_4
        replace p288 := eq_true p288
        replace q288 := eq_true q288
        have p289 : 0 ≤ (x5_1 : Int) := of_decide_eq_true (by first | (with_reducible assumption) | assumption)
        have q289 : x5_1 < (l0.length : Int) := of_decide_eq_true (by first | (with_reducible assumption) | assumption)
        obtain ⟨ad289, A289_4, c289_4, e289, hx289_0, hx289_1, hx289_2, hx289_3, hx289_4, hl289_4, hi289_4⟩ := at_T44 HR0.out x5_1 p289 q289
        obtain rfl : ad288 = ad289 := (by injection e289)
        replace hx289_0 := (HB.out.cell (World.block_lt_of_cell? w _ hx289_0)).trans hx289_0
        replace hx289_1 := (HB.out.cell (World.block_lt_of_cell? w _ hx289_1)).trans hx289_1
        replace hx289_2 := (HB.out.cell (World.block_lt_of_cell? w _ hx289_2)).trans hx289_2
        replace hx289_3 := (HB.out.cell (World.block_lt_of_cell? w _ hx289_3)).trans hx289_3
        replace hx289_4 := (HB.out.cell (World.block_lt_of_cell? w _ hx289_4)).trans hx289_4
        have HR289_4 := Aside0.mk hi289_4
        have HC289_4 := Aside0.mk hl289_4
        clear hi289_4 hl289_4
        replace p289 := eq_true p289
        replace q289 := eq_true q289
        have ea_ := Option.some.inj (hx288_4.symm.trans hx289_4)
        injection ea_ with ea_ en_ ec_
        subst ea_
        subst ec_
        clear en_
        have p290 : 0 ≤ (x5_1 : Int) := of_decide_eq_true (by first | (with_reducible assumption) | assumption)
        have q290 : x5_1 < (l0.length : Int) := of_decide_eq_true (by first | (with_reducible assumption) | assumption)
        obtain ⟨ad290, A290_4, c290_4, e290, hx290_0, hx290_1, hx290_2, hx290_3, hx290_4, hl290_4, hi290_4⟩ := at_T44 HR0.out x5_1 p290 q290
        obtain rfl : ad288 = ad290 := (by injection e290)
        replace hx290_0 := (HB.out.cell (World.block_lt_of_cell? w _ hx290_0)).trans hx290_0
        replace hx290_1 := (HB.out.cell (World.block_lt_of_cell? w _ hx290_1)).trans hx290_1
        replace hx290_2 := (HB.out.cell (World.block_lt_of_cell? w _ hx290_2)).trans hx290_2
        replace hx290_3 := (HB.out.cell (World.block_lt_of_cell? w _ hx290_3)).trans hx290_3
        replace hx290_4 := (HB.out.cell (World.block_lt_of_cell? w _ hx290_4)).trans hx290_4
        have HR290_4 := Aside0.mk hi290_4
        have HC290_4 := Aside0.mk hl290_4
        clear hi290_4 hl290_4
        replace p290 := eq_true p290
        replace q290 := eq_true q290
        have ea_ := Option.some.inj (hx288_4.symm.trans hx290_4)
        injection ea_ with ea_ en_ ec_
        subst ea_
        subst ec_
        clear en_
        go_wp2
        go_ret
        exact ⟨by first | rfl | (simp [errW_none, errW_some] <;> rfl) | (simp [*, errW_none, errW_some] <;> rfl), hb_⟩
      ·rw [if_neg c6] at H
       have c6b0 : (((rd_T44 l0 x5_1).f1) == (wrap64 (x1_1 + 1))) = false := beq_eq_false_iff_ne.mpr c6
       have c6b1 : (((rd_T44 l0 x5_1).f1) != (wrap64 (x1_1 + 1))) = true := bne_iff_ne.mpr c6
       obtain rfl := Option.some.inj H
       have p288 : 0 ≤ (x5_1 : Int) := of_decide_eq_true (by first | (with_reducible assumption) | assumption)
       have q288 : x5_1 < (l0.length : Int) := of_decide_eq_true (by first | (with_reducible assumption) | assumption)
       obtain ⟨ad288, A288_4, c288_4, e288, hx288_0, hx288_1, hx288_2, hx288_3, hx288_4, hl288_4, hi288_4⟩ := at_T44 HR0.out x5_1 p288 q288
       cases e288
       replace hx288_0 := (HB.out.cell (World.block_lt_of_cell? w _ hx288_0)).trans hx288_0
       replace hx288_1 := (HB.out.cell (World.block_lt_of_cell? w _ hx288_1)).trans hx288_1
       replace hx288_2 := (HB.out.cell (World.block_lt_of_cell? w _ hx288_2)).trans hx288_2
       replace hx288_3 := (HB.out.cell (World.block_lt_of_cell? w _ hx288_3)).trans hx288_3
       replace hx288_4 := (HB.out.cell (World.block_lt_of_cell? w _ hx288_4)).trans hx288_4
       have HR288_4 := Aside0.mk hi288_4
       have HC288_4 := Aside0.mk hl288_4
       clear hi288_4 hl288_4
       replace p288 := eq_true p288
       replace q288 := eq_true q288
       have p289 : 0 ≤ (x5_1 : Int) := of_decide_eq_true (by first | (with_reducible assumption) | assumption)
       have q289 : x5_1 < (l0.length : Int) := of_decide_eq_true (by first | (with_reducible assumption) | assumption)
       obtain ⟨ad289, A289_4, c289_4, e289, hx289_0, hx289_1, hx289_2, hx289_3, hx289_4, hl289_4, hi289_4⟩ := at_T44 HR0.out x5_1 p289 q289
       obtain rfl : ad288 = ad289 := (by injection e289)
       replace hx289_0 := (HB.out.cell (World.block_lt_of_cell? w _ hx289_0)).trans hx289_0
       replace hx289_1 := (HB.out.cell (World.block_lt_of_cell? w _ hx289_1)).trans hx289_1
       replace hx289_2 := (HB.out.cell (World.block_lt_of_cell? w _ hx289_2)).trans hx289_2
       replace hx289_3 := (HB.out.cell (World.block_lt_of_cell? w _ hx289_3)).trans hx289_3
       replace hx289_4 := (HB.out.cell (World.block_lt_of_cell? w _ hx289_4)).trans hx289_4
       have HR289_4 := Aside0.mk hi289_4
       have HC289_4 := Aside0.mk hl289_4
       clear hi289_4 hl289_4
       replace p289 := eq_true p289
       replace q289 := eq_true q289
       have ea_ := Option.some.inj (hx288_4.symm.trans hx289_4)
       injection ea_ with ea_ en_ ec_
       subst ea_
       subst ec_
       clear en_
       go_wp2
       go_ret
       exact ⟨by first | rfl | (simp [errW_none, errW_some] <;> rfl) | (simp [*, errW_none, errW_some] <;> rfl), hb_⟩
     ·rw [if_neg c5] at H
      have c5b0 : (((rd_T44 l0 x5_1).f0) == x1_1) = false := beq_eq_false_iff_ne.mpr c5
      have c5b1 : (((rd_T44 l0 x5_1).f0) != x1_1) = true := bne_iff_ne.mpr c5
      obtain rfl := Option.some.inj H
      have p288 : 0 ≤ (x5_1 : Int) := of_decide_eq_true (by first | (with_reducible assumption) | assumption)
      have q288 : x5_1 < (l0.length : Int) := of_decide_eq_true (by first | (with_reducible assumption) | assumption)
      obtain ⟨ad288, A288_4, c288_4, e288, hx288_0, hx288_1, hx288_2, hx288_3, hx288_4, hl288_4, hi288_4⟩ := at_T44 HR0.out x5_1 p288 q288
      cases e288
      replace hx288_0 := (HB.out.cell (World.block_lt_of_cell? w _ hx288_0)).trans hx288_0
      replace hx288_1 := (HB.out.cell (World.block_lt_of_cell? w _ hx288_1)).trans hx288_1
      replace hx288_2 := (HB.out.cell (World.block_lt_of_cell? w _ hx288_2)).trans hx288_2
      replace hx288_3 := (HB.out.cell (World.block_lt_of_cell? w _ hx288_3)).trans hx288_3
      replace hx288_4 := (HB.out.cell (World.block_lt_of_cell? w _ hx288_4)).trans hx288_4
      have HR288_4 := Aside0.mk hi288_4
      have HC288_4 := Aside0.mk hl288_4
      clear hi288_4 hl288_4
      replace p288 := eq_true p288
      replace q288 := eq_true q288
      go_wp2
      go_ret
      exact ⟨by first | rfl | (simp [errW_none, errW_some] <;> rfl) | (simp [*, errW_none, errW_some] <;> rfl), hb_⟩
    ·rw [if_neg c4] at H
     exact absurd H (by simp)
   ·rw [if_neg c3] at H
    have c3b0 : decide (x5_1 < (l0.length : Int)) = false := decide_eq_false c3
    clear c3
    obtain rfl := Option.some.inj H
    go_wp2
    go_ret
    exact ⟨by first | rfl | (simp [errW_none, errW_some] <;> rfl) | (simp [*, errW_none, errW_some] <;> rfl), hb_⟩

/-! ### laws_FnExactSurvivesIn: function 3 -/
def laws_FnExactSurvivesIn.f (k : Nat) (l0_0 : List S100) (a1 : Int) : Option (Bool) :=
 (laws_szDisk.f k l0_0 1048576).bind fun z => if z < 0 then some true else
 (laws_toDisk.f k l0_0).bind fun d => (spec_SurvivesIn.f k d a1).bind fun w => (impl_SurvivesIn.f k d a1).bind fun g => (laws_eqBatchS.f k g.1 w.1).bind fun e => if e = true ∧ g.2 = w.2 then
  (laws_eqDisk.f k d d).bind fun e2 => (laws_markDisk.f k d 1).bind fun md => if e2 = true ∧ 0 ≤ md.1 then
  (laws_markBatchS.f k g.1 1).bind fun m => (laws_heldBatchS.f k m.2 1).bind fun q => if q = m.1 ∧ 0 ≤ q then some true else none else none else none
set_option maxHeartbeats 8000000 in
set_option maxRecDepth 100000 in
theorem laws_FnExactSurvivesIn.calls (k : Nat) (A0_0 : Option Addr) (c0_0 : Nat) (l0_0 : List S100) (a1 : Int) (r : Bool) (w : World) (hr0_0 : Kd.C k100 w A0_0 l0_0.length l0_0) (hc0_0 : l0_0.length ≤ c0_0) (h : laws_FnExactSurvivesIn.f k l0_0 a1 = some r) :
  Calls Try.prog 3 #[.agg #[.slice A0_0 l0_0.length c0_0], .int .i64 a1] w fun e w' => e = .returned (.bool r) ∧ Below w.heap.size w w' := by
 have HR0 := Aside0.mk hr0_0
 have HC0 := Aside0.mk hc0_0
 clear hr0_0 hc0_0
 unfold laws_FnExactSurvivesIn.f at h
 obtain ⟨z, h1, g1⟩ := Option.bind_eq_some_iff.1 h
 clear h
 have H1 := Aside0.mk h1
 clear h1
 by_cases hz : z < 0
 ·rw [if_pos hz] at g1
  obtain rfl : true = r := Option.some.inj g1
  have hz1 : decide (z < 0) = true := decide_eq_true hz
  clear hz g1
  go_enter Try.func3, Try.ntmps3
  go_wp2_with fail
  refine (laws_szDisk.calls k _ _ l0_0 1048576 z _ (Kd.C_alloc HR0.out _) HC0.out H1.out).mono ?_
  rintro e w1 ⟨rfl, hb1⟩
  have HB1 := Aside0.mk (below_step (below_alloc (Below.refl _ _) _) hb1)
  clear hb1
  go_wp2_with fail
  go_ret
  exact ⟨rfl, HB1.out⟩
 ·rw [if_neg hz] at g1
  have hz1 : decide (z < 0) = false := decide_eq_false hz
  clear hz
  obtain ⟨d, h2, g2⟩ := Option.bind_eq_some_iff.1 g1
  clear g1
  obtain ⟨⟨ws, wo⟩, h3, g3⟩ := Option.bind_eq_some_iff.1 g2
  clear g2
  obtain ⟨⟨gs, wo'⟩, h4, g4⟩ := Option.bind_eq_some_iff.1 g3
  clear g3
  obtain ⟨e, h5, g5⟩ := Option.bind_eq_some_iff.1 g4
  clear g4
  obtain ⟨⟨he, hbb⟩, g6⟩ := Option.ite_none_right_eq_some.1 g5
  clear g5
  subst he
  obtain rfl : wo' = wo := hbb
  obtain ⟨e2, h6, g7⟩ := Option.bind_eq_some_iff.1 g6
  clear g6
  obtain ⟨⟨mk, md⟩, h7, g8⟩ := Option.bind_eq_some_iff.1 g7
  clear g7
  obtain ⟨⟨he2, hmk⟩, g9⟩ := Option.ite_none_right_eq_some.1 g8
  clear g8
  subst he2
  obtain ⟨⟨m, ms⟩, h8, g10⟩ := Option.bind_eq_some_iff.1 g9
  clear g9
  obtain ⟨q, h9, g11⟩ := Option.bind_eq_some_iff.1 g10
  clear g10
  obtain ⟨⟨hqm, hq0⟩, g12⟩ := Option.ite_none_right_eq_some.1 g11
  clear g11
  obtain rfl : q = m := hqm
  obtain rfl : true = r := Option.some.inj g12
  clear g12
  have hq1 : decide (q < 0) = false := decide_eq_false (by omega)
  have hmk1 : decide (mk < 0) = false := decide_eq_false (by have : 0 ≤ mk := hmk; omega)
  have H2 := Aside0.mk h2
  have H3 := Aside0.mk (show spec_SurvivesIn.f k d a1 = some (ws, wo') from h3)
  have H4 := Aside0.mk (show impl_SurvivesIn.f k d a1 = some (gs, wo') from h4)
  have H5 := Aside0.mk (show laws_eqBatchS.f k gs ws = some true from h5)
  have H6 := Aside0.mk h6
  have H7 := Aside0.mk (show laws_markDisk.f k d 1 = some (mk, md) from h7)
  have H8 := Aside0.mk (show laws_markBatchS.f k gs 1 = some (q, ms) from h8)
  have H9 := Aside0.mk (show laws_heldBatchS.f k ms 1 = some q from h9)
  clear h2 h3 h4 h5 h6 h7 h8 h9 hmk hq0
  go_enter Try.func3, Try.ntmps3
  go_wp2_with fail
  refine (laws_szDisk.calls k _ _ l0_0 1048576 z _ (Kd.C_alloc HR0.out _) HC0.out H1.out).mono ?_
  rintro e w1 ⟨rfl, hb1⟩
  have HX1 := Aside0.mk (blk_below (g := w.heap.size) (o := .cells #[.slice A0_0 l0_0.length c0_0] 24 (0, 0)) (show (w.alloc (.cells #[.slice A0_0 l0_0.length c0_0] 24)).heap[w.heap.size]? = _ by rw [World.alloc]; exact Array.getElem?_push_size) hb1)
  have HB1 := Aside0.mk (below_step (below_alloc (Below.refl _ _) _) hb1)
  clear hb1
  have hx1 : w1.cell? ⟨w.heap.size, 0, none⟩ = some (.slice A0_0 l0_0.length c0_0) := (blk_cell HX1.out 0).trans rfl
  go_wp2_with fail
  refine (laws_toDisk.calls k _ _ l0_0 d _ (Kd.C_below HR0.out HB1.out) HC0.out H2.out).mono ?_
  rintro e w2 ⟨vd, rfl, ho2, hb2⟩
  have HX2 := Aside0.mk (blk_below HX1.out hb2)
  have HB2 := Aside0.mk (below_step HB1.out hb2)
  obtain ⟨Ad, cd, rfl⟩ := Kd.R_slice ho2
  have HD2 := Aside0.mk ho2
  clear hb2 ho2 hx1 HX1 HB1
  go_wp2_with fail
  refine (spec_SurvivesIn.calls k _ _ d a1 ws wo' _ (Kd.R_reads' HD2.out).2.2 (Kd.R_reads' HD2.out).2.1 H3.out).mono ?_
  rintro e w3 ⟨vw, rfl, ho3, hb3⟩
  have HX3 := Aside0.mk (blk_below HX2.out hb3)
  have HB3 := Aside0.mk (below_step HB2.out hb3)
  have HW3 := Aside0.mk (Kd.S_mono (ok' := fun k_ => k_ < w3.heap.size) (Kd.S_bound ho3) (fun _ h_ => h_.2.2.1))
  clear hb3 ho3 HX2 HB2 HD2
  have hx3 : w3.cell? ⟨w.heap.size, 0, none⟩ = some (.slice A0_0 l0_0.length c0_0) := (blk_cell HX3.out 0).trans rfl
  go_wp2_with fail
  refine (laws_toDisk.calls k _ _ l0_0 d _ (Kd.C_below HR0.out HB3.out) HC0.out H2.out).mono ?_
  rintro e w4 ⟨vx, rfl, ho4, hb4⟩
  have HX4 := Aside0.mk (blk_below HX3.out hb4)
  have HB4 := Aside0.mk (below_step HB3.out hb4)
  have HW4 := Aside0.mk (Kd.S_below HW3.out hb4)
  have HD4 := Aside0.mk (Kd.R_lower (Kd.R_mono (ok' := fun k_ => w3.heap.size ≤ k_ ∧ k_ < w4.heap.size) (Kd.R_bound ho4) (fun _ h_ => ⟨h_.2.1, h_.2.2.1⟩)) HB3.out.size)
  have HL3 := Aside0.mk (show w.heap.size < w3.heap.size from blk_lt HX3.out)
  have HL4 := Aside0.mk hb4.size
  obtain ⟨Ax, cx, rfl⟩ := Kd.R_slice ho4
  clear hb4 ho4 hx3 HX3 HB3 HW3
  go_wp2_with fail
  have HX5 := Aside0.mk (blk_alloc HX4.out (.cells #[.slice Ax d.length cx] 31))
  have HB5 := Aside0.mk (below_alloc HB4.out (.cells #[.slice Ax d.length cx] 31))
  have HW5 := Aside0.mk (Kd.S_alloc HW4.out (.cells #[.slice Ax d.length cx] 31))
  have HD5 := Aside0.mk (Kd.R_alloc HD4.out (.cells #[.slice Ax d.length cx] 31))
  have HZ5 := Aside0.mk (show (w4.alloc (.cells #[.slice Ax d.length cx] 31)).heap.size = w4.heap.size + 1 by rw [World.alloc]; exact Array.size_push _)
  have HY5 := Aside0.mk (show (w4.alloc (.cells #[.slice Ax d.length cx] 31)).heap[w4.heap.size]? = some (.cells #[.slice Ax d.length cx] 31 (0, 0)) by rw [World.alloc]; exact Array.getElem?_push_size)
  clear HX4 HB4 HW4 HD4
  refine (impl_SurvivesIn.calls k _ _ d a1 gs wo' _ (Kd.R_reads' HD5.out).2.2 (Kd.R_reads' HD5.out).2.1 H4.out).mono ?_
  rintro e w6 ⟨vg, rfl, ho6, hb6⟩
  have HX6 := Aside0.mk (blk_below HX5.out hb6)
  have HY6 := Aside0.mk (blk_below HY5.out hb6)
  have HB6 := Aside0.mk (below_step HB5.out hb6)
  have HW6 := Aside0.mk (Kd.S_below HW5.out hb6)
  have HD6 := Aside0.mk (Kd.R_below HD5.out hb6)
  have HL5 := Aside0.mk hb6.size
  have HG6 := Aside0.mk (Kd.S_lower (Kd.S_mono (ok' := fun k_ => w4.heap.size < k_) (Kd.S_bound ho6) (fun _ h_ => Nat.lt_of_succ_le (Nat.le_trans (Nat.le_of_eq HZ5.out.symm) h_.2.1))) HB5.out.size)
  clear hb6 ho6 HX5 HY5 HB5 HW5 HD5
  obtain ⟨Aw, cw, rfl, hlw, _⟩ := Kd.S_reads HW6.out
  obtain ⟨Ag, cg, rfl, hlg, _⟩ := Kd.S_reads HG6.out
  have HLw := Aside0.mk hlw
  have HLg := Aside0.mk hlg
  clear hlw hlg
  go_wp2_with fail
  refine (laws_eqBatchS.calls k _ _ gs _ _ ws true _ (Kd.S_reads' HG6.out).2.2 HLg.out (Kd.S_reads' HW6.out).2.2 HLw.out H5.out).mono ?_
  rintro e w7 ⟨rfl, hb7⟩
  have HX7 := Aside0.mk (blk_below HX6.out hb7)
  have HY7 := Aside0.mk (blk_below HY6.out hb7)
  have HB7 := Aside0.mk (below_step HB6.out hb7)
  have HW7 := Aside0.mk (Kd.S_below HW6.out hb7)
  have HD7 := Aside0.mk (Kd.R_below HD6.out hb7)
  have HG7 := Aside0.mk (Kd.S_below HG6.out hb7)
  have HL6 := Aside0.mk hb7.size
  clear hb7 HX6 HY6 HB6 HW6 HD6 HG6
  try go_wp2
  have n0_ := Aside0.mk (blk_drew HX7.out)
  have n1_ := Aside0.mk (blk_drew HY7.out)
  have n2_ := Aside0.mk (below_drew1 HB7.out)
  have n3_ := Aside0.mk (Kd.S_drew HW7.out)
  have n4_ := Aside0.mk (Kd.R_drew HD7.out)
  have n5_ := Aside0.mk (Kd.S_drew HG7.out)
  have n6_ : Aside0 (w7.heap.size = w7.drew.heap.size) := Aside0.mk rfl
  refine start_ (n := 5) (S := fun w' => w'.cell? ⟨w4.heap.size, 0, none⟩ = some (.slice Ax d.length cx) ∧ w'.cell? ⟨w.heap.size, 0, none⟩ = some (.slice A0_0 l0_0.length c0_0)) (ds := []) #[false, false, false, false, false] (by kernel_rfl) rfl rfl ⟨(blk_cell n1_.out 0).trans rfl, (blk_cell n0_.out 0).trans rfl⟩ (fun hHeld => ?_)
  clear HX7 HY7 HB7 HW7 HD7 HG7
  generalize w7.drew = w8 at n0_ n1_ n2_ n3_ n4_ n5_ n6_ hHeld ⊢
  refine take_ (i := 0) (N := some 45) (v := ?_) (a' := ?_) #[true, false, false, false, false] rfl rfl (by kernel_rfl) (fun _ _ _ h => h) (Or.inl ⟨by rfl, ?_⟩) hHeld ?_ ?_
  rotate_left
  ·rintro w' ⟨s0, s1⟩
   go_simp
   with_reducible rfl
  rotate_left
  ·simp only [Act.put, List.setIfInBounds_toArray, List.set_cons_zero, List.set_cons_succ, i64_w, i32_w]
   rfl
  refine take_ (i := 1) (N := some 46) (v := ?_) (a' := ?_) #[true, true, false, false, false] rfl rfl (by kernel_rfl) (fun _ _ _ h => h) (Or.inl ⟨by rfl, ?_⟩) hHeld ?_ ?_
  rotate_left
  ·rintro w' ⟨s0, s1⟩
   go_simp
   with_reducible rfl
  rotate_left
  ·simp only [Act.put, List.setIfInBounds_toArray, List.set_cons_zero, List.set_cons_succ, i64_w, i32_w]
   rfl
  refine one_ (i := 2) (N := some 47) #[true, true, true, false, false] rfl rfl (by kernel_rfl) (by decide) (fun K hK => ?_)
  refine goes_ Try.func10 (by kernel_rfl) rfl #[.agg #[.slice A0_0 l0_0.length c0_0]] (by rfl) rfl rfl (by (try simp only [List.map_toArray, List.map_cons, List.map_nil]); first | done | rfl) ?_
  refine (laws_toDisk.calls k _ _ l0_0 d _ (Kd.C_below HR0.out n2_.out) HC0.out H2.out).mono ?_
  rintro e w9 ⟨v9, rfl, ho9, hb9⟩
  refine ⟨_, rfl, ?_⟩
  have HX9 := Aside0.mk (blk_below n0_.out hb9)
  have HY9 := Aside0.mk (blk_below n1_.out hb9)
  have HB9 := Aside0.mk (below_step n2_.out hb9)
  have HW9 := Aside0.mk (Kd.S_below n3_.out hb9)
  have HD9 := Aside0.mk (Kd.R_below n4_.out hb9)
  have HG9 := Aside0.mk (Kd.S_below n5_.out hb9)
  have HL8 := Aside0.mk (Nat.le_trans (Nat.le_of_eq n6_.out) hb9.size)
  have HE9 := Aside0.mk ho9
  clear n0_ n1_ n2_ n3_ n4_ n5_ n6_ hb9 ho9
  obtain ⟨A9, c9, rfl⟩ := Kd.R_slice HE9.out
  refine hK.out _ _ ⟨(blk_cell HY9.out 0).trans rfl, (blk_cell HX9.out 0).trans rfl⟩ (fun hHeld => ?_)
  clear hK K
  refine no_ ?_
  refine one_ (i := 3) (N := some 48) #[true, true, true, true, false] rfl rfl (by kernel_rfl) (by decide) (fun K hK => ?_)
  refine goes_ Try.func13 (by kernel_rfl) rfl #[.agg #[.slice Ax d.length cx], .agg #[.slice A9 d.length c9]] (by rfl) rfl rfl (by (try simp only [List.map_toArray, List.map_cons, List.map_nil]); first | done | rfl) ?_
  refine (laws_eqDisk.calls k _ _ d _ _ d true _ (Kd.R_reads' HD9.out).2.2 (Kd.R_reads' HD9.out).2.1 (Kd.R_reads' HE9.out).2.2 (Kd.R_reads' HE9.out).2.1 H6.out).mono ?_
  rintro e w10 ⟨rfl, hb10⟩
  refine ⟨_, rfl, ?_⟩
  have HX10 := Aside0.mk (blk_below HX9.out hb10)
  have HY10 := Aside0.mk (blk_below HY9.out hb10)
  have HB10 := Aside0.mk (below_step HB9.out hb10)
  have HW10 := Aside0.mk (Kd.S_below HW9.out hb10)
  have HD10 := Aside0.mk (Kd.R_below HD9.out hb10)
  have HG10 := Aside0.mk (Kd.S_below HG9.out hb10)
  have HL9 := Aside0.mk hb10.size
  clear hb10 HX9 HY9 HB9 HW9 HD9 HG9 HE9
  refine hK.out _ _ ⟨(blk_cell HY10.out 0).trans rfl, (blk_cell HX10.out 0).trans rfl⟩ (fun hHeld => ?_)
  clear hK K
  refine no_ ?_
  refine pure_ (i := 4) (N := some 49) (v := ?_) (a' := ?_) #[true, true, true, true, true] rfl rfl (by kernel_rfl) (fun _ _ _ h => h) (Or.inl ⟨by rfl, ?_⟩) ?_ ?_
  rotate_left
  ·intro w'
   go_simp
   with_reducible rfl
  rotate_left
  ·simp only [Act.put, List.setIfInBounds_toArray, List.set_cons_zero, List.set_cons_succ, i64_w, i32_w]
   rfl
  refine done_ (by kernel_rfl) ?_
  have hy10 : w10.cell? ⟨w4.heap.size, 0, none⟩ = some (.slice Ax d.length cx) := (blk_cell HY10.out 0).trans rfl
  go_wp2_with fail
  refine (laws_markDisk.calls k (fun k_ => w3.heap.size ≤ k_ ∧ k_ < w4.heap.size) _ d 1 mk md w _ HB10.out HD10.out H7.out).mono ?_
  rintro e w11 ⟨rfl, ho11, hb11, hk11⟩
  have HX11 := Aside0.mk (blk_kept HX10.out hk11 (fun h_ => absurd h_.1 (Nat.not_le.2 HL3.out)))
  have HB11 := Aside0.mk hb11
  have HW11 := Aside0.mk (Kd.S_kept HW10.out hk11 (fun k_ h_ h2_ => absurd h2_.1 (Nat.not_le.2 h_)))
  have HG11 := Aside0.mk (Kd.S_kept HG10.out hk11 (fun k_ h_ h2_ => absurd h2_.2 (Nat.not_lt.2 (Nat.le_of_lt h_))))
  clear hb11 hk11 ho11 hy10 HX10 HY10 HB10 HW10 HD10 HG10
  go_wp2_with fail
  refine (laws_eqBatchS.calls k _ _ gs _ _ ws true _ (Kd.S_reads' HG11.out).2.2 HLg.out (Kd.S_reads' HW11.out).2.2 HLw.out H5.out).mono ?_
  rintro e w12 ⟨rfl, hb12⟩
  have HX12 := Aside0.mk (blk_below HX11.out hb12)
  have HB12 := Aside0.mk (below_step HB11.out hb12)
  have HW12 := Aside0.mk (Kd.S_below HW11.out hb12)
  have HG12 := Aside0.mk (Kd.S_below HG11.out hb12)
  clear hb12 HX11 HB11 HW11 HG11
  go_wp2_with fail
  refine (laws_markBatchS.calls k (fun k_ => w4.heap.size < k_) _ gs 1 q ms w _ HB12.out HG12.out H8.out).mono ?_
  rintro e w13 ⟨rfl, ho13, hb13, hk13⟩
  have HX13 := Aside0.mk (blk_kept HX12.out hk13 (fun h_ => absurd (Nat.lt_trans (Nat.lt_of_lt_of_le HL3.out HL4.out) h_) (Nat.lt_irrefl _)))
  have HB13 := Aside0.mk hb13
  have HW13 := Aside0.mk (Kd.S_kept HW12.out hk13 (fun k_ h_ h2_ => absurd (Nat.lt_of_lt_of_le (Nat.lt_trans h2_ h_) HL4.out) (Nat.lt_irrefl _)))
  have HG13 := Aside0.mk ho13
  clear hb13 hk13 ho13 HX12 HB12 HW12 HG12
  have HGL := Aside0.mk (Kd.S_reads' HG13.out).1
  have HG14 := Aside0.mk (show Kd.S k44 44 w13 w.heap.size (fun k_ => w4.heap.size < k_) (.slice Ag ms.length cg) ms by rw [← HGL.out]; exact HG13.out)
  have HLh := Aside0.mk (show ms.length ≤ cg by rw [← HGL.out]; exact HLg.out)
  clear HG13
  go_wp2_with fail
  rw [HGL.out]
  refine (laws_heldBatchS.calls k Ag cg ms 1 q _ (Kd.S_reads' HG14.out).2.2 HLh.out H9.out).mono ?_
  rintro e w14 ⟨rfl, hb14⟩
  have HX14 := Aside0.mk (blk_below HX13.out hb14)
  have HB14 := Aside0.mk (below_step HB13.out hb14)
  have HW14 := Aside0.mk (Kd.S_below HW13.out hb14)
  have HG15 := Aside0.mk (Kd.S_below HG14.out hb14)
  clear hb14 HX13 HB13 HW13 HG14
  have hx14 : w14.cell? ⟨w.heap.size, 0, none⟩ = some (.slice A0_0 l0_0.length c0_0) := (blk_cell HX14.out 0).trans rfl
  go_wp2_with fail
  refine (laws_toDisk.calls k _ _ l0_0 d _ (Kd.C_below HR0.out HB14.out) HC0.out H2.out).mono ?_
  rintro e w15 ⟨v15, rfl, ho15, hb15⟩
  have HB15 := Aside0.mk (below_step HB14.out hb15)
  have HW15 := Aside0.mk (Kd.S_below HW14.out hb15)
  have HG16 := Aside0.mk (Kd.S_below HG15.out hb15)
  have HD15 := Aside0.mk ho15
  clear hb15 ho15 hx14 HX14 HB14 HW14 HG15
  obtain ⟨A15, c15, rfl⟩ := Kd.R_slice HD15.out
  go_wp2_with fail
  refine (impl_SurvivesIn.calls k _ _ d a1 gs wo' _ (Kd.R_reads' HD15.out).2.2 (Kd.R_reads' HD15.out).2.1 H4.out).mono ?_
  rintro e w16 ⟨vh, rfl, ho16, hb16⟩
  have HB16 := Aside0.mk (below_step HB15.out hb16)
  have HW16 := Aside0.mk (Kd.S_below HW15.out hb16)
  have HG17 := Aside0.mk (Kd.S_below HG16.out hb16)
  have HH16 := Aside0.mk ho16
  clear hb16 ho16 HD15 HB15 HW15 HG16
  obtain ⟨Ah, ch, rfl, hlh, _⟩ := Kd.S_reads HH16.out
  have HLh2 := Aside0.mk hlh
  clear hlh
  go_wp2_with fail
  refine (laws_eqBatchS.calls k _ _ gs _ _ ws true _ (Kd.S_reads' HH16.out).2.2 HLh2.out (Kd.S_reads' HW16.out).2.2 HLw.out H5.out).mono ?_
  rintro e w17 ⟨rfl, hb17⟩
  have HB17 := Aside0.mk (below_step HB16.out hb17)
  have HG18 := Aside0.mk (Kd.S_below HG17.out hb17)
  clear hb17 HB16 HW16 HG17 HH16
  go_wp2_with fail
  refine (laws_heldBatchS.calls k Ag cg ms 1 q _ (Kd.S_reads' HG18.out).2.2 HLh.out H9.out).mono ?_
  rintro e w18 ⟨rfl, hb18⟩
  have HB18 := Aside0.mk (below_step HB17.out hb18)
  clear hb18
  go_wp2_with fail
  go_ret
  exact ⟨rfl, HB18.out⟩


/-- The one pure statement of laws_FnExactSurvivesIn. -/
def laws_FnExactSurvivesIn.Pure : Prop := ∀ (x0 : S24) (a1 : Int), ok24 x0 → (Lit.int .i64 a1).wf = true → ∃ k, laws_FnExactSurvivesIn.f k x0.f0 a1 = some true

end Go.Proofs.Ytpdpipfkllfhmaa.QFnExactSurvivesIn
