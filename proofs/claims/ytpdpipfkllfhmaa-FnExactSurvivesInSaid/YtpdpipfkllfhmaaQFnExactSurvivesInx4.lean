/- For each Go function that one statement reaches: a plain function with the same answers, and the proof that the call comes to them. Conditions: those that each contract names. Written by a program of this repository. -/
import Derived.Test.YtpdpipfkllfhmaaVSurvivesIna
import Derived.Test.YtpdpipfkllfhmaaQFnExactSurvivesInx0
import Derived.Test.YtpdpipfkllfhmaaQFnExactSurvivesInx1
import Derived.Test.YtpdpipfkllfhmaaQFnExactSurvivesInx2
import Derived.Test.YtpdpipfkllfhmaaQFnExactSurvivesInx3
namespace Go.Proofs.Ytpdpipfkllfhmaa.QFnExactSurvivesIn
open Go.RowKit Go.Proofs.YtpdpipfkllfhmaaW.PrintWords Go.Proofs.YtpdpipfkllfhmaaW.PrintLast Go.Proofs.YtpdpipfkllfhmaaW.PrintMore
attribute [local go_sem] max2_int min2_int max_two min_two max_three min_three max_four min_four Go.Proofs.YtpdpipfkllfhmaaW.PrintMore2.isSome_setCell   -- for this text's walks alone
set_option linter.unusedVariables false
set_option linter.unusedSimpArgs false

/-! ### spec_l1Take: function 81 -/
def spec_l1Take.l0 : Nat → ByteArray → Int → Int → Int → Int → Int → Int → Int → Int → List ByteArray → Option (Int × Int × Int × Int × List ByteArray × Int)
 | 0, _, _, _, _, _, _, _, _, _, _ => none
 | k + 1, x0, x1, x6, x8, x9, x143000, x143001, x143002, x143003, x143004 => if x9 > 0 then (if x8 ≥ x6 then (some (0, 0, 0, 0, ([] : List ByteArray), 0)) else (if 0 ≤ x8 then (if x8 < (x0.size : Int) then (if (wrap64 (bt x0 x8)) > (wrap64 ((wrap64 (x6 - x8)) - 1)) then (some (0, 0, 0, 0, ([] : List ByteArray), 0)) else (if 0 ≤ (wrap64 (x8 + 1)) then (if (wrap64 (x8 + 1)) ≤ (wrap64 ((wrap64 (x8 + 1)) + (wrap64 (bt x0 x8)))) then (if (wrap64 ((wrap64 (x8 + 1)) + (wrap64 (bt x0 x8)))) ≤ (x0.size : Int) then (if x143004.length < 8796093022208 then (spec_l1Take.l0 k x0 x1 x6 (wrap64 (x8 + (wrap64 (1 + (wrap64 (bt x0 x8)))))) (wrap64 (x9 - 1)) x143000 x143001 x143002 x143003 (x143004 ++ [x0.extract ((wrap64 (x8 + 1)) : Int).toNat ((wrap64 ((wrap64 (x8 + 1)) + (wrap64 (bt x0 x8)))) : Int).toNat])) else (none)) else (none)) else (none)) else (none))) else (none)) else (none))) else ((spec_GoodBatch.f k x143000 x143001 x143002 x143003 x143004).bind fun t146 => (if t146 = true then ((spec_l1Batch.f k x143000 x143001 x143002 x143003 x143004).bind fun t147 => (if 0 ≤ x1 then (if x1 ≤ x6 then (if x6 ≤ (x0.size : Int) then (if t147.toList = (x0.extract (x1 : Int).toNat (x6 : Int).toNat).toList then (some (x143000, x143001, x143002, x143003, x143004, x6)) else (some (0, 0, 0, 0, ([] : List ByteArray), 0))) else (none)) else (none)) else (none))) else (some (0, 0, 0, 0, ([] : List ByteArray), 0))))
def spec_l1Take.f (k : Nat) (a0 : ByteArray) (a1 : Int) : Option (Int × Int × Int × Int × List ByteArray × Int) := if (wrap64 ((a0.size : Int) - a1)) < 14 then (some (0, 0, 0, 0, ([] : List ByteArray), 0)) else (if 0 ≤ a1 then (if a1 ≤ (wrap64 (a1 + 2)) then (if (wrap64 (a1 + 2)) ≤ (a0.size : Int) then ((spec_l1Value.f k (a0.extract (a1 : Int).toNat ((wrap64 (a1 + 2)) : Int).toNat)).bind fun t137 => (if (wrap64 ((wrap64 (a1 + 2)) + t137)) > (a0.size : Int) then (some (0, 0, 0, 0, ([] : List ByteArray), 0)) else (if 0 ≤ (wrap64 (a1 + 2)) then (if (wrap64 (a1 + 2)) ≤ (wrap64 (a1 + 5)) then (if (wrap64 (a1 + 5)) ≤ (a0.size : Int) then ((spec_l1Value.f k (a0.extract ((wrap64 (a1 + 2)) : Int).toNat ((wrap64 (a1 + 5)) : Int).toNat)).bind fun t138 => (if 0 ≤ (wrap64 (a1 + 5)) then (if (wrap64 (a1 + 5)) ≤ (wrap64 (a1 + 7)) then (if (wrap64 (a1 + 7)) ≤ (a0.size : Int) then ((spec_l1Value.f k (a0.extract ((wrap64 (a1 + 5)) : Int).toNat ((wrap64 (a1 + 7)) : Int).toNat)).bind fun t139 => (if 0 ≤ (wrap64 (a1 + 7)) then (if (wrap64 (a1 + 7)) ≤ (wrap64 (a1 + 9)) then (if (wrap64 (a1 + 9)) ≤ (a0.size : Int) then ((spec_l1Value.f k (a0.extract ((wrap64 (a1 + 7)) : Int).toNat ((wrap64 (a1 + 9)) : Int).toNat)).bind fun t140 => (if 0 ≤ (wrap64 (a1 + 9)) then (if (wrap64 (a1 + 9)) ≤ (wrap64 (a1 + 11)) then (if (wrap64 (a1 + 11)) ≤ (a0.size : Int) then ((spec_l1Value.f k (a0.extract ((wrap64 (a1 + 9)) : Int).toNat ((wrap64 (a1 + 11)) : Int).toNat)).bind fun t141 => (if 0 ≤ (wrap64 (a1 + 11)) then (if (wrap64 (a1 + 11)) < (a0.size : Int) then (spec_l1Take.l0 k a0 a1 (wrap64 ((wrap64 (a1 + 2)) + t137)) (wrap64 (a1 + 12)) (wrap64 (bt a0 (wrap64 (a1 + 11)))) t138 t139 t140 t141 ([] : List ByteArray)) else (none)) else (none))) else (none)) else (none)) else (none))) else (none)) else (none)) else (none))) else (none)) else (none)) else (none))) else (none)) else (none)) else (none)))) else (none)) else (none)) else (none))
theorem spec_l1Take.mono_l : ∀ k, (∀ y0 y1 y2 y3 y4 y5 y6 y7 y8 y9, LeO (spec_l1Take.l0 k y0 y1 y2 y3 y4 y5 y6 y7 y8 y9) (spec_l1Take.l0 (k + 1) y0 y1 y2 y3 y4 y5 y6 y7 y8 y9))
 | 0 => fun _ _ _ _ _ _ _ _ _ _ r h => by simp [spec_l1Take.l0] at h
 | k + 1 => by
  have ih0 := spec_l1Take.mono_l k
  ·intro y0 y1 y2 y3 y4 y5 y6 y7 y8 y9
   unfold spec_l1Take.l0
   repeat' first
   | (with_reducible exact ih0 _ _ _ _ _ _ _ _ _ _)
   | (with_reducible exact spec_GoodBatch.mono _ _ _ _ _ _)
   | (with_reducible exact spec_l1Batch.mono _ _ _ _ _ _)
   | (with_reducible exact spec_l1Value.mono _ _)
   | (with_reducible exact LeO.refl _)
   | (with_reducible exact LeO.none _)
   | (with_reducible refine LeO.ite ?_ ?_)
   | (with_reducible refine LeO.bind ?_ (fun _ => ?_))
   | exact ih0 _ _ _ _ _ _ _ _ _ _
   | exact spec_GoodBatch.mono _ _ _ _ _ _
   | exact spec_l1Batch.mono _ _ _ _ _ _
   | exact spec_l1Value.mono _ _
   | exact LeO.none _
   | refine LeO.ite ?_ ?_
   | refine LeO.bind ?_ (fun _ => ?_)
theorem spec_l1Take.mono : ∀ a0 a1 k, LeO (spec_l1Take.f k a0 a1) (spec_l1Take.f (k + 1) a0 a1) := by
 intro a0 a1 k
 have ih0 := spec_l1Take.mono_l k
 unfold spec_l1Take.f
 repeat' first
   | (with_reducible exact ih0 _ _ _ _ _ _ _ _ _ _)
   | (with_reducible exact spec_GoodBatch.mono _ _ _ _ _ _)
   | (with_reducible exact spec_l1Batch.mono _ _ _ _ _ _)
   | (with_reducible exact spec_l1Value.mono _ _)
   | (with_reducible exact LeO.refl _)
   | (with_reducible exact LeO.none _)
   | (with_reducible refine LeO.ite ?_ ?_)
   | (with_reducible refine LeO.bind ?_ (fun _ => ?_))
   | exact ih0 _ _ _ _ _ _ _ _ _ _
   | exact spec_GoodBatch.mono _ _ _ _ _ _
   | exact spec_l1Batch.mono _ _ _ _ _ _
   | exact spec_l1Value.mono _ _
   | exact LeO.none _
   | refine LeO.ite ?_ ?_
   | refine LeO.bind ?_ (fun _ => ?_)
def spec_l1Take.T6 : Bool × List (List Nat × List Nat) := (true, [([], []), ([], []), ([1], [1]), ([], []), ([3], [3]), ([0, 2, 4], [0, 2, 4]), ([5], [5]), ([], []), ([], []), ([8], [8]), ([], []), ([10], [10]), ([7, 9, 11], [7, 9, 11]), ([12, 6], [12]), ([], []), ([], []), ([15], [15]), ([], []), ([17], [17]), ([14, 16, 18], [14, 16, 18]), ([19, 13], [19]), ([], []), ([], []), ([22], [22]), ([], []), ([24], [24]), ([21, 23, 25], [21, 23, 25]), ([26, 20], [26]), ([6, 13, 20, 27], [6, 13, 20, 27]), ([], []), ([29, 28, 27, 0, 1, 2, 3, 4, 5, 6, 7, 8, 9, 10, 11, 12, 13, 14, 15, 16, 17, 18, 19, 20, 21, 22, 23, 24, 25, 26, 27, 28, 29], [28, 29])])
def spec_l1Take.B6 : List Nat := [0, 0, 2, 0, 8, 31, 63, 0, 0, 256, 0, 1024, 3968, 8191, 0, 0, 32768, 0, 131072, 507904, 1048575, 0, 0, 4194304, 0, 16777216, 65011712, 134217727, 268435455, 0, 1073741823]
theorem spec_l1Take.tab6 : rtab .any (opsOf Try.f81 6) = spec_l1Take.T6 := by kernel_rfl
theorem spec_l1Take.bits6 : waitsOk spec_l1Take.T6.2 spec_l1Take.B6 = true := by kernel_rfl
def spec_l1Take.T13 : Bool × List (List Nat × List Nat) := (true, [([], []), ([0], [0]), ([], []), ([], []), ([3], [3]), ([], []), ([5], [5]), ([], []), ([], []), ([7, 8], [7, 8]), ([9], [9]), ([6, 10], [6, 10]), ([2, 4, 11], [2, 4, 11]), ([12], [12]), ([1, 13], [1, 13]), ([0, 1, 2, 3, 4, 5, 6, 7, 8, 9, 10, 11, 12, 13, 14], []), ([15, 14, 14, 0, 1, 2, 3, 4, 5, 6, 7, 8, 9, 10, 11, 12, 13, 14], [14, 15])])
def spec_l1Take.B13 : List Nat := [0, 1, 0, 0, 8, 0, 32, 0, 0, 384, 896, 2016, 4092, 8188, 16383, 32767, 65535]
theorem spec_l1Take.tab13 : rtab .any (opsOf Try.f81 13) = spec_l1Take.T13 := by kernel_rfl
theorem spec_l1Take.bits13 : waitsOk spec_l1Take.T13.2 spec_l1Take.B13 = true := by kernel_rfl
def spec_l1Take.T15 : Bool × List (List Nat × List Nat) := (true, [([], []), ([0], [0]), ([1], [1]), ([2, 1], [2]), ([3], [3]), ([4, 3, 3], [3, 4]), ([3], [3]), ([3], [3]), ([3], [3]), ([6, 7, 8, 3], [3, 6, 7, 8]), ([5, 9, 3], [3, 5, 9]), ([3, 10], [3, 10])])
def spec_l1Take.B15 : List Nat := [0, 1, 3, 7, 15, 31, 15, 15, 15, 463, 1023, 2047]
theorem spec_l1Take.tab15 : rtab .any (opsOf Try.f81 15) = spec_l1Take.T15 := by kernel_rfl
theorem spec_l1Take.bits15 : waitsOk spec_l1Take.T15.2 spec_l1Take.B15 = true := by kernel_rfl
set_option maxHeartbeats 8000000 in
set_option maxRecDepth 100000 in
theorem spec_l1Take.calls (k : Nat) (a0 : ByteArray) (a1 : Int) (r1 : Int) (r2 : Int) (r3 : Int) (r4 : Int) (r5 : List ByteArray) (r6 : Int) (w : World) (h : spec_l1Take.f k a0 a1 = some (r1, r2, r3, r4, r5, r6)) :
  Calls Try.prog 81 #[.string a0, .int .i64 a1] w fun e w' => ∃ v4_ : Value, e = .returned (.tuple #[.agg #[.int .i64 r1, .int .i64 r2, .int .i64 r3, .int .i64 r4, v4_], .int .i64 r6]) ∧ Kd.R Kd.string 9 w' w.heap.size (fun _ => True) v4_ r5 ∧ Below w.heap.size w w' := by
 have hu44 := Try.underlying44
 have HB := Aside0.mk (Below.refl w.heap.size w)
 have H : (if (wrap64 ((a0.size : Int) - a1)) < 14 then (some (0, 0, 0, 0, ([] : List ByteArray), 0)) else (if 0 ≤ a1 then (if a1 ≤ (wrap64 (a1 + 2)) then (if (wrap64 (a1 + 2)) ≤ (a0.size : Int) then ((spec_l1Value.f k (a0.extract (a1 : Int).toNat ((wrap64 (a1 + 2)) : Int).toNat)).bind fun t137 => (if (wrap64 ((wrap64 (a1 + 2)) + t137)) > (a0.size : Int) then (some (0, 0, 0, 0, ([] : List ByteArray), 0)) else (if 0 ≤ (wrap64 (a1 + 2)) then (if (wrap64 (a1 + 2)) ≤ (wrap64 (a1 + 5)) then (if (wrap64 (a1 + 5)) ≤ (a0.size : Int) then ((spec_l1Value.f k (a0.extract ((wrap64 (a1 + 2)) : Int).toNat ((wrap64 (a1 + 5)) : Int).toNat)).bind fun t138 => (if 0 ≤ (wrap64 (a1 + 5)) then (if (wrap64 (a1 + 5)) ≤ (wrap64 (a1 + 7)) then (if (wrap64 (a1 + 7)) ≤ (a0.size : Int) then ((spec_l1Value.f k (a0.extract ((wrap64 (a1 + 5)) : Int).toNat ((wrap64 (a1 + 7)) : Int).toNat)).bind fun t139 => (if 0 ≤ (wrap64 (a1 + 7)) then (if (wrap64 (a1 + 7)) ≤ (wrap64 (a1 + 9)) then (if (wrap64 (a1 + 9)) ≤ (a0.size : Int) then ((spec_l1Value.f k (a0.extract ((wrap64 (a1 + 7)) : Int).toNat ((wrap64 (a1 + 9)) : Int).toNat)).bind fun t140 => (if 0 ≤ (wrap64 (a1 + 9)) then (if (wrap64 (a1 + 9)) ≤ (wrap64 (a1 + 11)) then (if (wrap64 (a1 + 11)) ≤ (a0.size : Int) then ((spec_l1Value.f k (a0.extract ((wrap64 (a1 + 9)) : Int).toNat ((wrap64 (a1 + 11)) : Int).toNat)).bind fun t141 => (if 0 ≤ (wrap64 (a1 + 11)) then (if (wrap64 (a1 + 11)) < (a0.size : Int) then (spec_l1Take.l0 k a0 a1 (wrap64 ((wrap64 (a1 + 2)) + t137)) (wrap64 (a1 + 12)) (wrap64 (bt a0 (wrap64 (a1 + 11)))) t138 t139 t140 t141 ([] : List ByteArray)) else (none)) else (none))) else (none)) else (none)) else (none))) else (none)) else (none)) else (none))) else (none)) else (none)) else (none))) else (none)) else (none)) else (none)))) else (none)) else (none)) else (none))) = some (r1, r2, r3, r4, r5, r6) := h
 clear h
 by_cases c3 : (wrap64 ((a0.size : Int) - a1)) < 14
 ·rw [if_pos c3] at H
  have c3b0 : decide ((wrap64 ((a0.size : Int) - a1)) < 14) = true := decide_eq_true c3
  clear c3
  simp only [Option.some.injEq, Prod.mk.injEq] at H
  obtain ⟨rfl, rfl, rfl, rfl, rfl, rfl⟩ := H
  go_enter Try.func81, Try.ntmps81
  go_wp2_with (first | ((with_reducible refine gate_dst (N := 4) rfl ?_); refine box_event ?hg (N := 4) ?hd (cs := #[.int .i64 0, .int .i64 0, .int .i64 0, .int .i64 0, .slice none 0 0]) (t := 44) ?hr ?_; (case hd => rfl); (case hg => rfl); (case hr => first | (go_simp; done) | (go_simp; rfl)); intro gb136 hg w4 hbox hb; have n0_ := Aside0.mk (below_step (hb_) hb); have n1_ := Aside0.mk (hbox); have n2_ := Aside0.mk ((by rw [hg]; exact (below_size (hb_)) : w.heap.size ≤ gb136)); have n3_ := Aside0.mk ((by rw [hg]; exact (below_size (hb_)) : w.heap.size ≤ gb136)); clear HB; have HB := n0_; have BK136 := n1_; have GW136 := n2_; have GE136 := n3_; clear n0_ n1_ n2_ n3_; clear hb hbox hg; have hcz5_0 : w4.cell? ⟨gb136, 0, none⟩ = some (.int .i64 0) := (blk_cell BK136.out 0).trans rfl; have hcz5_1 : w4.cell? ⟨gb136, 1, none⟩ = some (.int .i64 0) := (blk_cell BK136.out 1).trans rfl; have hcz5_2 : w4.cell? ⟨gb136, 2, none⟩ = some (.int .i64 0) := (blk_cell BK136.out 2).trans rfl; have hcz5_3 : w4.cell? ⟨gb136, 3, none⟩ = some (.int .i64 0) := (blk_cell BK136.out 3).trans rfl; have hcz5_4 : w4.cell? ⟨gb136, 4, none⟩ = some (.slice none 0 0) := (blk_cell BK136.out 4).trans rfl; have hfz5_0 := blk_frozen BK136.out 0; have hfz5_1 := blk_frozen BK136.out 1; have hfz5_2 := blk_frozen BK136.out 2; have hfz5_3 := blk_frozen BK136.out 3; have hfz5_4 := blk_frozen BK136.out 4))
  refine bodyPost_ret (results_ct rfl _ _ gb136 44 #[.int .i64 0, .int .i64 0, .int .i64 0, .int .i64 0, .slice none 0 0] (0, 0) _ rfl (by (with_reducible repeat (first | refine blk_drewN ?_ _ | refine blk_drew ?_ | refine blk_alloc ?_ _)); refine blk_put (cs := #[.int .i64 0, .int .i64 0, .int .i64 0, .int .i64 0, .slice none 0 0]) ?_ 4 _ rfl; (with_reducible repeat (first | refine blk_drewN ?_ _ | refine blk_drew ?_ | refine blk_alloc ?_ _)); refine blk_put (cs := #[.int .i64 0, .int .i64 0, .int .i64 0, .int .i64 0, .slice none 0 0]) ?_ 3 _ rfl; (with_reducible repeat (first | refine blk_drewN ?_ _ | refine blk_drew ?_ | refine blk_alloc ?_ _)); refine blk_put (cs := #[.int .i64 0, .int .i64 0, .int .i64 0, .int .i64 0, .slice none 0 0]) ?_ 2 _ rfl; (with_reducible repeat (first | refine blk_drewN ?_ _ | refine blk_drew ?_ | refine blk_alloc ?_ _)); refine blk_put (cs := #[.int .i64 0, .int .i64 0, .int .i64 0, .int .i64 0, .slice none 0 0]) ?_ 1 _ rfl; (with_reducible repeat (first | refine blk_drewN ?_ _ | refine blk_drew ?_ | refine blk_alloc ?_ _)); refine blk_put (cs := #[.int .i64 0, .int .i64 0, .int .i64 0, .int .i64 0, .slice none 0 0]) ?_ 0 _ rfl; (with_reducible repeat (first | refine blk_drewN ?_ _ | refine blk_drew ?_ | refine blk_alloc ?_ _)); exact BK136.out) Try.underlying44 rfl (by kernel_rfl)) rfl ?_
  exact ⟨_, by first | rfl | (simp [errW_none, errW_some] <;> rfl) | (simp [*, errW_none, errW_some] <;> rfl), by first | exact Kd.R_nil _ _ _ _ _ | exact Kd.N_nil _ _ _ _ _ | exact Kd.V_nil _ _ _ _ _ | exact Kd.Q_nil _ _ _ _ _ | exact Kd.S_nil _ _ _ _ _, hs_ GE136.out⟩
 ·rw [if_neg c3] at H
  have c3b0 : decide ((wrap64 ((a0.size : Int) - a1)) < 14) = false := decide_eq_false c3
  clear c3
  by_cases c6 : 0 ≤ a1
  ·rw [if_pos c6] at H
   have c6b0 := eq_true c6
   have c6b1 : decide (0 ≤ a1) = true := decide_eq_true c6
   clear c6
   by_cases c7 : a1 ≤ (wrap64 (a1 + 2))
   ·rw [if_pos c7] at H
    have c7b0 := eq_true c7
    have c7b1 : decide (a1 ≤ (wrap64 (a1 + 2))) = true := decide_eq_true c7
    by_cases c8 : (wrap64 (a1 + 2)) ≤ (a0.size : Int)
    ·rw [if_pos c8] at H
     have c8b0 := eq_true c8
     have c8b1 : decide ((wrap64 (a1 + 2)) ≤ (a0.size : Int)) = true := decide_eq_true c8
     replace H := Option.bind_eq_some_iff.mp H
     obtain ⟨t137, A90, H⟩ := H
     replace H : (if (wrap64 ((wrap64 (a1 + 2)) + t137)) > (a0.size : Int) then (some (0, 0, 0, 0, ([] : List ByteArray), 0)) else (if 0 ≤ (wrap64 (a1 + 2)) then (if (wrap64 (a1 + 2)) ≤ (wrap64 (a1 + 5)) then (if (wrap64 (a1 + 5)) ≤ (a0.size : Int) then ((spec_l1Value.f k (a0.extract ((wrap64 (a1 + 2)) : Int).toNat ((wrap64 (a1 + 5)) : Int).toNat)).bind fun t138 => (if 0 ≤ (wrap64 (a1 + 5)) then (if (wrap64 (a1 + 5)) ≤ (wrap64 (a1 + 7)) then (if (wrap64 (a1 + 7)) ≤ (a0.size : Int) then ((spec_l1Value.f k (a0.extract ((wrap64 (a1 + 5)) : Int).toNat ((wrap64 (a1 + 7)) : Int).toNat)).bind fun t139 => (if 0 ≤ (wrap64 (a1 + 7)) then (if (wrap64 (a1 + 7)) ≤ (wrap64 (a1 + 9)) then (if (wrap64 (a1 + 9)) ≤ (a0.size : Int) then ((spec_l1Value.f k (a0.extract ((wrap64 (a1 + 7)) : Int).toNat ((wrap64 (a1 + 9)) : Int).toNat)).bind fun t140 => (if 0 ≤ (wrap64 (a1 + 9)) then (if (wrap64 (a1 + 9)) ≤ (wrap64 (a1 + 11)) then (if (wrap64 (a1 + 11)) ≤ (a0.size : Int) then ((spec_l1Value.f k (a0.extract ((wrap64 (a1 + 9)) : Int).toNat ((wrap64 (a1 + 11)) : Int).toNat)).bind fun t141 => (if 0 ≤ (wrap64 (a1 + 11)) then (if (wrap64 (a1 + 11)) < (a0.size : Int) then (spec_l1Take.l0 k a0 a1 (wrap64 ((wrap64 (a1 + 2)) + t137)) (wrap64 (a1 + 12)) (wrap64 (bt a0 (wrap64 (a1 + 11)))) t138 t139 t140 t141 ([] : List ByteArray)) else (none)) else (none))) else (none)) else (none)) else (none))) else (none)) else (none)) else (none))) else (none)) else (none)) else (none))) else (none)) else (none)) else (none))) = some (r1, r2, r3, r4, r5, r6) := H
     have A9 := Aside0.mk A90
     clear A90
     by_cases c10 : (wrap64 ((wrap64 (a1 + 2)) + t137)) > (a0.size : Int)
     ·rw [if_pos c10] at H
      have c10b0 : decide ((a0.size : Int) < (wrap64 ((wrap64 (a1 + 2)) + t137))) = true := decide_eq_true c10
      clear c10
      simp only [Option.some.injEq, Prod.mk.injEq] at H
      obtain ⟨rfl, rfl, rfl, rfl, rfl, rfl⟩ := H
      go_enter Try.func81, Try.ntmps81
      go_wp2_with (first | ((with_reducible refine gate_dst (N := 4) rfl ?_); refine box_event ?hg (N := 4) ?hd (cs := #[.int .i64 0, .int .i64 0, .int .i64 0, .int .i64 0, .slice none 0 0]) (t := 44) ?hr ?_; (case hd => rfl); (case hg => rfl); (case hr => first | (go_simp; done) | (go_simp; rfl)); intro gb136 hg w11 hbox hb; have n0_ := Aside0.mk (below_step (hb_) hb); have n1_ := Aside0.mk (hbox); have n2_ := Aside0.mk ((by rw [hg]; exact (below_size (hb_)) : w.heap.size ≤ gb136)); have n3_ := Aside0.mk ((by rw [hg]; exact (below_size (hb_)) : w.heap.size ≤ gb136)); clear HB; have HB := n0_; have BK136 := n1_; have GW136 := n2_; have GE136 := n3_; clear n0_ n1_ n2_ n3_; clear hb hbox hg) | ((with_reducible refine gate_callee (f := 97) rfl ?_); refine goesL_ (some 23) rfl rfl Try.func97 (by kernel_rfl) rfl #[.string (a0.extract (a1 : Int).toNat ((wrap64 (a1 + 2)) : Int).toNat)] rfl (by (try simp only [List.map_toArray, List.map_cons, List.map_nil]); first | done | rfl | (simp only [List.length_drop, List.length_take]; rfl)) ?_; (with_reducible refine (spec_l1Value.calls k (a0.extract (a1 : Int).toNat ((wrap64 (a1 + 2)) : Int).toNat) t137 _ A9.out).mono ?_); rintro e w' ⟨rfl, ⟨nd, rfl⟩⟩; refine ⟨_, rfl, ?_⟩; (try (rw [drewN_self w11]; generalize hq_ : World.drewN w11 _ = w11; have n0_ : Aside0 (w11.heap[gb136]? = some (.cells #[.int .i64 0, .int .i64 0, .int .i64 0, .int .i64 0, .slice none 0 0] 44 (0, 0))) := ⟨by rw [← hq_]; exact (kb_ BK136.out)⟩; have n1_ : Aside0 (Below w.heap.size w w11) := ⟨by rw [← hq_]; exact (hs_ GE136.out)⟩; clear BK136 HB hq_; have BK136 := n0_; have HB := n1_; clear n0_ n1_)); have hcz12_0 : w11.cell? ⟨gb136, 0, none⟩ = some (.int .i64 0) := (blk_cell BK136.out 0).trans rfl; have hcz12_1 : w11.cell? ⟨gb136, 1, none⟩ = some (.int .i64 0) := (blk_cell BK136.out 1).trans rfl; have hcz12_2 : w11.cell? ⟨gb136, 2, none⟩ = some (.int .i64 0) := (blk_cell BK136.out 2).trans rfl; have hcz12_3 : w11.cell? ⟨gb136, 3, none⟩ = some (.int .i64 0) := (blk_cell BK136.out 3).trans rfl; have hcz12_4 : w11.cell? ⟨gb136, 4, none⟩ = some (.slice none 0 0) := (blk_cell BK136.out 4).trans rfl; have hfz12_0 := blk_frozen BK136.out 0; have hfz12_1 := blk_frozen BK136.out 1; have hfz12_2 := blk_frozen BK136.out 2; have hfz12_3 := blk_frozen BK136.out 3; have hfz12_4 := blk_frozen BK136.out 4))
      refine bodyPost_ret (results_ct rfl _ _ gb136 44 #[.int .i64 0, .int .i64 0, .int .i64 0, .int .i64 0, .slice none 0 0] (0, 0) _ rfl (by (with_reducible repeat (first | refine blk_drewN ?_ _ | refine blk_drew ?_ | refine blk_alloc ?_ _)); refine blk_put (cs := #[.int .i64 0, .int .i64 0, .int .i64 0, .int .i64 0, .slice none 0 0]) ?_ 4 _ rfl; (with_reducible repeat (first | refine blk_drewN ?_ _ | refine blk_drew ?_ | refine blk_alloc ?_ _)); refine blk_put (cs := #[.int .i64 0, .int .i64 0, .int .i64 0, .int .i64 0, .slice none 0 0]) ?_ 3 _ rfl; (with_reducible repeat (first | refine blk_drewN ?_ _ | refine blk_drew ?_ | refine blk_alloc ?_ _)); refine blk_put (cs := #[.int .i64 0, .int .i64 0, .int .i64 0, .int .i64 0, .slice none 0 0]) ?_ 2 _ rfl; (with_reducible repeat (first | refine blk_drewN ?_ _ | refine blk_drew ?_ | refine blk_alloc ?_ _)); refine blk_put (cs := #[.int .i64 0, .int .i64 0, .int .i64 0, .int .i64 0, .slice none 0 0]) ?_ 1 _ rfl; (with_reducible repeat (first | refine blk_drewN ?_ _ | refine blk_drew ?_ | refine blk_alloc ?_ _)); refine blk_put (cs := #[.int .i64 0, .int .i64 0, .int .i64 0, .int .i64 0, .slice none 0 0]) ?_ 0 _ rfl; (with_reducible repeat (first | refine blk_drewN ?_ _ | refine blk_drew ?_ | refine blk_alloc ?_ _)); exact BK136.out) Try.underlying44 rfl (by kernel_rfl)) rfl ?_
      exact ⟨_, by first | rfl | (simp [errW_none, errW_some] <;> rfl) | (simp [*, errW_none, errW_some] <;> rfl), by first | exact Kd.R_nil _ _ _ _ _ | exact Kd.N_nil _ _ _ _ _ | exact Kd.V_nil _ _ _ _ _ | exact Kd.Q_nil _ _ _ _ _ | exact Kd.S_nil _ _ _ _ _, hs_ GE136.out⟩
     ·rw [if_neg c10] at H
      have c10b0 : decide ((a0.size : Int) < (wrap64 ((wrap64 (a1 + 2)) + t137))) = false := decide_eq_false c10
      clear c10
      obtain ⟨ji13, hji13⟩ : ∃ j_ : Int, (wrap64 (a1 + 2)) = j_ := ⟨_, rfl⟩
      replace H : (if 0 ≤ (ji13) then (if (ji13) ≤ (wrap64 (a1 + 5)) then (if (wrap64 (a1 + 5)) ≤ (a0.size : Int) then ((spec_l1Value.f k (a0.extract ((ji13) : Int).toNat ((wrap64 (a1 + 5)) : Int).toNat)).bind fun t138 => (if 0 ≤ (wrap64 (a1 + 5)) then (if (wrap64 (a1 + 5)) ≤ (wrap64 (a1 + 7)) then (if (wrap64 (a1 + 7)) ≤ (a0.size : Int) then ((spec_l1Value.f k (a0.extract ((wrap64 (a1 + 5)) : Int).toNat ((wrap64 (a1 + 7)) : Int).toNat)).bind fun t139 => (if 0 ≤ (wrap64 (a1 + 7)) then (if (wrap64 (a1 + 7)) ≤ (wrap64 (a1 + 9)) then (if (wrap64 (a1 + 9)) ≤ (a0.size : Int) then ((spec_l1Value.f k (a0.extract ((wrap64 (a1 + 7)) : Int).toNat ((wrap64 (a1 + 9)) : Int).toNat)).bind fun t140 => (if 0 ≤ (wrap64 (a1 + 9)) then (if (wrap64 (a1 + 9)) ≤ (wrap64 (a1 + 11)) then (if (wrap64 (a1 + 11)) ≤ (a0.size : Int) then ((spec_l1Value.f k (a0.extract ((wrap64 (a1 + 9)) : Int).toNat ((wrap64 (a1 + 11)) : Int).toNat)).bind fun t141 => (if 0 ≤ (wrap64 (a1 + 11)) then (if (wrap64 (a1 + 11)) < (a0.size : Int) then (spec_l1Take.l0 k a0 a1 (wrap64 ((ji13) + t137)) (wrap64 (a1 + 12)) (wrap64 (bt a0 (wrap64 (a1 + 11)))) t138 t139 t140 t141 ([] : List ByteArray)) else (none)) else (none))) else (none)) else (none)) else (none))) else (none)) else (none)) else (none))) else (none)) else (none)) else (none))) else (none)) else (none)) else (none)) = some (r1, r2, r3, r4, r5, r6) := by first | (rw [hji13] at H; exact H) | (simp only [hji13] at H ⊢; exact H)
      (try rw [hji13] at c7b0)
      (try rw [hji13] at c7b1)
      (try rw [hji13] at c7)
      (try rw [hji13] at c8b0)
      (try rw [hji13] at c8b1)
      (try rw [hji13] at c8)
      (try rw [hji13] at c10b0)
      (try rw [hji13] at A9)
      have hji13w : (IntKind.i64.wrap (a1 + 2)) = ji13 := (i64_w _).trans hji13
      by_cases c14 : 0 ≤ (ji13)
      ·rw [if_pos c14] at H
       have c14b0 := eq_true c14
       have c14b1 : decide (0 ≤ (ji13)) = true := decide_eq_true c14
       clear c14
       by_cases c15 : (ji13) ≤ (wrap64 (a1 + 5))
       ·rw [if_pos c15] at H
        have c15b0 := eq_true c15
        have c15b1 : decide ((ji13) ≤ (wrap64 (a1 + 5))) = true := decide_eq_true c15
        by_cases c16 : (wrap64 (a1 + 5)) ≤ (a0.size : Int)
        ·rw [if_pos c16] at H
         have c16b0 := eq_true c16
         have c16b1 : decide ((wrap64 (a1 + 5)) ≤ (a0.size : Int)) = true := decide_eq_true c16
         replace H := Option.bind_eq_some_iff.mp H
         obtain ⟨t138, A170, H⟩ := H
         replace H : (if 0 ≤ (wrap64 (a1 + 5)) then (if (wrap64 (a1 + 5)) ≤ (wrap64 (a1 + 7)) then (if (wrap64 (a1 + 7)) ≤ (a0.size : Int) then ((spec_l1Value.f k (a0.extract ((wrap64 (a1 + 5)) : Int).toNat ((wrap64 (a1 + 7)) : Int).toNat)).bind fun t139 => (if 0 ≤ (wrap64 (a1 + 7)) then (if (wrap64 (a1 + 7)) ≤ (wrap64 (a1 + 9)) then (if (wrap64 (a1 + 9)) ≤ (a0.size : Int) then ((spec_l1Value.f k (a0.extract ((wrap64 (a1 + 7)) : Int).toNat ((wrap64 (a1 + 9)) : Int).toNat)).bind fun t140 => (if 0 ≤ (wrap64 (a1 + 9)) then (if (wrap64 (a1 + 9)) ≤ (wrap64 (a1 + 11)) then (if (wrap64 (a1 + 11)) ≤ (a0.size : Int) then ((spec_l1Value.f k (a0.extract ((wrap64 (a1 + 9)) : Int).toNat ((wrap64 (a1 + 11)) : Int).toNat)).bind fun t141 => (if 0 ≤ (wrap64 (a1 + 11)) then (if (wrap64 (a1 + 11)) < (a0.size : Int) then (spec_l1Take.l0 k a0 a1 (wrap64 ((ji13) + t137)) (wrap64 (a1 + 12)) (wrap64 (bt a0 (wrap64 (a1 + 11)))) t138 t139 t140 t141 ([] : List ByteArray)) else (none)) else (none))) else (none)) else (none)) else (none))) else (none)) else (none)) else (none))) else (none)) else (none)) else (none)) = some (r1, r2, r3, r4, r5, r6) := H
         have A17 := Aside0.mk A170
         clear A170
         obtain ⟨ji18, hji18⟩ : ∃ j_ : Int, (wrap64 (a1 + 5)) = j_ := ⟨_, rfl⟩
         replace H : (if 0 ≤ (ji18) then (if (ji18) ≤ (wrap64 (a1 + 7)) then (if (wrap64 (a1 + 7)) ≤ (a0.size : Int) then ((spec_l1Value.f k (a0.extract ((ji18) : Int).toNat ((wrap64 (a1 + 7)) : Int).toNat)).bind fun t139 => (if 0 ≤ (wrap64 (a1 + 7)) then (if (wrap64 (a1 + 7)) ≤ (wrap64 (a1 + 9)) then (if (wrap64 (a1 + 9)) ≤ (a0.size : Int) then ((spec_l1Value.f k (a0.extract ((wrap64 (a1 + 7)) : Int).toNat ((wrap64 (a1 + 9)) : Int).toNat)).bind fun t140 => (if 0 ≤ (wrap64 (a1 + 9)) then (if (wrap64 (a1 + 9)) ≤ (wrap64 (a1 + 11)) then (if (wrap64 (a1 + 11)) ≤ (a0.size : Int) then ((spec_l1Value.f k (a0.extract ((wrap64 (a1 + 9)) : Int).toNat ((wrap64 (a1 + 11)) : Int).toNat)).bind fun t141 => (if 0 ≤ (wrap64 (a1 + 11)) then (if (wrap64 (a1 + 11)) < (a0.size : Int) then (spec_l1Take.l0 k a0 a1 (wrap64 ((ji13) + t137)) (wrap64 (a1 + 12)) (wrap64 (bt a0 (wrap64 (a1 + 11)))) t138 t139 t140 t141 ([] : List ByteArray)) else (none)) else (none))) else (none)) else (none)) else (none))) else (none)) else (none)) else (none))) else (none)) else (none)) else (none)) = some (r1, r2, r3, r4, r5, r6) := by first | (rw [hji18] at H; exact H) | (simp only [hji18] at H ⊢; exact H)
         (try rw [hji18] at c15b0)
         (try rw [hji18] at c15b1)
         (try rw [hji18] at c15)
         (try rw [hji18] at c16b0)
         (try rw [hji18] at c16b1)
         (try rw [hji18] at c16)
         (try rw [hji18] at A9)
         (try rw [hji18] at A17)
         have hji18w : (IntKind.i64.wrap (a1 + 5)) = ji18 := (i64_w _).trans hji18
         by_cases c19 : 0 ≤ (ji18)
         ·rw [if_pos c19] at H
          have c19b0 := eq_true c19
          have c19b1 : decide (0 ≤ (ji18)) = true := decide_eq_true c19
          clear c19
          by_cases c20 : (ji18) ≤ (wrap64 (a1 + 7))
          ·rw [if_pos c20] at H
           have c20b0 := eq_true c20
           have c20b1 : decide ((ji18) ≤ (wrap64 (a1 + 7))) = true := decide_eq_true c20
           by_cases c21 : (wrap64 (a1 + 7)) ≤ (a0.size : Int)
           ·rw [if_pos c21] at H
            have c21b0 := eq_true c21
            have c21b1 : decide ((wrap64 (a1 + 7)) ≤ (a0.size : Int)) = true := decide_eq_true c21
            replace H := Option.bind_eq_some_iff.mp H
            obtain ⟨t139, A220, H⟩ := H
            replace H : (if 0 ≤ (wrap64 (a1 + 7)) then (if (wrap64 (a1 + 7)) ≤ (wrap64 (a1 + 9)) then (if (wrap64 (a1 + 9)) ≤ (a0.size : Int) then ((spec_l1Value.f k (a0.extract ((wrap64 (a1 + 7)) : Int).toNat ((wrap64 (a1 + 9)) : Int).toNat)).bind fun t140 => (if 0 ≤ (wrap64 (a1 + 9)) then (if (wrap64 (a1 + 9)) ≤ (wrap64 (a1 + 11)) then (if (wrap64 (a1 + 11)) ≤ (a0.size : Int) then ((spec_l1Value.f k (a0.extract ((wrap64 (a1 + 9)) : Int).toNat ((wrap64 (a1 + 11)) : Int).toNat)).bind fun t141 => (if 0 ≤ (wrap64 (a1 + 11)) then (if (wrap64 (a1 + 11)) < (a0.size : Int) then (spec_l1Take.l0 k a0 a1 (wrap64 ((ji13) + t137)) (wrap64 (a1 + 12)) (wrap64 (bt a0 (wrap64 (a1 + 11)))) t138 t139 t140 t141 ([] : List ByteArray)) else (none)) else (none))) else (none)) else (none)) else (none))) else (none)) else (none)) else (none)) = some (r1, r2, r3, r4, r5, r6) := H
            have A22 := Aside0.mk A220
            clear A220
            obtain ⟨ji23, hji23⟩ : ∃ j_ : Int, (wrap64 (a1 + 7)) = j_ := ⟨_, rfl⟩
            replace H : (if 0 ≤ (ji23) then (if (ji23) ≤ (wrap64 (a1 + 9)) then (if (wrap64 (a1 + 9)) ≤ (a0.size : Int) then ((spec_l1Value.f k (a0.extract ((ji23) : Int).toNat ((wrap64 (a1 + 9)) : Int).toNat)).bind fun t140 => (if 0 ≤ (wrap64 (a1 + 9)) then (if (wrap64 (a1 + 9)) ≤ (wrap64 (a1 + 11)) then (if (wrap64 (a1 + 11)) ≤ (a0.size : Int) then ((spec_l1Value.f k (a0.extract ((wrap64 (a1 + 9)) : Int).toNat ((wrap64 (a1 + 11)) : Int).toNat)).bind fun t141 => (if 0 ≤ (wrap64 (a1 + 11)) then (if (wrap64 (a1 + 11)) < (a0.size : Int) then (spec_l1Take.l0 k a0 a1 (wrap64 ((ji13) + t137)) (wrap64 (a1 + 12)) (wrap64 (bt a0 (wrap64 (a1 + 11)))) t138 t139 t140 t141 ([] : List ByteArray)) else (none)) else (none))) else (none)) else (none)) else (none))) else (none)) else (none)) else (none)) = some (r1, r2, r3, r4, r5, r6) := by first | (rw [hji23] at H; exact H) | (simp only [hji23] at H ⊢; exact H)
            (try rw [hji23] at c20b0)
            (try rw [hji23] at c20b1)
            (try rw [hji23] at c20)
            (try rw [hji23] at c21b0)
            (try rw [hji23] at c21b1)
            (try rw [hji23] at c21)
            (try rw [hji23] at A9)
            (try rw [hji23] at A17)
            (try rw [hji23] at A22)
            have hji23w : (IntKind.i64.wrap (a1 + 7)) = ji23 := (i64_w _).trans hji23
            by_cases c24 : 0 ≤ (ji23)
            ·rw [if_pos c24] at H
             have c24b0 := eq_true c24
             have c24b1 : decide (0 ≤ (ji23)) = true := decide_eq_true c24
             clear c24
             by_cases c25 : (ji23) ≤ (wrap64 (a1 + 9))
             ·rw [if_pos c25] at H
              have c25b0 := eq_true c25
              have c25b1 : decide ((ji23) ≤ (wrap64 (a1 + 9))) = true := decide_eq_true c25
              by_cases c26 : (wrap64 (a1 + 9)) ≤ (a0.size : Int)
              ·rw [if_pos c26] at H
               have c26b0 := eq_true c26
               have c26b1 : decide ((wrap64 (a1 + 9)) ≤ (a0.size : Int)) = true := decide_eq_true c26
               replace H := Option.bind_eq_some_iff.mp H
               obtain ⟨t140, A270, H⟩ := H
               replace H : (if 0 ≤ (wrap64 (a1 + 9)) then (if (wrap64 (a1 + 9)) ≤ (wrap64 (a1 + 11)) then (if (wrap64 (a1 + 11)) ≤ (a0.size : Int) then ((spec_l1Value.f k (a0.extract ((wrap64 (a1 + 9)) : Int).toNat ((wrap64 (a1 + 11)) : Int).toNat)).bind fun t141 => (if 0 ≤ (wrap64 (a1 + 11)) then (if (wrap64 (a1 + 11)) < (a0.size : Int) then (spec_l1Take.l0 k a0 a1 (wrap64 ((ji13) + t137)) (wrap64 (a1 + 12)) (wrap64 (bt a0 (wrap64 (a1 + 11)))) t138 t139 t140 t141 ([] : List ByteArray)) else (none)) else (none))) else (none)) else (none)) else (none)) = some (r1, r2, r3, r4, r5, r6) := H
               have A27 := Aside0.mk A270
               clear A270
               obtain ⟨ji28, hji28⟩ : ∃ j_ : Int, (wrap64 (a1 + 9)) = j_ := ⟨_, rfl⟩
               replace H : (if 0 ≤ (ji28) then (if (ji28) ≤ (wrap64 (a1 + 11)) then (if (wrap64 (a1 + 11)) ≤ (a0.size : Int) then ((spec_l1Value.f k (a0.extract ((ji28) : Int).toNat ((wrap64 (a1 + 11)) : Int).toNat)).bind fun t141 => (if 0 ≤ (wrap64 (a1 + 11)) then (if (wrap64 (a1 + 11)) < (a0.size : Int) then (spec_l1Take.l0 k a0 a1 (wrap64 ((ji13) + t137)) (wrap64 (a1 + 12)) (wrap64 (bt a0 (wrap64 (a1 + 11)))) t138 t139 t140 t141 ([] : List ByteArray)) else (none)) else (none))) else (none)) else (none)) else (none)) = some (r1, r2, r3, r4, r5, r6) := by first | (rw [hji28] at H; exact H) | (simp only [hji28] at H ⊢; exact H)
               (try rw [hji28] at c25b0)
               (try rw [hji28] at c25b1)
               (try rw [hji28] at c25)
               (try rw [hji28] at c26b0)
               (try rw [hji28] at c26b1)
               (try rw [hji28] at c26)
               (try rw [hji28] at A9)
               (try rw [hji28] at A17)
               (try rw [hji28] at A22)
               (try rw [hji28] at A27)
               have hji28w : (IntKind.i64.wrap (a1 + 9)) = ji28 := (i64_w _).trans hji28
               by_cases c29 : 0 ≤ (ji28)
               ·rw [if_pos c29] at H
                have c29b0 := eq_true c29
                have c29b1 : decide (0 ≤ (ji28)) = true := decide_eq_true c29
                clear c29
                by_cases c30 : (ji28) ≤ (wrap64 (a1 + 11))
                ·rw [if_pos c30] at H
                 have c30b0 := eq_true c30
                 have c30b1 : decide ((ji28) ≤ (wrap64 (a1 + 11))) = true := decide_eq_true c30
                 by_cases c31 : (wrap64 (a1 + 11)) ≤ (a0.size : Int)
                 ·rw [if_pos c31] at H
                  have c31b0 := eq_true c31
                  have c31b1 : decide ((wrap64 (a1 + 11)) ≤ (a0.size : Int)) = true := decide_eq_true c31
                  replace H := Option.bind_eq_some_iff.mp H
                  obtain ⟨t141, A320, H⟩ := H
                  replace H : (if 0 ≤ (wrap64 (a1 + 11)) then (if (wrap64 (a1 + 11)) < (a0.size : Int) then (spec_l1Take.l0 k a0 a1 (wrap64 ((ji13) + t137)) (wrap64 (a1 + 12)) (wrap64 (bt a0 (wrap64 (a1 + 11)))) t138 t139 t140 t141 ([] : List ByteArray)) else (none)) else (none)) = some (r1, r2, r3, r4, r5, r6) := H
                  have A32 := Aside0.mk A320
                  clear A320
                  obtain ⟨ji33, hji33⟩ : ∃ j_ : Int, (wrap64 (a1 + 11)) = j_ := ⟨_, rfl⟩
                  replace H : (if 0 ≤ (ji33) then (if (ji33) < (a0.size : Int) then (spec_l1Take.l0 k a0 a1 (wrap64 ((ji13) + t137)) (wrap64 (a1 + 12)) (wrap64 (bt a0 (ji33))) t138 t139 t140 t141 ([] : List ByteArray)) else (none)) else (none)) = some (r1, r2, r3, r4, r5, r6) := by first | (rw [hji33] at H; exact H) | (simp only [hji33] at H ⊢; exact H)
                  (try rw [hji33] at c30b0)
                  (try rw [hji33] at c30b1)
                  (try rw [hji33] at c30)
                  (try rw [hji33] at c31b0)
                  (try rw [hji33] at c31b1)
                  (try rw [hji33] at c31)
                  (try rw [hji33] at A9)
                  (try rw [hji33] at A17)
                  (try rw [hji33] at A22)
                  (try rw [hji33] at A27)
                  (try rw [hji33] at A32)
                  have hji33w : (IntKind.i64.wrap (a1 + 11)) = ji33 := (i64_w _).trans hji33
                  by_cases c34 : 0 ≤ (ji33)
                  ·rw [if_pos c34] at H
                   have c34b0 : decide (0 ≤ (ji33)) = true := decide_eq_true c34
                   clear c34
                   by_cases c35 : (ji33) < (a0.size : Int)
                   ·rw [if_pos c35] at H
                    have c35b0 : decide ((ji33) < (a0.size : Int)) = true := decide_eq_true c35
                    clear c35
                    have H' := Aside0.mk H
                    clear H
                    go_enter Try.func81, Try.ntmps81
                    try go_wp2_with (first | ((with_reducible refine gate_dst (N := 4) rfl ?_); refine box_event ?hg (N := 4) ?hd (cs := #[.int .i64 0, .int .i64 0, .int .i64 0, .int .i64 0, .slice none 0 0]) (t := 44) ?hr ?_; (case hd => rfl); (case hg => rfl); (case hr => first | (go_simp; done) | (go_simp; rfl)); intro gb136 hg w37 hbox hb; have n0_ := Aside0.mk (below_step (hb_) hb); have n1_ := Aside0.mk (hbox); have n2_ := Aside0.mk ((by rw [hg]; exact (below_size (hb_)) : w.heap.size ≤ gb136)); have n3_ := Aside0.mk ((by rw [hg]; exact (below_size (hb_)) : w.heap.size ≤ gb136)); clear HB; have HB := n0_; have BK136 := n1_; have GW136 := n2_; have GE136 := n3_; clear n0_ n1_ n2_ n3_; clear hb hbox hg) | ((with_reducible refine gate_callee (f := 97) rfl ?_); refine goesL_ (some 23) rfl rfl Try.func97 (by kernel_rfl) rfl #[.string (a0.extract (a1 : Int).toNat ((ji13) : Int).toNat)] rfl (by (try simp only [List.map_toArray, List.map_cons, List.map_nil]); first | done | (simp only [hji13]; rfl) | rfl | (simp only [List.length_drop, List.length_take]; rfl)) ?_; (with_reducible refine (spec_l1Value.calls k (a0.extract (a1 : Int).toNat ((ji13) : Int).toNat) t137 _ A9.out).mono ?_); rintro e w' ⟨rfl, ⟨nd, rfl⟩⟩; refine ⟨_, rfl, ?_⟩; (try (rw [drewN_self w37]; generalize hq_ : World.drewN w37 _ = w37; have n0_ : Aside0 (w37.heap[gb136]? = some (.cells #[.int .i64 0, .int .i64 0, .int .i64 0, .int .i64 0, .slice none 0 0] 44 (0, 0))) := ⟨by rw [← hq_]; exact (kb_ BK136.out)⟩; have n1_ : Aside0 (Below w.heap.size w w37) := ⟨by rw [← hq_]; exact (hs_ GE136.out)⟩; clear BK136 HB hq_; have BK136 := n0_; have HB := n1_; clear n0_ n1_))))
                    have n0_ := Aside0.mk (blk_drew BK136.out)
                    have n1_ := Aside0.mk (below_drew1 HB.out)
                    clear BK136
                    clear HB
                    have BK136 := n0_
                    have HB := n1_
                    clear n0_ n1_
                    refine start_ (n := 31) (S := fun w' => True) (ds := []) #[false, false, false, false, false, false, false, false, false, false, false, false, false, false, false, false, false, false, false, false, false, false, false, false, false, false, false, false, false, false, false] (by kernel_rfl) rfl rfl trivial (fun hHeld => ?_); refine with_tabW spec_l1Take.tab6 spec_l1Take.bits6 (fun HT_ HW_ => ?_)
                    generalize w37.drew = w38 at BK136 HB hHeld ⊢
                    refine pu_ (i := 0) (N := some 30) #[true, false, false, false, false, false, false, false, false, false, false, false, false, false, false, false, false, false, false, false, false, false, false, false, false, false, false, false, false, false, false] (any_of HT_.out (by kernel_rfl)) ?_
                    refine pu_ (i := 1) (N := some 31) #[true, true, false, false, false, false, false, false, false, false, false, false, false, false, false, false, false, false, false, false, false, false, false, false, false, false, false, false, false, false, false] (any_of HT_.out (by kernel_rfl)) ?_
                    refine pu_ (i := 2) (N := some 32) #[true, true, true, false, false, false, false, false, false, false, false, false, false, false, false, false, false, false, false, false, false, false, false, false, false, false, false, false, false, false, false] (any_of HT_.out (by kernel_rfl)) ?_
                    refine pu_ (i := 3) (N := some 33) #[true, true, true, true, false, false, false, false, false, false, false, false, false, false, false, false, false, false, false, false, false, false, false, false, false, false, false, false, false, false, false] (any_of HT_.out (by kernel_rfl)) ?_
                    refine pu_ (i := 4) (N := some 34) #[true, true, true, true, true, false, false, false, false, false, false, false, false, false, false, false, false, false, false, false, false, false, false, false, false, false, false, false, false, false, false] (any_of HT_.out (by kernel_rfl)) ?_
                    refine pu_ (i := 5) (N := some 35) #[true, true, true, true, true, true, false, false, false, false, false, false, false, false, false, false, false, false, false, false, false, false, false, false, false, false, false, false, false, false, false] (any_of HT_.out (by kernel_rfl)) ?_
                    refine pu_ (i := 7) (N := some 37) #[true, true, true, true, true, true, false, true, false, false, false, false, false, false, false, false, false, false, false, false, false, false, false, false, false, false, false, false, false, false, false] (any_of HT_.out (by kernel_rfl)) ?_
                    refine pu_ (i := 8) (N := some 38) #[true, true, true, true, true, true, false, true, true, false, false, false, false, false, false, false, false, false, false, false, false, false, false, false, false, false, false, false, false, false, false] (any_of HT_.out (by kernel_rfl)) ?_
                    refine pu_ (i := 9) (N := some 39) #[true, true, true, true, true, true, false, true, true, true, false, false, false, false, false, false, false, false, false, false, false, false, false, false, false, false, false, false, false, false, false] (any_of HT_.out (by kernel_rfl)) ?_
                    refine pu_ (i := 10) (N := some 40) #[true, true, true, true, true, true, false, true, true, true, true, false, false, false, false, false, false, false, false, false, false, false, false, false, false, false, false, false, false, false, false] (any_of HT_.out (by kernel_rfl)) ?_
                    refine pu_ (i := 11) (N := some 41) #[true, true, true, true, true, true, false, true, true, true, true, true, false, false, false, false, false, false, false, false, false, false, false, false, false, false, false, false, false, false, false] (any_of HT_.out (by kernel_rfl)) ?_
                    refine pu_ (i := 12) (N := some 42) #[true, true, true, true, true, true, false, true, true, true, true, true, true, false, false, false, false, false, false, false, false, false, false, false, false, false, false, false, false, false, false] (any_of HT_.out (by kernel_rfl)) ?_
                    refine pu_ (i := 14) (N := some 44) #[true, true, true, true, true, true, false, true, true, true, true, true, true, false, true, false, false, false, false, false, false, false, false, false, false, false, false, false, false, false, false] (any_of HT_.out (by kernel_rfl)) ?_
                    refine pu_ (i := 15) (N := some 45) #[true, true, true, true, true, true, false, true, true, true, true, true, true, false, true, true, false, false, false, false, false, false, false, false, false, false, false, false, false, false, false] (any_of HT_.out (by kernel_rfl)) ?_
                    refine pu_ (i := 16) (N := some 46) #[true, true, true, true, true, true, false, true, true, true, true, true, true, false, true, true, true, false, false, false, false, false, false, false, false, false, false, false, false, false, false] (any_of HT_.out (by kernel_rfl)) ?_
                    refine pu_ (i := 17) (N := some 47) #[true, true, true, true, true, true, false, true, true, true, true, true, true, false, true, true, true, true, false, false, false, false, false, false, false, false, false, false, false, false, false] (any_of HT_.out (by kernel_rfl)) ?_
                    refine pu_ (i := 18) (N := some 48) #[true, true, true, true, true, true, false, true, true, true, true, true, true, false, true, true, true, true, true, false, false, false, false, false, false, false, false, false, false, false, false] (any_of HT_.out (by kernel_rfl)) ?_
                    refine pu_ (i := 19) (N := some 49) #[true, true, true, true, true, true, false, true, true, true, true, true, true, false, true, true, true, true, true, true, false, false, false, false, false, false, false, false, false, false, false] (any_of HT_.out (by kernel_rfl)) ?_
                    refine pu_ (i := 21) (N := some 51) #[true, true, true, true, true, true, false, true, true, true, true, true, true, false, true, true, true, true, true, true, false, true, false, false, false, false, false, false, false, false, false] (any_of HT_.out (by kernel_rfl)) ?_
                    refine pu_ (i := 22) (N := some 52) #[true, true, true, true, true, true, false, true, true, true, true, true, true, false, true, true, true, true, true, true, false, true, true, false, false, false, false, false, false, false, false] (any_of HT_.out (by kernel_rfl)) ?_
                    refine pu_ (i := 23) (N := some 53) #[true, true, true, true, true, true, false, true, true, true, true, true, true, false, true, true, true, true, true, true, false, true, true, true, false, false, false, false, false, false, false] (any_of HT_.out (by kernel_rfl)) ?_
                    refine pu_ (i := 24) (N := some 54) #[true, true, true, true, true, true, false, true, true, true, true, true, true, false, true, true, true, true, true, true, false, true, true, true, true, false, false, false, false, false, false] (any_of HT_.out (by kernel_rfl)) ?_
                    refine pu_ (i := 25) (N := some 55) #[true, true, true, true, true, true, false, true, true, true, true, true, true, false, true, true, true, true, true, true, false, true, true, true, true, true, false, false, false, false, false] (any_of HT_.out (by kernel_rfl)) ?_
                    refine pu_ (i := 26) (N := some 56) #[true, true, true, true, true, true, false, true, true, true, true, true, true, false, true, true, true, true, true, true, false, true, true, true, true, true, true, false, false, false, false] (any_of HT_.out (by kernel_rfl)) ?_
                    refine join_ (σ := Nat) 1 #[true, true, true, true, true, true, true, true, true, true, true, true, true, true, true, true, true, true, true, true, true, true, true, true, true, true, true, true, true, true, false] (fun s_ => [(36, .int .i64 t138), (43, .int .i64 t139), (50, .int .i64 t140), (57, .int .i64 t141), (7, .pointer (some ⟨s_, 0, none⟩)), (58, .agg #[.int .i64 t138, .int .i64 t139, .int .i64 t140, .int .i64 t141, .slice none 0 0])]) (fun s_ w' => (w'.heap[gb136]? = some (.cells #[.int .i64 0, .int .i64 0, .int .i64 0, .int .i64 0, .slice none 0 0] 44 (0, 0))) ∧ (w'.heap[s_]? = some (.cells #[.int .i64 0, .int .i64 0, .int .i64 0, .int .i64 0, .slice none 0 0] 44 (0, 0))) ∧ (w.heap.size ≤ s_) ∧ (w.heap.size ≤ s_) ∧ (gb136 ≠ s_) ∧ (s_ ≠ gb136) ∧ (Below w.heap.size w w')) ?_ ?_
                    rotate_left
                    ·intro hJ6_13_20_27_29
                     refine join_ (σ := Unit) 2 #[true, true, true, true, true, true, true, true, true, true, true, true, true, true, true, true, true, true, true, true, true, true, true, true, true, true, true, true, true, false, false] (fun s_ => [(36, .int .i64 t138), (43, .int .i64 t139), (50, .int .i64 t140), (57, .int .i64 t141), (58, .agg #[.int .i64 t138, .int .i64 t139, .int .i64 t140, .int .i64 t141, .slice none 0 0])]) (fun s_ w' => (w'.heap[gb136]? = some (.cells #[.int .i64 0, .int .i64 0, .int .i64 0, .int .i64 0, .slice none 0 0] 44 (0, 0))) ∧ (Below w.heap.size w w')) ?_ ?_
                     rotate_left
                     ·intro hJ6_13_20_27
                      refine join_ (σ := Nat) 3 #[true, true, true, true, true, true, true, true, true, true, true, true, true, true, true, true, true, true, true, true, true, true, true, true, true, true, true, false, false, true, false] (fun s_ => [(36, .int .i64 t138), (43, .int .i64 t139), (50, .int .i64 t140), (7, .pointer (some ⟨s_, 0, none⟩))]) (fun s_ w' => (w'.heap[gb136]? = some (.cells #[.int .i64 0, .int .i64 0, .int .i64 0, .int .i64 0, .slice none 0 0] 44 (0, 0))) ∧ (w'.heap[s_]? = some (.cells #[.int .i64 0, .int .i64 0, .int .i64 0, .int .i64 0, .slice none 0 0] 44 (0, 0))) ∧ (w.heap.size ≤ s_) ∧ (w.heap.size ≤ s_) ∧ (gb136 ≠ s_) ∧ (s_ ≠ gb136) ∧ (Below w.heap.size w w')) ?_ ?_
                      rotate_left
                      ·intro hJ6_13_20_29
                       refine join_ (σ := Unit) 4 #[true, true, true, true, true, true, true, true, true, true, true, true, true, true, true, true, true, true, true, true, true, true, true, true, true, true, true, false, false, false, false] (fun s_ => [(36, .int .i64 t138), (43, .int .i64 t139), (50, .int .i64 t140)]) (fun s_ w' => (w'.heap[gb136]? = some (.cells #[.int .i64 0, .int .i64 0, .int .i64 0, .int .i64 0, .slice none 0 0] 44 (0, 0))) ∧ (Below w.heap.size w w')) ?_ ?_
                       rotate_left
                       ·intro hJ6_13_20
                        refine join_ (σ := Nat) 4 #[true, true, true, true, true, true, true, true, true, true, true, true, true, true, true, true, true, true, true, true, false, true, true, true, true, true, true, false, false, true, false] (fun s_ => [(36, .int .i64 t138), (43, .int .i64 t139), (7, .pointer (some ⟨s_, 0, none⟩))]) (fun s_ w' => (w'.heap[gb136]? = some (.cells #[.int .i64 0, .int .i64 0, .int .i64 0, .int .i64 0, .slice none 0 0] 44 (0, 0))) ∧ (w'.heap[s_]? = some (.cells #[.int .i64 0, .int .i64 0, .int .i64 0, .int .i64 0, .slice none 0 0] 44 (0, 0))) ∧ (w.heap.size ≤ s_) ∧ (w.heap.size ≤ s_) ∧ (gb136 ≠ s_) ∧ (s_ ≠ gb136) ∧ (Below w.heap.size w w')) ?_ ?_
                        rotate_left
                        ·intro hJ6_13_29
                         refine join_ (σ := Unit) 5 #[true, true, true, true, true, true, true, true, true, true, true, true, true, true, true, true, true, true, true, true, false, true, true, true, true, true, true, false, false, false, false] (fun s_ => [(36, .int .i64 t138), (43, .int .i64 t139)]) (fun s_ w' => (w'.heap[gb136]? = some (.cells #[.int .i64 0, .int .i64 0, .int .i64 0, .int .i64 0, .slice none 0 0] 44 (0, 0))) ∧ (Below w.heap.size w w')) ?_ ?_
                         rotate_left
                         ·intro hJ6_13
                          refine join_ (σ := Nat) 5 #[true, true, true, true, true, true, true, true, true, true, true, true, true, false, true, true, true, true, true, true, false, true, true, true, true, true, true, false, false, true, false] (fun s_ => [(36, .int .i64 t138), (7, .pointer (some ⟨s_, 0, none⟩))]) (fun s_ w' => (w'.heap[gb136]? = some (.cells #[.int .i64 0, .int .i64 0, .int .i64 0, .int .i64 0, .slice none 0 0] 44 (0, 0))) ∧ (w'.heap[s_]? = some (.cells #[.int .i64 0, .int .i64 0, .int .i64 0, .int .i64 0, .slice none 0 0] 44 (0, 0))) ∧ (w.heap.size ≤ s_) ∧ (w.heap.size ≤ s_) ∧ (gb136 ≠ s_) ∧ (s_ ≠ gb136) ∧ (Below w.heap.size w w')) ?_ ?_
                          rotate_left
                          ·intro hJ6_29
                           refine join_ (σ := Unit) 6 #[true, true, true, true, true, true, true, true, true, true, true, true, true, false, true, true, true, true, true, true, false, true, true, true, true, true, true, false, false, false, false] (fun s_ => [(36, .int .i64 t138)]) (fun s_ w' => (w'.heap[gb136]? = some (.cells #[.int .i64 0, .int .i64 0, .int .i64 0, .int .i64 0, .slice none 0 0] 44 (0, 0))) ∧ (Below w.heap.size w w')) ?_ ?_
                           rotate_left
                           ·intro hJ6
                            refine join_ (σ := Nat) 6 #[true, true, true, true, true, true, false, true, true, true, true, true, true, false, true, true, true, true, true, true, false, true, true, true, true, true, true, false, false, true, false] (fun s_ => [(7, .pointer (some ⟨s_, 0, none⟩))]) (fun s_ w' => (w'.heap[gb136]? = some (.cells #[.int .i64 0, .int .i64 0, .int .i64 0, .int .i64 0, .slice none 0 0] 44 (0, 0))) ∧ (w'.heap[s_]? = some (.cells #[.int .i64 0, .int .i64 0, .int .i64 0, .int .i64 0, .slice none 0 0] 44 (0, 0))) ∧ (w.heap.size ≤ s_) ∧ (w.heap.size ≤ s_) ∧ (gb136 ≠ s_) ∧ (s_ ≠ gb136) ∧ (Below w.heap.size w w')) ?_ ?_
                            rotate_left
                            ·intro hJ29
                             refine two_ (i := 6) (j := 29) (Ni := some 36) (Nj := some 7) #[true, true, true, true, true, true, true, true, true, true, true, true, true, false, true, true, true, true, true, true, false, true, true, true, true, true, true, false, false, false, false] #[true, true, true, true, true, true, false, true, true, true, true, true, true, false, true, true, true, true, true, true, false, true, true, true, true, true, true, false, false, true, false] rfl rfl rfl rfl (two_of HT_.out (by kernel_rfl)) (by decide) (by decide) (fun K hK => ?_) (fun K hK => ?_)
                             ·skip
                              refine goes_ Try.func97 (by kernel_rfl) rfl #[.string (a0.extract ((ji13) : Int).toNat ((ji18) : Int).toNat)] (by rfl) rfl rfl (by (try simp only [List.map_toArray, List.map_cons, List.map_nil]); first | done | (simp only [hji13, hji18]; rfl) | rfl | (simp only [List.length_drop, List.length_take]; rfl)) ?_
                              with_reducible refine (spec_l1Value.calls k (a0.extract ((ji13) : Int).toNat ((ji18) : Int).toNat) t138 _ A17.out).mono ?_
                              rintro e w' ⟨rfl, ⟨nd, rfl⟩⟩
                              refine ⟨_, rfl, ?_⟩
                              refine hK.out _ _ trivial (fun hHeld => ?_)
                              clear hK K
                              refine no_ ?_
                              exact nq_ (hJ6 () _ ⟨(kb_ BK136.out), (hs_ GE136.out)⟩)
                             ·skip
                              refine box_step ?hg (N := 7) ?hd (cs := #[.int .i64 0, .int .i64 0, .int .i64 0, .int .i64 0, .slice none 0 0]) (t := 44) ?hr ?_; (case hd => rfl); (case hg => rfl); (case hr => first | (go_simp; done) | (go_simp; rfl))
                              intro gb142 hg w39 hbox hb
                              have n0_ := Aside0.mk (blk_below (g := gb136) (o := .cells #[.int .i64 0, .int .i64 0, .int .i64 0, .int .i64 0, .slice none 0 0] 44 (0, 0)) (kb_ BK136.out) hb)
                              have n1_ := Aside0.mk (below_step (hs_ GE136.out) hb)
                              have n2_ := Aside0.mk (hbox)
                              have n3_ := Aside0.mk ((by rw [hg]; exact (below_size (hs_ GE136.out)) : w.heap.size ≤ gb142))
                              have n4_ := Aside0.mk ((by rw [hg]; exact (below_size (hs_ GE136.out)) : w.heap.size ≤ gb142))
                              have n5_ := Aside0.mk ((by rw [hg]; exact Nat.ne_of_lt (blk_lt (g := gb136) (o := .cells #[.int .i64 0, .int .i64 0, .int .i64 0, .int .i64 0, .slice none 0 0] 44 (0, 0)) (kb_ BK136.out)) : gb136 ≠ gb142))
                              have n6_ := Aside0.mk ((by rw [hg]; exact Nat.ne_of_gt (blk_lt (g := gb136) (o := .cells #[.int .i64 0, .int .i64 0, .int .i64 0, .int .i64 0, .slice none 0 0] 44 (0, 0)) (kb_ BK136.out)) : gb142 ≠ gb136))
                              clear BK136
                              clear HB
                              have BK136 := n0_
                              have HB := n1_
                              have BK142 := n2_
                              have GW142 := n3_
                              have GE142 := n4_
                              have NB136_142 := n5_
                              have NB142_136 := n6_
                              clear n0_ n1_ n2_ n3_ n4_ n5_ n6_
                              clear hb hbox hg
                              refine hK.out _ _ trivial (fun hHeld => ?_)
                              clear hK K
                              refine no_ ?_
                              exact nq_ (hJ29 (gb142) _ ⟨(kb_ BK136.out), (kb_ BK142.out), GW142.out, GE142.out, NB136_142.out, NB142_136.out, (hs2_ GE136.out GE142.out)⟩)
                            ·skip
                             rintro gb142 w40 ⟨h0_, h1_, h2_, h3_, h4_, h5_, h6_⟩
                             have n0_ : Aside0 (w40.heap[gb136]? = some (.cells #[.int .i64 0, .int .i64 0, .int .i64 0, .int .i64 0, .slice none 0 0] 44 (0, 0))) := ⟨h0_⟩
                             have n1_ : Aside0 (w40.heap[gb142]? = some (.cells #[.int .i64 0, .int .i64 0, .int .i64 0, .int .i64 0, .slice none 0 0] 44 (0, 0))) := ⟨h1_⟩
                             have n2_ : Aside0 (w.heap.size ≤ gb142) := ⟨h2_⟩
                             have n3_ : Aside0 (w.heap.size ≤ gb142) := ⟨h3_⟩
                             have n4_ : Aside0 (gb136 ≠ gb142) := ⟨h4_⟩
                             have n5_ : Aside0 (gb142 ≠ gb136) := ⟨h5_⟩
                             have n6_ : Aside0 (Below w.heap.size w w40) := ⟨h6_⟩
                             clear BK136
                             clear HB
                             clear h0_ h1_ h2_ h3_ h4_ h5_ h6_
                             have BK136 := n0_
                             have BK142 := n1_
                             have GW142 := n2_
                             have GE142 := n3_
                             have NB136_142 := n4_
                             have NB142_136 := n5_
                             have HB := n6_
                             clear n0_ n1_ n2_ n3_ n4_ n5_ n6_
                             have hHeld := trivial
                             refine np_ ?_
                             refine one_ (i := 6) (N := some 36) #[true, true, true, true, true, true, true, true, true, true, true, true, true, false, true, true, true, true, true, true, false, true, true, true, true, true, true, false, false, true, false] rfl rfl (one_of HT_.out (by kernel_rfl)) (by decide) (fun K hK => ?_)
                             refine goes_ Try.func97 (by kernel_rfl) rfl #[.string (a0.extract ((ji13) : Int).toNat ((ji18) : Int).toNat)] (by rfl) rfl rfl (by (try simp only [List.map_toArray, List.map_cons, List.map_nil]); first | done | (simp only [hji13, hji18]; rfl) | rfl | (simp only [List.length_drop, List.length_take]; rfl)) ?_
                             with_reducible refine (spec_l1Value.calls k (a0.extract ((ji13) : Int).toNat ((ji18) : Int).toNat) t138 _ A17.out).mono ?_
                             rintro e w' ⟨rfl, ⟨nd, rfl⟩⟩
                             refine ⟨_, rfl, ?_⟩
                             refine hK.out _ _ trivial (fun hHeld => ?_)
                             clear hK K
                             refine no_ ?_
                             exact nq_ (hJ6_29 (gb142) _ ⟨(kb_ BK136.out), (kb_ BK142.out), GW142.out, GE142.out, NB136_142.out, NB142_136.out, (hs2_ GE136.out GE142.out)⟩)
                           ·skip
                            rintro _ w39 ⟨h0_, h1_⟩
                            have n0_ : Aside0 (w39.heap[gb136]? = some (.cells #[.int .i64 0, .int .i64 0, .int .i64 0, .int .i64 0, .slice none 0 0] 44 (0, 0))) := ⟨h0_⟩
                            have n1_ : Aside0 (Below w.heap.size w w39) := ⟨h1_⟩
                            clear BK136
                            clear HB
                            clear h0_ h1_
                            have BK136 := n0_
                            have HB := n1_
                            clear n0_ n1_
                            have hHeld := trivial
                            refine np_ ?_
                            refine two_ (i := 13) (j := 29) (Ni := some 43) (Nj := some 7) #[true, true, true, true, true, true, true, true, true, true, true, true, true, true, true, true, true, true, true, true, false, true, true, true, true, true, true, false, false, false, false] #[true, true, true, true, true, true, true, true, true, true, true, true, true, false, true, true, true, true, true, true, false, true, true, true, true, true, true, false, false, true, false] rfl rfl rfl rfl (two_of HT_.out (by kernel_rfl)) (by decide) (by decide) (fun K hK => ?_) (fun K hK => ?_)
                            ·skip
                             refine goes_ Try.func97 (by kernel_rfl) rfl #[.string (a0.extract ((ji18) : Int).toNat ((ji23) : Int).toNat)] (by rfl) rfl rfl (by (try simp only [List.map_toArray, List.map_cons, List.map_nil]); first | done | (simp only [hji18, hji23]; rfl) | rfl | (simp only [List.length_drop, List.length_take]; rfl)) ?_
                             with_reducible refine (spec_l1Value.calls k (a0.extract ((ji18) : Int).toNat ((ji23) : Int).toNat) t139 _ A22.out).mono ?_
                             rintro e w' ⟨rfl, ⟨nd, rfl⟩⟩
                             refine ⟨_, rfl, ?_⟩
                             refine hK.out _ _ trivial (fun hHeld => ?_)
                             clear hK K
                             refine no_ ?_
                             exact nq_ (hJ6_13 () _ ⟨(kb_ BK136.out), (hs_ GE136.out)⟩)
                            ·skip
                             refine box_step ?hg (N := 7) ?hd (cs := #[.int .i64 0, .int .i64 0, .int .i64 0, .int .i64 0, .slice none 0 0]) (t := 44) ?hr ?_; (case hd => rfl); (case hg => rfl); (case hr => first | (go_simp; done) | (go_simp; rfl))
                             intro gb142 hg w40 hbox hb
                             have n0_ := Aside0.mk (blk_below (g := gb136) (o := .cells #[.int .i64 0, .int .i64 0, .int .i64 0, .int .i64 0, .slice none 0 0] 44 (0, 0)) (kb_ BK136.out) hb)
                             have n1_ := Aside0.mk (below_step (hs_ GE136.out) hb)
                             have n2_ := Aside0.mk (hbox)
                             have n3_ := Aside0.mk ((by rw [hg]; exact (below_size (hs_ GE136.out)) : w.heap.size ≤ gb142))
                             have n4_ := Aside0.mk ((by rw [hg]; exact (below_size (hs_ GE136.out)) : w.heap.size ≤ gb142))
                             have n5_ := Aside0.mk ((by rw [hg]; exact Nat.ne_of_lt (blk_lt (g := gb136) (o := .cells #[.int .i64 0, .int .i64 0, .int .i64 0, .int .i64 0, .slice none 0 0] 44 (0, 0)) (kb_ BK136.out)) : gb136 ≠ gb142))
                             have n6_ := Aside0.mk ((by rw [hg]; exact Nat.ne_of_gt (blk_lt (g := gb136) (o := .cells #[.int .i64 0, .int .i64 0, .int .i64 0, .int .i64 0, .slice none 0 0] 44 (0, 0)) (kb_ BK136.out)) : gb142 ≠ gb136))
                             clear BK136
                             clear HB
                             have BK136 := n0_
                             have HB := n1_
                             have BK142 := n2_
                             have GW142 := n3_
                             have GE142 := n4_
                             have NB136_142 := n5_
                             have NB142_136 := n6_
                             clear n0_ n1_ n2_ n3_ n4_ n5_ n6_
                             clear hb hbox hg
                             refine hK.out _ _ trivial (fun hHeld => ?_)
                             clear hK K
                             refine no_ ?_
                             exact nq_ (hJ6_29 (gb142) _ ⟨(kb_ BK136.out), (kb_ BK142.out), GW142.out, GE142.out, NB136_142.out, NB142_136.out, (hs2_ GE136.out GE142.out)⟩)
                          ·skip
                           rintro gb142 w40 ⟨h0_, h1_, h2_, h3_, h4_, h5_, h6_⟩
                           have n0_ : Aside0 (w40.heap[gb136]? = some (.cells #[.int .i64 0, .int .i64 0, .int .i64 0, .int .i64 0, .slice none 0 0] 44 (0, 0))) := ⟨h0_⟩
                           have n1_ : Aside0 (w40.heap[gb142]? = some (.cells #[.int .i64 0, .int .i64 0, .int .i64 0, .int .i64 0, .slice none 0 0] 44 (0, 0))) := ⟨h1_⟩
                           have n2_ : Aside0 (w.heap.size ≤ gb142) := ⟨h2_⟩
                           have n3_ : Aside0 (w.heap.size ≤ gb142) := ⟨h3_⟩
                           have n4_ : Aside0 (gb136 ≠ gb142) := ⟨h4_⟩
                           have n5_ : Aside0 (gb142 ≠ gb136) := ⟨h5_⟩
                           have n6_ : Aside0 (Below w.heap.size w w40) := ⟨h6_⟩
                           clear BK136
                           clear HB
                           clear h0_ h1_ h2_ h3_ h4_ h5_ h6_
                           have BK136 := n0_
                           have BK142 := n1_
                           have GW142 := n2_
                           have GE142 := n3_
                           have NB136_142 := n4_
                           have NB142_136 := n5_
                           have HB := n6_
                           clear n0_ n1_ n2_ n3_ n4_ n5_ n6_
                           have hHeld := trivial
                           refine np_ ?_
                           refine one_ (i := 13) (N := some 43) #[true, true, true, true, true, true, true, true, true, true, true, true, true, true, true, true, true, true, true, true, false, true, true, true, true, true, true, false, false, true, false] rfl rfl (one_of HT_.out (by kernel_rfl)) (by decide) (fun K hK => ?_)
                           refine goes_ Try.func97 (by kernel_rfl) rfl #[.string (a0.extract ((ji18) : Int).toNat ((ji23) : Int).toNat)] (by rfl) rfl rfl (by (try simp only [List.map_toArray, List.map_cons, List.map_nil]); first | done | (simp only [hji18, hji23]; rfl) | rfl | (simp only [List.length_drop, List.length_take]; rfl)) ?_
                           with_reducible refine (spec_l1Value.calls k (a0.extract ((ji18) : Int).toNat ((ji23) : Int).toNat) t139 _ A22.out).mono ?_
                           rintro e w' ⟨rfl, ⟨nd, rfl⟩⟩
                           refine ⟨_, rfl, ?_⟩
                           refine hK.out _ _ trivial (fun hHeld => ?_)
                           clear hK K
                           refine no_ ?_
                           exact nq_ (hJ6_13_29 (gb142) _ ⟨(kb_ BK136.out), (kb_ BK142.out), GW142.out, GE142.out, NB136_142.out, NB142_136.out, (hs2_ GE136.out GE142.out)⟩)
                         ·skip
                          rintro _ w39 ⟨h0_, h1_⟩
                          have n0_ : Aside0 (w39.heap[gb136]? = some (.cells #[.int .i64 0, .int .i64 0, .int .i64 0, .int .i64 0, .slice none 0 0] 44 (0, 0))) := ⟨h0_⟩
                          have n1_ : Aside0 (Below w.heap.size w w39) := ⟨h1_⟩
                          clear BK136
                          clear HB
                          clear h0_ h1_
                          have BK136 := n0_
                          have HB := n1_
                          clear n0_ n1_
                          have hHeld := trivial
                          refine np_ ?_
                          refine two_ (i := 20) (j := 29) (Ni := some 50) (Nj := some 7) #[true, true, true, true, true, true, true, true, true, true, true, true, true, true, true, true, true, true, true, true, true, true, true, true, true, true, true, false, false, false, false] #[true, true, true, true, true, true, true, true, true, true, true, true, true, true, true, true, true, true, true, true, false, true, true, true, true, true, true, false, false, true, false] rfl rfl rfl rfl (two_of HT_.out (by kernel_rfl)) (by decide) (by decide) (fun K hK => ?_) (fun K hK => ?_)
                          ·skip
                           refine goes_ Try.func97 (by kernel_rfl) rfl #[.string (a0.extract ((ji23) : Int).toNat ((ji28) : Int).toNat)] (by rfl) rfl rfl (by (try simp only [List.map_toArray, List.map_cons, List.map_nil]); first | done | (simp only [hji23, hji28]; rfl) | rfl | (simp only [List.length_drop, List.length_take]; rfl)) ?_
                           with_reducible refine (spec_l1Value.calls k (a0.extract ((ji23) : Int).toNat ((ji28) : Int).toNat) t140 _ A27.out).mono ?_
                           rintro e w' ⟨rfl, ⟨nd, rfl⟩⟩
                           refine ⟨_, rfl, ?_⟩
                           refine hK.out _ _ trivial (fun hHeld => ?_)
                           clear hK K
                           refine no_ ?_
                           exact nq_ (hJ6_13_20 () _ ⟨(kb_ BK136.out), (hs_ GE136.out)⟩)
                          ·skip
                           refine box_step ?hg (N := 7) ?hd (cs := #[.int .i64 0, .int .i64 0, .int .i64 0, .int .i64 0, .slice none 0 0]) (t := 44) ?hr ?_; (case hd => rfl); (case hg => rfl); (case hr => first | (go_simp; done) | (go_simp; rfl))
                           intro gb142 hg w40 hbox hb
                           have n0_ := Aside0.mk (blk_below (g := gb136) (o := .cells #[.int .i64 0, .int .i64 0, .int .i64 0, .int .i64 0, .slice none 0 0] 44 (0, 0)) (kb_ BK136.out) hb)
                           have n1_ := Aside0.mk (below_step (hs_ GE136.out) hb)
                           have n2_ := Aside0.mk (hbox)
                           have n3_ := Aside0.mk ((by rw [hg]; exact (below_size (hs_ GE136.out)) : w.heap.size ≤ gb142))
                           have n4_ := Aside0.mk ((by rw [hg]; exact (below_size (hs_ GE136.out)) : w.heap.size ≤ gb142))
                           have n5_ := Aside0.mk ((by rw [hg]; exact Nat.ne_of_lt (blk_lt (g := gb136) (o := .cells #[.int .i64 0, .int .i64 0, .int .i64 0, .int .i64 0, .slice none 0 0] 44 (0, 0)) (kb_ BK136.out)) : gb136 ≠ gb142))
                           have n6_ := Aside0.mk ((by rw [hg]; exact Nat.ne_of_gt (blk_lt (g := gb136) (o := .cells #[.int .i64 0, .int .i64 0, .int .i64 0, .int .i64 0, .slice none 0 0] 44 (0, 0)) (kb_ BK136.out)) : gb142 ≠ gb136))
                           clear BK136
                           clear HB
                           have BK136 := n0_
                           have HB := n1_
                           have BK142 := n2_
                           have GW142 := n3_
                           have GE142 := n4_
                           have NB136_142 := n5_
                           have NB142_136 := n6_
                           clear n0_ n1_ n2_ n3_ n4_ n5_ n6_
                           clear hb hbox hg
                           refine hK.out _ _ trivial (fun hHeld => ?_)
                           clear hK K
                           refine no_ ?_
                           exact nq_ (hJ6_13_29 (gb142) _ ⟨(kb_ BK136.out), (kb_ BK142.out), GW142.out, GE142.out, NB136_142.out, NB142_136.out, (hs2_ GE136.out GE142.out)⟩)
                        ·skip
                         rintro gb142 w40 ⟨h0_, h1_, h2_, h3_, h4_, h5_, h6_⟩
                         have n0_ : Aside0 (w40.heap[gb136]? = some (.cells #[.int .i64 0, .int .i64 0, .int .i64 0, .int .i64 0, .slice none 0 0] 44 (0, 0))) := ⟨h0_⟩
                         have n1_ : Aside0 (w40.heap[gb142]? = some (.cells #[.int .i64 0, .int .i64 0, .int .i64 0, .int .i64 0, .slice none 0 0] 44 (0, 0))) := ⟨h1_⟩
                         have n2_ : Aside0 (w.heap.size ≤ gb142) := ⟨h2_⟩
                         have n3_ : Aside0 (w.heap.size ≤ gb142) := ⟨h3_⟩
                         have n4_ : Aside0 (gb136 ≠ gb142) := ⟨h4_⟩
                         have n5_ : Aside0 (gb142 ≠ gb136) := ⟨h5_⟩
                         have n6_ : Aside0 (Below w.heap.size w w40) := ⟨h6_⟩
                         clear BK136
                         clear HB
                         clear h0_ h1_ h2_ h3_ h4_ h5_ h6_
                         have BK136 := n0_
                         have BK142 := n1_
                         have GW142 := n2_
                         have GE142 := n3_
                         have NB136_142 := n4_
                         have NB142_136 := n5_
                         have HB := n6_
                         clear n0_ n1_ n2_ n3_ n4_ n5_ n6_
                         have hHeld := trivial
                         refine np_ ?_
                         refine one_ (i := 20) (N := some 50) #[true, true, true, true, true, true, true, true, true, true, true, true, true, true, true, true, true, true, true, true, true, true, true, true, true, true, true, false, false, true, false] rfl rfl (one_of HT_.out (by kernel_rfl)) (by decide) (fun K hK => ?_)
                         refine goes_ Try.func97 (by kernel_rfl) rfl #[.string (a0.extract ((ji23) : Int).toNat ((ji28) : Int).toNat)] (by rfl) rfl rfl (by (try simp only [List.map_toArray, List.map_cons, List.map_nil]); first | done | (simp only [hji23, hji28]; rfl) | rfl | (simp only [List.length_drop, List.length_take]; rfl)) ?_
                         with_reducible refine (spec_l1Value.calls k (a0.extract ((ji23) : Int).toNat ((ji28) : Int).toNat) t140 _ A27.out).mono ?_
                         rintro e w' ⟨rfl, ⟨nd, rfl⟩⟩
                         refine ⟨_, rfl, ?_⟩
                         refine hK.out _ _ trivial (fun hHeld => ?_)
                         clear hK K
                         refine no_ ?_
                         exact nq_ (hJ6_13_20_29 (gb142) _ ⟨(kb_ BK136.out), (kb_ BK142.out), GW142.out, GE142.out, NB136_142.out, NB142_136.out, (hs2_ GE136.out GE142.out)⟩)
                       ·skip
                        rintro _ w39 ⟨h0_, h1_⟩
                        have n0_ : Aside0 (w39.heap[gb136]? = some (.cells #[.int .i64 0, .int .i64 0, .int .i64 0, .int .i64 0, .slice none 0 0] 44 (0, 0))) := ⟨h0_⟩
                        have n1_ : Aside0 (Below w.heap.size w w39) := ⟨h1_⟩
                        clear BK136
                        clear HB
                        clear h0_ h1_
                        have BK136 := n0_
                        have HB := n1_
                        clear n0_ n1_
                        have hHeld := trivial
                        refine np_ ?_
                        refine two_ (i := 27) (j := 29) (Ni := some 57) (Nj := some 7) #[true, true, true, true, true, true, true, true, true, true, true, true, true, true, true, true, true, true, true, true, true, true, true, true, true, true, true, true, false, false, false] #[true, true, true, true, true, true, true, true, true, true, true, true, true, true, true, true, true, true, true, true, true, true, true, true, true, true, true, false, false, true, false] rfl rfl rfl rfl (two_of HT_.out (by kernel_rfl)) (by decide) (by decide) (fun K hK => ?_) (fun K hK => ?_)
                        ·skip
                         refine goes_ Try.func97 (by kernel_rfl) rfl #[.string (a0.extract ((ji28) : Int).toNat ((ji33) : Int).toNat)] (by rfl) rfl rfl (by (try simp only [List.map_toArray, List.map_cons, List.map_nil]); first | done | (simp only [hji28, hji33]; rfl) | rfl | (simp only [List.length_drop, List.length_take]; rfl)) ?_
                         with_reducible refine (spec_l1Value.calls k (a0.extract ((ji28) : Int).toNat ((ji33) : Int).toNat) t141 _ A32.out).mono ?_
                         rintro e w' ⟨rfl, ⟨nd, rfl⟩⟩
                         refine ⟨_, rfl, ?_⟩
                         refine hK.out _ _ trivial (fun hHeld => ?_)
                         clear hK K
                         refine no_ ?_
                         refine pu_ (i := 28) (N := some 58) #[true, true, true, true, true, true, true, true, true, true, true, true, true, true, true, true, true, true, true, true, true, true, true, true, true, true, true, true, true, false, false] (any_of HT_.out (by kernel_rfl)) ?_
                         exact nq_ (hJ6_13_20_27 () _ ⟨(kb_ BK136.out), (hs_ GE136.out)⟩)
                        ·skip
                         refine box_step ?hg (N := 7) ?hd (cs := #[.int .i64 0, .int .i64 0, .int .i64 0, .int .i64 0, .slice none 0 0]) (t := 44) ?hr ?_; (case hd => rfl); (case hg => rfl); (case hr => first | (go_simp; done) | (go_simp; rfl))
                         intro gb142 hg w40 hbox hb
                         have n0_ := Aside0.mk (blk_below (g := gb136) (o := .cells #[.int .i64 0, .int .i64 0, .int .i64 0, .int .i64 0, .slice none 0 0] 44 (0, 0)) (kb_ BK136.out) hb)
                         have n1_ := Aside0.mk (below_step (hs_ GE136.out) hb)
                         have n2_ := Aside0.mk (hbox)
                         have n3_ := Aside0.mk ((by rw [hg]; exact (below_size (hs_ GE136.out)) : w.heap.size ≤ gb142))
                         have n4_ := Aside0.mk ((by rw [hg]; exact (below_size (hs_ GE136.out)) : w.heap.size ≤ gb142))
                         have n5_ := Aside0.mk ((by rw [hg]; exact Nat.ne_of_lt (blk_lt (g := gb136) (o := .cells #[.int .i64 0, .int .i64 0, .int .i64 0, .int .i64 0, .slice none 0 0] 44 (0, 0)) (kb_ BK136.out)) : gb136 ≠ gb142))
                         have n6_ := Aside0.mk ((by rw [hg]; exact Nat.ne_of_gt (blk_lt (g := gb136) (o := .cells #[.int .i64 0, .int .i64 0, .int .i64 0, .int .i64 0, .slice none 0 0] 44 (0, 0)) (kb_ BK136.out)) : gb142 ≠ gb136))
                         clear BK136
                         clear HB
                         have BK136 := n0_
                         have HB := n1_
                         have BK142 := n2_
                         have GW142 := n3_
                         have GE142 := n4_
                         have NB136_142 := n5_
                         have NB142_136 := n6_
                         clear n0_ n1_ n2_ n3_ n4_ n5_ n6_
                         clear hb hbox hg
                         refine hK.out _ _ trivial (fun hHeld => ?_)
                         clear hK K
                         refine no_ ?_
                         exact nq_ (hJ6_13_20_29 (gb142) _ ⟨(kb_ BK136.out), (kb_ BK142.out), GW142.out, GE142.out, NB136_142.out, NB142_136.out, (hs2_ GE136.out GE142.out)⟩)
                      ·skip
                       rintro gb142 w40 ⟨h0_, h1_, h2_, h3_, h4_, h5_, h6_⟩
                       have n0_ : Aside0 (w40.heap[gb136]? = some (.cells #[.int .i64 0, .int .i64 0, .int .i64 0, .int .i64 0, .slice none 0 0] 44 (0, 0))) := ⟨h0_⟩
                       have n1_ : Aside0 (w40.heap[gb142]? = some (.cells #[.int .i64 0, .int .i64 0, .int .i64 0, .int .i64 0, .slice none 0 0] 44 (0, 0))) := ⟨h1_⟩
                       have n2_ : Aside0 (w.heap.size ≤ gb142) := ⟨h2_⟩
                       have n3_ : Aside0 (w.heap.size ≤ gb142) := ⟨h3_⟩
                       have n4_ : Aside0 (gb136 ≠ gb142) := ⟨h4_⟩
                       have n5_ : Aside0 (gb142 ≠ gb136) := ⟨h5_⟩
                       have n6_ : Aside0 (Below w.heap.size w w40) := ⟨h6_⟩
                       clear BK136
                       clear HB
                       clear h0_ h1_ h2_ h3_ h4_ h5_ h6_
                       have BK136 := n0_
                       have BK142 := n1_
                       have GW142 := n2_
                       have GE142 := n3_
                       have NB136_142 := n4_
                       have NB142_136 := n5_
                       have HB := n6_
                       clear n0_ n1_ n2_ n3_ n4_ n5_ n6_
                       have hHeld := trivial
                       refine np_ ?_
                       refine one_ (i := 27) (N := some 57) #[true, true, true, true, true, true, true, true, true, true, true, true, true, true, true, true, true, true, true, true, true, true, true, true, true, true, true, true, false, true, false] rfl rfl (one_of HT_.out (by kernel_rfl)) (by decide) (fun K hK => ?_)
                       refine goes_ Try.func97 (by kernel_rfl) rfl #[.string (a0.extract ((ji28) : Int).toNat ((ji33) : Int).toNat)] (by rfl) rfl rfl (by (try simp only [List.map_toArray, List.map_cons, List.map_nil]); first | done | (simp only [hji28, hji33]; rfl) | rfl | (simp only [List.length_drop, List.length_take]; rfl)) ?_
                       with_reducible refine (spec_l1Value.calls k (a0.extract ((ji28) : Int).toNat ((ji33) : Int).toNat) t141 _ A32.out).mono ?_
                       rintro e w' ⟨rfl, ⟨nd, rfl⟩⟩
                       refine ⟨_, rfl, ?_⟩
                       refine hK.out _ _ trivial (fun hHeld => ?_)
                       clear hK K
                       refine no_ ?_
                       refine pu_ (i := 28) (N := some 58) #[true, true, true, true, true, true, true, true, true, true, true, true, true, true, true, true, true, true, true, true, true, true, true, true, true, true, true, true, true, true, false] (any_of HT_.out (by kernel_rfl)) ?_
                       exact nq_ (hJ6_13_20_27_29 (gb142) _ ⟨(kb_ BK136.out), (kb_ BK142.out), GW142.out, GE142.out, NB136_142.out, NB142_136.out, (hs2_ GE136.out GE142.out)⟩)
                     ·skip
                      rintro _ w39 ⟨h0_, h1_⟩
                      have n0_ : Aside0 (w39.heap[gb136]? = some (.cells #[.int .i64 0, .int .i64 0, .int .i64 0, .int .i64 0, .slice none 0 0] 44 (0, 0))) := ⟨h0_⟩
                      have n1_ : Aside0 (Below w.heap.size w w39) := ⟨h1_⟩
                      clear BK136
                      clear HB
                      clear h0_ h1_
                      have BK136 := n0_
                      have HB := n1_
                      clear n0_ n1_
                      have hHeld := trivial
                      refine np_ ?_
                      refine one_ (i := 29) (N := some 7) #[true, true, true, true, true, true, true, true, true, true, true, true, true, true, true, true, true, true, true, true, true, true, true, true, true, true, true, true, true, true, false] rfl rfl (one_of HT_.out (by kernel_rfl)) (by decide) (fun K hK => ?_)
                      refine box_step ?hg (N := 7) ?hd (cs := #[.int .i64 0, .int .i64 0, .int .i64 0, .int .i64 0, .slice none 0 0]) (t := 44) ?hr ?_; (case hd => rfl); (case hg => rfl); (case hr => first | (go_simp; done) | (go_simp; rfl))
                      intro gb142 hg w40 hbox hb
                      have n0_ := Aside0.mk (blk_below (g := gb136) (o := .cells #[.int .i64 0, .int .i64 0, .int .i64 0, .int .i64 0, .slice none 0 0] 44 (0, 0)) (kb_ BK136.out) hb)
                      have n1_ := Aside0.mk (below_step (hs_ GE136.out) hb)
                      have n2_ := Aside0.mk (hbox)
                      have n3_ := Aside0.mk ((by rw [hg]; exact (below_size (hs_ GE136.out)) : w.heap.size ≤ gb142))
                      have n4_ := Aside0.mk ((by rw [hg]; exact (below_size (hs_ GE136.out)) : w.heap.size ≤ gb142))
                      have n5_ := Aside0.mk ((by rw [hg]; exact Nat.ne_of_lt (blk_lt (g := gb136) (o := .cells #[.int .i64 0, .int .i64 0, .int .i64 0, .int .i64 0, .slice none 0 0] 44 (0, 0)) (kb_ BK136.out)) : gb136 ≠ gb142))
                      have n6_ := Aside0.mk ((by rw [hg]; exact Nat.ne_of_gt (blk_lt (g := gb136) (o := .cells #[.int .i64 0, .int .i64 0, .int .i64 0, .int .i64 0, .slice none 0 0] 44 (0, 0)) (kb_ BK136.out)) : gb142 ≠ gb136))
                      clear BK136
                      clear HB
                      have BK136 := n0_
                      have HB := n1_
                      have BK142 := n2_
                      have GW142 := n3_
                      have GE142 := n4_
                      have NB136_142 := n5_
                      have NB142_136 := n6_
                      clear n0_ n1_ n2_ n3_ n4_ n5_ n6_
                      clear hb hbox hg
                      refine hK.out _ _ trivial (fun hHeld => ?_)
                      clear hK K
                      refine no_ ?_
                      exact nq_ (hJ6_13_20_27_29 (gb142) _ ⟨(kb_ BK136.out), (kb_ BK142.out), GW142.out, GE142.out, NB136_142.out, NB142_136.out, (hs2_ GE136.out GE142.out)⟩)
                    rintro gb142 w40 ⟨h0_, h1_, h2_, h3_, h4_, h5_, h6_⟩
                    have n0_ : Aside0 (w40.heap[gb136]? = some (.cells #[.int .i64 0, .int .i64 0, .int .i64 0, .int .i64 0, .slice none 0 0] 44 (0, 0))) := ⟨h0_⟩
                    have n1_ : Aside0 (w40.heap[gb142]? = some (.cells #[.int .i64 0, .int .i64 0, .int .i64 0, .int .i64 0, .slice none 0 0] 44 (0, 0))) := ⟨h1_⟩
                    have n2_ : Aside0 (w.heap.size ≤ gb142) := ⟨h2_⟩
                    have n3_ : Aside0 (w.heap.size ≤ gb142) := ⟨h3_⟩
                    have n4_ : Aside0 (gb136 ≠ gb142) := ⟨h4_⟩
                    have n5_ : Aside0 (gb142 ≠ gb136) := ⟨h5_⟩
                    have n6_ : Aside0 (Below w.heap.size w w40) := ⟨h6_⟩
                    clear BK136
                    clear HB
                    clear h0_ h1_ h2_ h3_ h4_ h5_ h6_
                    have BK136 := n0_
                    have BK142 := n1_
                    have GW142 := n2_
                    have GE142 := n3_
                    have NB136_142 := n4_
                    have NB142_136 := n5_
                    have HB := n6_
                    clear n0_ n1_ n2_ n3_ n4_ n5_ n6_
                    have hHeld := trivial
                    refine np_ ?_
                    refine one_ (i := 30) (N := none) #[true, true, true, true, true, true, true, true, true, true, true, true, true, true, true, true, true, true, true, true, true, true, true, true, true, true, true, true, true, true, true] rfl rfl (one_of HT_.out (by kernel_rfl)) (by decide) (fun K hK => ?_)
                    have hs41 : w40.cell? ⟨gb142, 0, none⟩ = some (.int .i64 0) := (blk_cell BK142.out 0).trans rfl
                    have hfs41 := blk_frozen BK142.out 0
                    have hns41_0 := NB136_142.out
                    have hms41_0 := NB142_136.out
                    have hs42 : w40.cell? ⟨gb142, 1, none⟩ = some (.int .i64 0) := (blk_cell BK142.out 1).trans rfl
                    have hfs42 := blk_frozen BK142.out 1
                    have hns42_0 := NB136_142.out
                    have hms42_0 := NB142_136.out
                    have hs43 : w40.cell? ⟨gb142, 2, none⟩ = some (.int .i64 0) := (blk_cell BK142.out 2).trans rfl
                    have hfs43 := blk_frozen BK142.out 2
                    have hns43_0 := NB136_142.out
                    have hms43_0 := NB142_136.out
                    have hs44 : w40.cell? ⟨gb142, 3, none⟩ = some (.int .i64 0) := (blk_cell BK142.out 3).trans rfl
                    have hfs44 := blk_frozen BK142.out 3
                    have hns44_0 := NB136_142.out
                    have hms44_0 := NB142_136.out
                    have hs45 : w40.cell? ⟨gb142, 4, none⟩ = some (.slice none 0 0) := (blk_cell BK142.out 4).trans rfl
                    have hfs45 := blk_frozen BK142.out 4
                    have hns45_0 := NB136_142.out
                    have hms45_0 := NB142_136.out
                    refine skip_ (w1 := ?_) (by rfl) rfl ?_ ?_
                    rotate_left
                    ·go_simp
                     rfl
                    refine hK.out _ _ trivial (fun hHeld => ?_)
                    clear hK K
                    refine done_ (done_of HT_.out (by kernel_rfl)) ?_
                    have p36 : 0 ≤ ((ji33) : Int) := of_decide_eq_true (by first | (with_reducible assumption) | assumption)
                    have q36 : (ji33) < (a0.size : Int) := of_decide_eq_true (by first | (with_reducible assumption) | assumption)
                    have hx36 := bt_at a0 (ji33)
                    replace p36 := eq_true p36
                    replace q36 := eq_true q36
                    try go_wp2
                    go_loopg [8, 9] k (fun kq v8 v9 w' => ∃ (x8_1 : Int) (x9_1 : Int) (x137000_1 : Int) (x137001_1 : Int) (x137002_1 : Int) (x137003_1 : Int) (x143004_1 : List ByteArray) (u143004 : Value), v8 = .int .i64 x8_1 ∧ v9 = .int .i64 x9_1 ∧ Aside0 (spec_l1Take.l0 kq a0 a1 (wrap64 ((ji13) + t137)) x8_1 x9_1 t138 t139 t140 t141 x143004_1 = some (r1, r2, r3, r4, r5, r6)) ∧ Aside0 (kq ≤ k) ∧ Aside0 (Kd.R Kd.string 9 w' w.heap.size (fun _ => True) u143004 x143004_1) ∧ Aside0 (w'.heap[gb136]? = some (.cells #[.int .i64 x137000_1, .int .i64 x137001_1, .int .i64 x137002_1, .int .i64 x137003_1, (.slice none 0 0)] 44 (0, 0))) ∧ Aside0 (w'.heap[gb142]? = some (.cells #[.int .i64 t138, .int .i64 t139, .int .i64 t140, .int .i64 t141, u143004] 44 (0, 0))) ∧ Aside0 (Below w.heap.size w w'))
                    case atStart => exact ⟨(wrap64 (a1 + 12)), (wrap64 (bt a0 (ji33))), (0), (0), (0), (0), (([] : List ByteArray)), (.slice none 0 0), (by first | rfl | (simp; done) | (simp [*]; done)), (by first | rfl | (simp; done) | (simp only [← hji33] <;> (first | rfl | simp)) | (simp [*]; done)), H', ⟨Nat.le_refl _⟩, ⟨by first | exact Kd.R_nil _ _ _ _ _ | exact Kd.N_nil _ _ _ _ _ | exact Kd.V_nil _ _ _ _ _ | exact Kd.Q_nil _ _ _ _ _ | exact Kd.S_nil _ _ _ _ _⟩, ⟨by (with_reducible repeat (first | refine blk_drewN ?_ _ | refine blk_drew ?_ | refine blk_alloc ?_ _)); refine blk_far ?_ NB136_142.out _; (with_reducible repeat (first | refine blk_drewN ?_ _ | refine blk_drew ?_ | refine blk_alloc ?_ _)); refine blk_far ?_ NB136_142.out _; (with_reducible repeat (first | refine blk_drewN ?_ _ | refine blk_drew ?_ | refine blk_alloc ?_ _)); refine blk_far ?_ NB136_142.out _; (with_reducible repeat (first | refine blk_drewN ?_ _ | refine blk_drew ?_ | refine blk_alloc ?_ _)); refine blk_far ?_ NB136_142.out _; (with_reducible repeat (first | refine blk_drewN ?_ _ | refine blk_drew ?_ | refine blk_alloc ?_ _)); refine blk_far ?_ NB136_142.out _; (with_reducible repeat (first | refine blk_drewN ?_ _ | refine blk_drew ?_ | refine blk_alloc ?_ _)); exact BK136.out⟩, ⟨by (with_reducible repeat (first | refine blk_drewN ?_ _ | refine blk_drew ?_ | refine blk_alloc ?_ _)); refine blk_put (cs := #[.int .i64 t138, .int .i64 t139, .int .i64 t140, .int .i64 t141, .slice none 0 0]) ?_ 4 _ rfl; (with_reducible repeat (first | refine blk_drewN ?_ _ | refine blk_drew ?_ | refine blk_alloc ?_ _)); refine blk_put (cs := #[.int .i64 t138, .int .i64 t139, .int .i64 t140, .int .i64 0, .slice none 0 0]) ?_ 3 _ rfl; (with_reducible repeat (first | refine blk_drewN ?_ _ | refine blk_drew ?_ | refine blk_alloc ?_ _)); refine blk_put (cs := #[.int .i64 t138, .int .i64 t139, .int .i64 0, .int .i64 0, .slice none 0 0]) ?_ 2 _ rfl; (with_reducible repeat (first | refine blk_drewN ?_ _ | refine blk_drew ?_ | refine blk_alloc ?_ _)); refine blk_put (cs := #[.int .i64 t138, .int .i64 0, .int .i64 0, .int .i64 0, .slice none 0 0]) ?_ 1 _ rfl; (with_reducible repeat (first | refine blk_drewN ?_ _ | refine blk_drew ?_ | refine blk_alloc ?_ _)); refine blk_put (cs := #[.int .i64 0, .int .i64 0, .int .i64 0, .int .i64 0, .slice none 0 0]) ?_ 0 _ rfl; (with_reducible repeat (first | refine blk_drewN ?_ _ | refine blk_drew ?_ | refine blk_alloc ?_ _)); exact BK142.out⟩, ⟨hs2_ GE136.out GE142.out⟩⟩
                    case round =>
                     clear H'
                     try clear p2
                     try clear p3
                     try clear q3
                     try clear hx3
                     try clear p6
                     try clear c9
                     try clear p36
                     try clear q36
                     try clear hx36
                     try clear p36
                     try clear q36
                     obtain ⟨x8_1, x9_1, x137000_1, x137001_1, x137002_1, x137003_1, x143004_1, u143004, rfl, rfl, HA, HK1, HO_143004, BK136, BK142, HB⟩ := hrel
                     cases gk with
                     | zero => exact absurd HA.out (by simp [spec_l1Take.l0])
                     | succ k1 =>
                      have H := HA.out
                      clear HA
                      simp only [spec_l1Take.l0] at H
                      by_cases c46 : x9_1 > 0
                      ·rw [if_pos c46] at H
                       have c46b0 : decide (0 < x9_1) = true := decide_eq_true c46
                       clear c46
                       by_cases c47 : x8_1 ≥ (wrap64 ((ji13) + t137))
                       ·rw [if_pos c47] at H
                        have c47b0 : decide ((wrap64 ((ji13) + t137)) ≤ x8_1) = true := decide_eq_true c47
                        clear c47
                        simp only [Option.some.injEq, Prod.mk.injEq] at H
                        obtain ⟨rfl, rfl, rfl, rfl, rfl, rfl⟩ := H
                        have hnb48 := NB136_142.out
                        have hnc48 := NB142_136.out
                        have hcz49_0 : wr.cell? ⟨gb136, 0, none⟩ = some (.int .i64 x137000_1) := (blk_cell BK136.out 0).trans rfl
                        have hcz49_1 : wr.cell? ⟨gb136, 1, none⟩ = some (.int .i64 x137001_1) := (blk_cell BK136.out 1).trans rfl
                        have hcz49_2 : wr.cell? ⟨gb136, 2, none⟩ = some (.int .i64 x137002_1) := (blk_cell BK136.out 2).trans rfl
                        have hcz49_3 : wr.cell? ⟨gb136, 3, none⟩ = some (.int .i64 x137003_1) := (blk_cell BK136.out 3).trans rfl
                        have hcz49_4 : wr.cell? ⟨gb136, 4, none⟩ = some (.slice none 0 0) := (blk_cell BK136.out 4).trans rfl
                        have hfz49_0 := blk_frozen BK136.out 0
                        have hfz49_1 := blk_frozen BK136.out 1
                        have hfz49_2 := blk_frozen BK136.out 2
                        have hfz49_3 := blk_frozen BK136.out 3
                        have hfz49_4 := blk_frozen BK136.out 4
                        go_wp2
                        refine bodyPost_ret (results_ct rfl _ _ gb136 44 #[.int .i64 0, .int .i64 0, .int .i64 0, .int .i64 0, .slice none 0 0] (0, 0) _ rfl (by (with_reducible repeat (first | refine blk_drewN ?_ _ | refine blk_drew ?_ | refine blk_alloc ?_ _)); refine blk_put (cs := #[.int .i64 0, .int .i64 0, .int .i64 0, .int .i64 0, .slice none 0 0]) ?_ 4 _ rfl; (with_reducible repeat (first | refine blk_drewN ?_ _ | refine blk_drew ?_ | refine blk_alloc ?_ _)); refine blk_put (cs := #[.int .i64 0, .int .i64 0, .int .i64 0, .int .i64 x137003_1, .slice none 0 0]) ?_ 3 _ rfl; (with_reducible repeat (first | refine blk_drewN ?_ _ | refine blk_drew ?_ | refine blk_alloc ?_ _)); refine blk_put (cs := #[.int .i64 0, .int .i64 0, .int .i64 x137002_1, .int .i64 x137003_1, .slice none 0 0]) ?_ 2 _ rfl; (with_reducible repeat (first | refine blk_drewN ?_ _ | refine blk_drew ?_ | refine blk_alloc ?_ _)); refine blk_put (cs := #[.int .i64 0, .int .i64 x137001_1, .int .i64 x137002_1, .int .i64 x137003_1, .slice none 0 0]) ?_ 1 _ rfl; (with_reducible repeat (first | refine blk_drewN ?_ _ | refine blk_drew ?_ | refine blk_alloc ?_ _)); refine blk_put (cs := #[.int .i64 x137000_1, .int .i64 x137001_1, .int .i64 x137002_1, .int .i64 x137003_1, .slice none 0 0]) ?_ 0 _ rfl; (with_reducible repeat (first | refine blk_drewN ?_ _ | refine blk_drew ?_ | refine blk_alloc ?_ _)); exact BK136.out) Try.underlying44 rfl (by kernel_rfl)) rfl ?_
                        exact ⟨_, by first | rfl | (simp [errW_none, errW_some] <;> rfl) | (simp only [← hji13, ← hji18, ← hji23, ← hji28, ← hji33]; first | rfl | (simp [errW_none, errW_some] <;> rfl)) | (simp [*, errW_none, errW_some] <;> rfl), by first | exact Kd.R_nil _ _ _ _ _ | exact Kd.N_nil _ _ _ _ _ | exact Kd.V_nil _ _ _ _ _ | exact Kd.Q_nil _ _ _ _ _ | exact Kd.S_nil _ _ _ _ _, hs2_ GE136.out GE142.out⟩
                       ·rw [if_neg c47] at H
                        have c47b0 : decide ((wrap64 ((ji13) + t137)) ≤ x8_1) = false := decide_eq_false c47
                        clear c47
                        by_cases c50 : 0 ≤ x8_1
                        ·rw [if_pos c50] at H
                         have c50b0 : decide (0 ≤ x8_1) = true := decide_eq_true c50
                         clear c50
                         by_cases c51 : x8_1 < (a0.size : Int)
                         ·rw [if_pos c51] at H
                          have c51b0 : decide (x8_1 < (a0.size : Int)) = true := decide_eq_true c51
                          clear c51
                          by_cases c53 : (wrap64 (bt a0 x8_1)) > (wrap64 ((wrap64 ((wrap64 ((ji13) + t137)) - x8_1)) - 1))
                          ·rw [if_pos c53] at H
                           have c53b0 : decide ((wrap64 ((wrap64 ((wrap64 ((ji13) + t137)) - x8_1)) - 1)) < (wrap64 (bt a0 x8_1))) = true := decide_eq_true c53
                           clear c53
                           simp only [Option.some.injEq, Prod.mk.injEq] at H
                           obtain ⟨rfl, rfl, rfl, rfl, rfl, rfl⟩ := H
                           have p52 : 0 ≤ (x8_1 : Int) := of_decide_eq_true (by first | (with_reducible assumption) | assumption)
                           have q52 : x8_1 < (a0.size : Int) := of_decide_eq_true (by first | (with_reducible assumption) | assumption)
                           have hx52 := bt_at a0 x8_1
                           replace p52 := eq_true p52
                           replace q52 := eq_true q52
                           have hnb54 := NB136_142.out
                           have hnc54 := NB142_136.out
                           have hcz55_0 : wr.cell? ⟨gb136, 0, none⟩ = some (.int .i64 x137000_1) := (blk_cell BK136.out 0).trans rfl
                           have hcz55_1 : wr.cell? ⟨gb136, 1, none⟩ = some (.int .i64 x137001_1) := (blk_cell BK136.out 1).trans rfl
                           have hcz55_2 : wr.cell? ⟨gb136, 2, none⟩ = some (.int .i64 x137002_1) := (blk_cell BK136.out 2).trans rfl
                           have hcz55_3 : wr.cell? ⟨gb136, 3, none⟩ = some (.int .i64 x137003_1) := (blk_cell BK136.out 3).trans rfl
                           have hcz55_4 : wr.cell? ⟨gb136, 4, none⟩ = some (.slice none 0 0) := (blk_cell BK136.out 4).trans rfl
                           have hfz55_0 := blk_frozen BK136.out 0
                           have hfz55_1 := blk_frozen BK136.out 1
                           have hfz55_2 := blk_frozen BK136.out 2
                           have hfz55_3 := blk_frozen BK136.out 3
                           have hfz55_4 := blk_frozen BK136.out 4
                           go_wp2
                           refine bodyPost_ret (results_ct rfl _ _ gb136 44 #[.int .i64 0, .int .i64 0, .int .i64 0, .int .i64 0, .slice none 0 0] (0, 0) _ rfl (by (with_reducible repeat (first | refine blk_drewN ?_ _ | refine blk_drew ?_ | refine blk_alloc ?_ _)); refine blk_put (cs := #[.int .i64 0, .int .i64 0, .int .i64 0, .int .i64 0, .slice none 0 0]) ?_ 4 _ rfl; (with_reducible repeat (first | refine blk_drewN ?_ _ | refine blk_drew ?_ | refine blk_alloc ?_ _)); refine blk_put (cs := #[.int .i64 0, .int .i64 0, .int .i64 0, .int .i64 x137003_1, .slice none 0 0]) ?_ 3 _ rfl; (with_reducible repeat (first | refine blk_drewN ?_ _ | refine blk_drew ?_ | refine blk_alloc ?_ _)); refine blk_put (cs := #[.int .i64 0, .int .i64 0, .int .i64 x137002_1, .int .i64 x137003_1, .slice none 0 0]) ?_ 2 _ rfl; (with_reducible repeat (first | refine blk_drewN ?_ _ | refine blk_drew ?_ | refine blk_alloc ?_ _)); refine blk_put (cs := #[.int .i64 0, .int .i64 x137001_1, .int .i64 x137002_1, .int .i64 x137003_1, .slice none 0 0]) ?_ 1 _ rfl; (with_reducible repeat (first | refine blk_drewN ?_ _ | refine blk_drew ?_ | refine blk_alloc ?_ _)); refine blk_put (cs := #[.int .i64 x137000_1, .int .i64 x137001_1, .int .i64 x137002_1, .int .i64 x137003_1, .slice none 0 0]) ?_ 0 _ rfl; (with_reducible repeat (first | refine blk_drewN ?_ _ | refine blk_drew ?_ | refine blk_alloc ?_ _)); exact BK136.out) Try.underlying44 rfl (by kernel_rfl)) rfl ?_
                           exact ⟨_, by first | rfl | (simp [errW_none, errW_some] <;> rfl) | (simp only [← hji13, ← hji18, ← hji23, ← hji28, ← hji33]; first | rfl | (simp [errW_none, errW_some] <;> rfl)) | (simp [*, errW_none, errW_some] <;> rfl), by first | exact Kd.R_nil _ _ _ _ _ | exact Kd.N_nil _ _ _ _ _ | exact Kd.V_nil _ _ _ _ _ | exact Kd.Q_nil _ _ _ _ _ | exact Kd.S_nil _ _ _ _ _, hs2_ GE136.out GE142.out⟩
                          ·rw [if_neg c53] at H
                           have c53b0 : decide ((wrap64 ((wrap64 ((wrap64 ((ji13) + t137)) - x8_1)) - 1)) < (wrap64 (bt a0 x8_1))) = false := decide_eq_false c53
                           clear c53
                           obtain ⟨ji57, hji57⟩ : ∃ j_ : Int, (wrap64 (x8_1 + 1)) = j_ := ⟨_, rfl⟩
                           replace H : (if 0 ≤ (ji57) then (if (ji57) ≤ (wrap64 ((ji57) + (wrap64 (bt a0 x8_1)))) then (if (wrap64 ((ji57) + (wrap64 (bt a0 x8_1)))) ≤ (a0.size : Int) then (if x143004_1.length < 8796093022208 then (spec_l1Take.l0 k1 a0 a1 (wrap64 ((ji13) + t137)) (wrap64 (x8_1 + (wrap64 (1 + (wrap64 (bt a0 x8_1)))))) (wrap64 (x9_1 - 1)) t138 t139 t140 t141 (x143004_1 ++ [a0.extract ((ji57) : Int).toNat ((wrap64 ((ji57) + (wrap64 (bt a0 x8_1)))) : Int).toNat])) else (none)) else (none)) else (none)) else (none)) = some (r1, r2, r3, r4, r5, r6) := by first | (rw [hji57] at H; exact H) | (simp only [hji57] at H ⊢; exact H)
                           have hji57w : (IntKind.i64.wrap (x8_1 + 1)) = ji57 := (i64_w _).trans hji57
                           by_cases c58 : 0 ≤ (ji57)
                           ·rw [if_pos c58] at H
                            have c58b0 := eq_true c58
                            have c58b1 : decide (0 ≤ (ji57)) = true := decide_eq_true c58
                            clear c58
                            by_cases c59 : (ji57) ≤ (wrap64 ((ji57) + (wrap64 (bt a0 x8_1))))
                            ·rw [if_pos c59] at H
                             have c59b0 := eq_true c59
                             have c59b1 : decide ((ji57) ≤ (wrap64 ((ji57) + (wrap64 (bt a0 x8_1))))) = true := decide_eq_true c59
                             by_cases c60 : (wrap64 ((ji57) + (wrap64 (bt a0 x8_1)))) ≤ (a0.size : Int)
                             ·rw [if_pos c60] at H
                              have c60b0 := eq_true c60
                              have c60b1 : decide ((wrap64 ((ji57) + (wrap64 (bt a0 x8_1)))) ≤ (a0.size : Int)) = true := decide_eq_true c60
                              by_cases c61 : x143004_1.length < 8796093022208
                              ·rw [if_pos c61] at H
                               have LMc61 := Aside0.mk c61
                               clear c61
                               obtain ⟨y143, hy143⟩ : ∃ y_ : List ByteArray, y_ = (x143004_1 ++ [a0.extract ((ji57) : Int).toNat ((wrap64 ((ji57) + (wrap64 (bt a0 x8_1)))) : Int).toNat]) := ⟨_, rfl⟩
                               replace H : (spec_l1Take.l0 k1 a0 a1 (wrap64 ((ji13) + t137)) (wrap64 (x8_1 + (wrap64 (1 + (wrap64 (bt a0 x8_1)))))) (wrap64 (x9_1 - 1)) t138 t139 t140 t141 y143) = some (r1, r2, r3, r4, r5, r6) := by first | (rw [hy143]; with_reducible exact H) | (have H2_ := (Option.bind_some _ _).symm.trans H; rw [hy143]; with_reducible exact H2_) | (have H2_ := (Option.bind_some _ _).symm.trans H; with_reducible exact H2_) | with_reducible exact H | (rw [hy143]; exact H) | exact H
                               have Ny143 := Aside0.mk hy143
                               clear hy143
                               have H' := Aside0.mk H
                               clear H
                               have p52 : 0 ≤ (x8_1 : Int) := of_decide_eq_true (by first | (with_reducible assumption) | assumption)
                               have q52 : x8_1 < (a0.size : Int) := of_decide_eq_true (by first | (with_reducible assumption) | assumption)
                               have hx52 := bt_at a0 x8_1
                               replace p52 := eq_true p52
                               replace q52 := eq_true q52
                               try go_wp2
                               have n0_ := Aside0.mk (Kd.R_drew HO_143004.out)
                               have n1_ := Aside0.mk (blk_drew BK136.out)
                               have n2_ := Aside0.mk (blk_drew BK142.out)
                               have n3_ := Aside0.mk (below_drew1 HB.out)
                               clear HO_143004
                               clear BK136
                               clear BK142
                               clear HB
                               have HO_143004 := n0_
                               have BK136 := n1_
                               have BK142 := n2_
                               have HB := n3_
                               clear n0_ n1_ n2_ n3_
                               have p56 : 0 ≤ (x8_1 : Int) := of_decide_eq_true (by first | (with_reducible assumption) | assumption)
                               have q56 : x8_1 < (a0.size : Int) := of_decide_eq_true (by first | (with_reducible assumption) | assumption)
                               have hx56 := bt_at a0 x8_1
                               replace p56 := eq_true p56
                               replace q56 := eq_true q56
                               refine start_ (n := 17) (S := fun w' => w'.cell? ⟨gb142, 0, none⟩ = some (.int .i64 t138) ∧ w'.cell? ⟨gb142, 1, none⟩ = some (.int .i64 t139) ∧ w'.cell? ⟨gb142, 2, none⟩ = some (.int .i64 t140) ∧ w'.cell? ⟨gb142, 3, none⟩ = some (.int .i64 t141) ∧ w'.cell? ⟨gb142, 4, none⟩ = some (u143004)) (ds := [16]) #[false, false, false, false, false, false, false, false, false, false, false, false, false, false, false, false, false] (by kernel_rfl) rfl rfl ⟨(blk_cell BK142.out 0).trans rfl, (blk_cell BK142.out 1).trans rfl, (blk_cell BK142.out 2).trans rfl, (blk_cell BK142.out 3).trans rfl, (blk_cell BK142.out 4).trans rfl⟩ (fun hHeld => ?_); refine with_tabW spec_l1Take.tab13 spec_l1Take.bits13 (fun HT_ HW_ => ?_)
                               generalize wr.drew = w63 at HO_143004 BK136 BK142 HB hHeld ⊢
                               refine pu_ (i := 0) (N := some 85) #[true, false, false, false, false, false, false, false, false, false, false, false, false, false, false, false, false] (any_of HT_.out (by kernel_rfl)) ?_
                               refine pu_ (i := 2) (N := some 87) #[true, false, true, false, false, false, false, false, false, false, false, false, false, false, false, false, false] (any_of HT_.out (by kernel_rfl)) ?_
                               refine pu_ (i := 3) (N := some 88) #[true, false, true, true, false, false, false, false, false, false, false, false, false, false, false, false, false] (any_of HT_.out (by kernel_rfl)) ?_
                               refine pu_ (i := 4) (N := some 89) #[true, false, true, true, true, false, false, false, false, false, false, false, false, false, false, false, false] (any_of HT_.out (by kernel_rfl)) ?_
                               refine pu_ (i := 5) (N := some 90) #[true, false, true, true, true, true, false, false, false, false, false, false, false, false, false, false, false] (any_of HT_.out (by kernel_rfl)) ?_
                               refine pu_ (i := 6) (N := some 91) #[true, false, true, true, true, true, true, false, false, false, false, false, false, false, false, false, false] (any_of HT_.out (by kernel_rfl)) ?_
                               refine pu_ (i := 7) (N := some 92) #[true, false, true, true, true, true, true, true, false, false, false, false, false, false, false, false, false] (any_of HT_.out (by kernel_rfl)) ?_
                               refine pu_ (i := 8) (N := some 93) #[true, false, true, true, true, true, true, true, true, false, false, false, false, false, false, false, false] (any_of HT_.out (by kernel_rfl)) ?_
                               refine take_ (i := 1) (N := some 86) (v := ?_) (a' := ?_) #[true, true, true, true, true, true, true, true, true, false, false, false, false, false, false, false, false] rfl rfl (take_ofW HT_.out HW_.out (by kernel_rfl)) (fun _ _ _ h => h) (Or.inl ⟨by rfl, ?_⟩) hHeld ?_ ?_
                               rotate_left
                               ·rintro w' ⟨s0, s1, s2, s3, s4⟩
                                go_simp
                                with_reducible rfl
                               rotate_left
                               ·simp only [Act.put, List.setIfInBounds_toArray, List.set_cons_zero, List.set_cons_succ, i64_w, i32_w]
                                rfl
                               refine take_ (i := 9) (N := some 94) (v := ?_) (a' := ?_) #[true, true, true, true, true, true, true, true, true, true, false, false, false, false, false, false, false] rfl rfl (take_ofW HT_.out HW_.out (by kernel_rfl)) (fun _ _ _ h => h) (Or.inl ⟨by rfl, ?_⟩) hHeld ?_ ?_
                               rotate_left
                               ·rintro w' ⟨s0, s1, s2, s3, s4⟩
                                go_simp
                                with_reducible rfl
                               rotate_left
                               ·simp only [Act.put, List.setIfInBounds_toArray, List.set_cons_zero, List.set_cons_succ, i64_w, i32_w]
                                rfl
                               refine pu_ (i := 10) (N := some 95) #[true, true, true, true, true, true, true, true, true, true, true, false, false, false, false, false, false] (any_of HT_.out (by kernel_rfl)) ?_
                               refine pu_ (i := 11) (N := some 96) #[true, true, true, true, true, true, true, true, true, true, true, true, false, false, false, false, false] (any_of HT_.out (by kernel_rfl)) ?_
                               refine pu_ (i := 12) (N := some 97) #[true, true, true, true, true, true, true, true, true, true, true, true, true, false, false, false, false] (any_of HT_.out (by kernel_rfl)) ?_
                               refine one_ (i := 13) (N := some 98) #[true, true, true, true, true, true, true, true, true, true, true, true, true, true, false, false, false] rfl rfl (one_of HT_.out (by kernel_rfl)) (by decide) (fun K hK => ?_)
                               refine value_ (w1 := ?_) (v := ?_) (by rfl) rfl ?_ ?_
                               rotate_left 2
                               ·go_simp
                                constructor
                                ·rfl
                                ·rfl
                               refine hK.out _ _ ⟨(blk_cell (blk_alloc BK142.out _) 0).trans rfl, (blk_cell (blk_alloc BK142.out _) 1).trans rfl, (blk_cell (blk_alloc BK142.out _) 2).trans rfl, (blk_cell (blk_alloc BK142.out _) 3).trans rfl, (blk_cell (blk_alloc BK142.out _) 4).trans rfl⟩ (fun hHeld => ?_)
                               clear hK K
                               refine no_ ?_
                               refine one_ (i := 14) (N := some 99) #[true, true, true, true, true, true, true, true, true, true, true, true, true, true, true, false, false] rfl rfl (one_of HT_.out (by kernel_rfl)) (by decide) (fun K hK => ?_)
                               refine Kd.R_append_step Kd.string (w0 := w) w.heap.size (by rfl) (.tmp 86) (.tmp 98) 38 9 (.string ⟨#[]⟩) 16 rfl Try.underlying38 info9 rfl (by decide) (by omega) u143004 x143004_1 (a0.extract ((ji57) : Int).toNat ((wrap64 ((ji57) + (wrap64 (bt a0 x8_1)))) : Int).toNat) [.string (a0.extract ((ji57) : Int).toNat ((wrap64 ((ji57) + (wrap64 (bt a0 x8_1)))) : Int).toNat)] (fun _ => True) (fun _ => False) rfl rfl ?aP (fun _ hk => hk.elim) ?aF ?aO ?aB ?aS ?aL ?_
                               (case aP => exact rfl)
                               (case aB => exact (hs2_ GE136.out GE142.out))
                               (case aF => exact (fun _ _ => trivial))
                               (case aO => exact (kr_ HO_143004.out))
                               (case aS => exact (below_size (hs2_ GE136.out GE142.out)))
                               (case aL => have := LMc61.out; omega)
                               intro v144 w64 ho hb hg hat
                               rw [← Ny143.out] at ho
                               have n0_ := Aside0.mk (blk_grown (g := gb136) (o := .cells #[.int .i64 x137000_1, .int .i64 x137001_1, .int .i64 x137002_1, .int .i64 x137003_1, .slice none 0 0] 44 (0, 0)) (kb_ BK136.out) hg (Kd.R_ne HO_143004.out BK136.out (by decide)))
                               have n1_ := Aside0.mk (blk_grown (g := gb142) (o := .cells #[.int .i64 t138, .int .i64 t139, .int .i64 t140, .int .i64 t141, u143004] 44 (0, 0)) (kb_ BK142.out) hg (Kd.R_ne HO_143004.out BK142.out (by decide)))
                               have n2_ := Aside0.mk (hb)
                               have n3_ := Aside0.mk (ho)
                               clear BK136
                               clear BK142
                               clear HB
                               clear HO_143004
                               have BK136 := n0_
                               have BK142 := n1_
                               have HB := n2_
                               have HO145 := n3_
                               clear n0_ n1_ n2_ n3_
                               clear ho hb hg hat
                               obtain ⟨Ao65, co65, eo65⟩ := Kd.R_slice HO145.out
                               (first | subst eo65 | (injection eo65 with f1_ f2_ f3_; have f4_ := f1_.symm; have f5_ := f3_.symm; clear f1_ f2_ f3_; subst f4_; subst f5_))
                               refine hK.out _ _ ⟨(blk_cell BK142.out 0).trans rfl, (blk_cell BK142.out 1).trans rfl, (blk_cell BK142.out 2).trans rfl, (blk_cell BK142.out 3).trans rfl, (blk_cell BK142.out 4).trans rfl⟩ (fun hHeld => ?_)
                               clear hK K
                               refine no_ ?_
                               refine pu_ (i := 15) (N := some 100) #[true, true, true, true, true, true, true, true, true, true, true, true, true, true, true, true, false] (any_of HT_.out (by kernel_rfl)) ?_
                               refine last_ (i := 16) (N := none) #[true, true, true, true, true, true, true, true, true, true, true, true, true, true, true, true, true] rfl rfl (one_of HT_.out (by kernel_rfl)) (by decide) (fun K hK => ?_)
                               have hs66 : w64.cell? ⟨gb142, 4, none⟩ = some (u143004) := (blk_cell BK142.out 4).trans rfl
                               have hfs66 := blk_frozen BK142.out 4
                               have hns66_0 := NB136_142.out
                               have hms66_0 := NB142_136.out
                               refine skip_ (w1 := ?_) (by rfl) rfl ?_ ?_
                               rotate_left
                               ·go_simp
                                rfl
                               refine hK.out _ _ ?_
                               clear hK K
                               refine done_ (done_of HT_.out (by kernel_rfl)) ?_
                               have p62 : 0 ≤ (x8_1 : Int) := of_decide_eq_true (by first | (with_reducible assumption) | assumption)
                               have q62 : x8_1 < (a0.size : Int) := of_decide_eq_true (by first | (with_reducible assumption) | assumption)
                               have hx62 := bt_at a0 x8_1
                               replace p62 := eq_true p62
                               replace q62 := eq_true q62
                               try go_wp2
                               go_roundg k1
                               case measure => have := HK1.out; omega
                               case rel => exact ⟨(wrap64 (x8_1 + (wrap64 (1 + (wrap64 (bt a0 x8_1)))))), (wrap64 (x9_1 - 1)), (x137000_1), (x137001_1), (x137002_1), (x137003_1), (y143), (.slice Ao65 y143.length co65), (by first | rfl | (simp; done) | (simp [*]; done)), (by first | rfl | (simp; done) | (simp [*]; done)), H', ⟨by have := HK1.out; omega⟩, ⟨by (with_reducible repeat (first | apply Kd.R_alloc | apply Kd.R_drewN | apply Kd.R_drew)); exact Kd.R_mono (Kd.R_far (p := ⟨gb142, 4, none⟩) (Kd.R_types HO145.out BK142.out (by decide)) (fun _ hk => hk.2) (.slice Ao65 y143.length co65)) (fun _ hk => trivial)⟩, ⟨by (with_reducible repeat (first | refine blk_drewN ?_ _ | refine blk_drew ?_ | refine blk_alloc ?_ _)); refine blk_far ?_ NB136_142.out _; (with_reducible repeat (first | refine blk_drewN ?_ _ | refine blk_drew ?_ | refine blk_alloc ?_ _)); exact BK136.out⟩, ⟨by (with_reducible repeat (first | refine blk_drewN ?_ _ | refine blk_drew ?_ | refine blk_alloc ?_ _)); refine blk_put (cs := #[.int .i64 t138, .int .i64 t139, .int .i64 t140, .int .i64 t141, u143004]) ?_ 4 _ rfl; (with_reducible repeat (first | refine blk_drewN ?_ _ | refine blk_drew ?_ | refine blk_alloc ?_ _)); exact BK142.out⟩, ⟨hs2_ GE136.out GE142.out⟩⟩
                              ·rw [if_neg c61] at H
                               exact absurd H (by simp)
                             ·rw [if_neg c60] at H
                              exact absurd H (by simp)
                            ·rw [if_neg c59] at H
                             exact absurd H (by simp)
                           ·rw [if_neg c58] at H
                            exact absurd H (by simp)
                         ·rw [if_neg c51] at H
                          exact absurd H (by simp)
                        ·rw [if_neg c50] at H
                         exact absurd H (by simp)
                      ·rw [if_neg c46] at H
                       have c46b0 : decide (0 < x9_1) = false := decide_eq_false c46
                       clear c46
                       replace H := Option.bind_eq_some_iff.mp H
                       obtain ⟨t146, A670, H⟩ := H
                       replace H : (if t146 = true then ((spec_l1Batch.f k1 t138 t139 t140 t141 x143004_1).bind fun t147 => (if 0 ≤ a1 then (if a1 ≤ (wrap64 ((ji13) + t137)) then (if (wrap64 ((ji13) + t137)) ≤ (a0.size : Int) then (if t147.toList = (a0.extract (a1 : Int).toNat ((wrap64 ((ji13) + t137)) : Int).toNat).toList then (some (t138, t139, t140, t141, x143004_1, (wrap64 ((ji13) + t137)))) else (some (0, 0, 0, 0, ([] : List ByteArray), 0))) else (none)) else (none)) else (none))) else (some (0, 0, 0, 0, ([] : List ByteArray), 0))) = some (r1, r2, r3, r4, r5, r6) := H
                       have A67 := Aside0.mk A670
                       clear A670
                       by_cases c68 : t146 = true
                       ·subst c68
                        have H1 : ((spec_l1Batch.f k1 t138 t139 t140 t141 x143004_1).bind fun t147 => (if 0 ≤ a1 then (if a1 ≤ (wrap64 ((ji13) + t137)) then (if (wrap64 ((ji13) + t137)) ≤ (a0.size : Int) then (if t147.toList = (a0.extract (a1 : Int).toNat ((wrap64 ((ji13) + t137)) : Int).toNat).toList then (some (t138, t139, t140, t141, x143004_1, (wrap64 ((ji13) + t137)))) else (some (0, 0, 0, 0, ([] : List ByteArray), 0))) else (none)) else (none)) else (none))) = some (r1, r2, r3, r4, r5, r6) := by rw [if_pos rfl] at H; exact H
                        clear H
                        have H := H1
                        clear H1
                        replace H := Option.bind_eq_some_iff.mp H
                        obtain ⟨t147, A690, H⟩ := H
                        replace H : (if 0 ≤ a1 then (if a1 ≤ (wrap64 ((ji13) + t137)) then (if (wrap64 ((ji13) + t137)) ≤ (a0.size : Int) then (if t147.toList = (a0.extract (a1 : Int).toNat ((wrap64 ((ji13) + t137)) : Int).toNat).toList then (some (t138, t139, t140, t141, x143004_1, (wrap64 ((ji13) + t137)))) else (some (0, 0, 0, 0, ([] : List ByteArray), 0))) else (none)) else (none)) else (none)) = some (r1, r2, r3, r4, r5, r6) := H
                        have A69 := Aside0.mk A690
                        clear A690
                        by_cases c70 : 0 ≤ a1
                        ·rw [if_pos c70] at H
                         have c70b0 := eq_true c70
                         have c70b1 : decide (0 ≤ a1) = true := decide_eq_true c70
                         clear c70
                         by_cases c71 : a1 ≤ (wrap64 ((ji13) + t137))
                         ·rw [if_pos c71] at H
                          have c71b0 := eq_true c71
                          have c71b1 : decide (a1 ≤ (wrap64 ((ji13) + t137))) = true := decide_eq_true c71
                          by_cases c72 : (wrap64 ((ji13) + t137)) ≤ (a0.size : Int)
                          ·rw [if_pos c72] at H
                           have c72b0 := eq_true c72
                           have c72b1 : decide ((wrap64 ((ji13) + t137)) ≤ (a0.size : Int)) = true := decide_eq_true c72
                           by_cases c73 : t147.toList = (a0.extract (a1 : Int).toNat ((wrap64 ((ji13) + t137)) : Int).toNat).toList
                           ·rw [if_pos c73] at H
                            have c73b0 : (t147.toList == (a0.extract (a1 : Int).toNat ((wrap64 ((ji13) + t137)) : Int).toNat).toList) = true := beq_iff_eq.mpr c73
                            have c73b1 : (t147.toList != (a0.extract (a1 : Int).toNat ((wrap64 ((ji13) + t137)) : Int).toNat).toList) = false := bne_eq_false_iff_eq.mpr c73
                            clear c73
                            simp only [Option.some.injEq, Prod.mk.injEq] at H
                            obtain ⟨rfl, rfl, rfl, rfl, rfl, rfl⟩ := H
                            try go_wp2
                            have n0_ := Aside0.mk (Kd.R_drew HO_143004.out)
                            have n1_ := Aside0.mk (blk_drew BK136.out)
                            have n2_ := Aside0.mk (blk_drew BK142.out)
                            have n3_ := Aside0.mk (below_drew1 HB.out)
                            clear HO_143004
                            clear BK136
                            clear BK142
                            clear HB
                            have HO_143004 := n0_
                            have BK136 := n1_
                            have BK142 := n2_
                            have HB := n3_
                            clear n0_ n1_ n2_ n3_
                            obtain ⟨Ao75, co75, eo75⟩ := Kd.R_slice HO_143004.out
                            (first | subst eo75 | (injection eo75 with f1_ f2_ f3_; have f4_ := f1_.symm; have f5_ := f3_.symm; clear f1_ f2_ f3_; subst f4_; subst f5_))
                            refine start_ (n := 12) (S := fun w' => w'.cell? ⟨gb142, 0, none⟩ = some (.int .i64 t138) ∧ w'.cell? ⟨gb142, 1, none⟩ = some (.int .i64 t139) ∧ w'.cell? ⟨gb142, 2, none⟩ = some (.int .i64 t140) ∧ w'.cell? ⟨gb142, 3, none⟩ = some (.int .i64 t141) ∧ w'.cell? ⟨gb142, 4, none⟩ = some (.slice Ao75 x143004_1.length co75)) (ds := []) #[false, false, false, false, false, false, false, false, false, false, false, false] (by kernel_rfl) rfl rfl ⟨(blk_cell BK142.out 0).trans rfl, (blk_cell BK142.out 1).trans rfl, (blk_cell BK142.out 2).trans rfl, (blk_cell BK142.out 3).trans rfl, (blk_cell BK142.out 4).trans rfl⟩ (fun hHeld => ?_); refine with_tabW spec_l1Take.tab15 spec_l1Take.bits15 (fun HT_ HW_ => ?_)
                            generalize wr.drew = w74 at HO_143004 BK136 BK142 HB hHeld ⊢
                            refine take_ (i := 0) (N := some 108) (v := ?_) (a' := ?_) #[true, false, false, false, false, false, false, false, false, false, false, false] rfl rfl (take_ofW HT_.out HW_.out (by kernel_rfl)) (fun _ _ _ h => h) (Or.inl ⟨by rfl, ?_⟩) hHeld ?_ ?_
                            rotate_left
                            ·rintro w' ⟨s0, s1, s2, s3, s4⟩
                             go_simp
                             with_reducible rfl
                            rotate_left
                            ·simp only [Act.put, List.setIfInBounds_toArray, List.set_cons_zero, List.set_cons_succ, i64_w, i32_w]
                             rfl
                            refine one_ (i := 1) (N := some 109) #[true, true, false, false, false, false, false, false, false, false, false, false] rfl rfl (one_of HT_.out (by kernel_rfl)) (by decide) (fun K hK => ?_)
                            refine goes_ Try.func59 (by kernel_rfl) rfl #[.agg #[.int .i64 t138, .int .i64 t139, .int .i64 t140, .int .i64 t141, .slice Ao75 x143004_1.length co75]] (by rfl) rfl rfl (by (try simp only [List.map_toArray, List.map_cons, List.map_nil]); first | done | rfl | (simp only [List.length_drop, List.length_take]; rfl)) ?_
                            with_reducible refine (spec_GoodBatch.calls k1 t138 t139 t140 t141 _ _ x143004_1 true _ ?side1 ?side2 A67.out).mono ?_
                            (case side1 => repeat (first | exact (Kd.R_reads' HO_143004.out).2.2 | (with_reducible refine Kd.C_alloc ?_ _) | (with_reducible refine Kd.C_drewN ?_ _) | (with_reducible refine Kd.C_drew ?_)))
                            (case side2 => exact (Kd.R_reads' HO_143004.out).2.1)
                            rintro e w76 ⟨rfl, hb⟩
                            refine ⟨_, rfl, ?_⟩
                            have n0_ := Aside0.mk (Kd.R_below (kr_ HO_143004.out) hb)
                            have n1_ := Aside0.mk (blk_below (g := gb136) (o := .cells #[.int .i64 x137000_1, .int .i64 x137001_1, .int .i64 x137002_1, .int .i64 x137003_1, .slice none 0 0] 44 (0, 0)) (kb_ BK136.out) hb)
                            have n2_ := Aside0.mk (blk_below (g := gb142) (o := .cells #[.int .i64 t138, .int .i64 t139, .int .i64 t140, .int .i64 t141, .slice Ao75 x143004_1.length co75] 44 (0, 0)) (kb_ BK142.out) hb)
                            have n3_ := Aside0.mk (below_step (hs2_ GE136.out GE142.out) hb)
                            clear HO_143004
                            clear BK136
                            clear BK142
                            clear HB
                            have HO_143004 := n0_
                            have BK136 := n1_
                            have BK142 := n2_
                            have HB := n3_
                            clear n0_ n1_ n2_ n3_
                            (try clear hb)
                            (try clear hb2)
                            (try clear hk)
                            (try clear hi)
                            refine hK.out _ _ ⟨(blk_cell BK142.out 0).trans rfl, (blk_cell BK142.out 1).trans rfl, (blk_cell BK142.out 2).trans rfl, (blk_cell BK142.out 3).trans rfl, (blk_cell BK142.out 4).trans rfl⟩ (fun hHeld => ?_)
                            clear hK K
                            refine no_ ?_
                            refine pu_ (i := 2) (N := some 110) #[true, true, true, false, false, false, false, false, false, false, false, false] (any_of HT_.out (by kernel_rfl)) ?_
                            refine pu_ (i := 3) (N := some 111) #[true, true, true, true, false, false, false, false, false, false, false, false] (any_of HT_.out (by kernel_rfl)) ?_
                            refine pu_ (i := 6) (N := some 114) #[true, true, true, true, false, false, true, false, false, false, false, false] (any_of HT_.out (by kernel_rfl)) ?_
                            refine pu_ (i := 7) (N := some 115) #[true, true, true, true, false, false, true, true, false, false, false, false] (any_of HT_.out (by kernel_rfl)) ?_
                            refine pu_ (i := 8) (N := some 116) #[true, true, true, true, false, false, true, true, true, false, false, false] (any_of HT_.out (by kernel_rfl)) ?_
                            refine pu_ (i := 9) (N := some 117) #[true, true, true, true, false, false, true, true, true, true, false, false] (any_of HT_.out (by kernel_rfl)) ?_
                            refine take_ (i := 4) (N := some 112) (v := ?_) (a' := ?_) #[true, true, true, true, true, false, true, true, true, true, false, false] rfl rfl (take_ofW HT_.out HW_.out (by kernel_rfl)) (fun _ _ _ h => h) (Or.inl ⟨by rfl, ?_⟩) hHeld ?_ ?_
                            rotate_left
                            ·rintro w' ⟨s0, s1, s2, s3, s4⟩
                             go_simp
                             with_reducible rfl
                            rotate_left
                            ·simp only [Act.put, List.setIfInBounds_toArray, List.set_cons_zero, List.set_cons_succ, i64_w, i32_w]
                             rfl
                            refine one_ (i := 5) (N := some 113) #[true, true, true, true, true, true, true, true, true, true, false, false] rfl rfl (one_of HT_.out (by kernel_rfl)) (by decide) (fun K hK => ?_)
                            refine goes_ Try.func61 (by kernel_rfl) rfl #[.agg #[.int .i64 t138, .int .i64 t139, .int .i64 t140, .int .i64 t141, .slice Ao75 x143004_1.length co75]] (by rfl) rfl rfl (by (try simp only [List.map_toArray, List.map_cons, List.map_nil]); first | done | rfl | (simp only [List.length_drop, List.length_take]; rfl)) ?_
                            with_reducible refine (spec_l1Batch.calls k1 t138 t139 t140 t141 _ _ x143004_1 t147 _ ?side1 ?side2 A69.out).mono ?_
                            (case side1 => repeat (first | exact (Kd.R_reads' HO_143004.out).2.2 | (with_reducible refine Kd.C_alloc ?_ _) | (with_reducible refine Kd.C_drewN ?_ _) | (with_reducible refine Kd.C_drew ?_)))
                            (case side2 => exact (Kd.R_reads' HO_143004.out).2.1)
                            rintro e w77 ⟨rfl, hb⟩
                            refine ⟨_, rfl, ?_⟩
                            have n0_ := Aside0.mk (Kd.R_below (kr_ HO_143004.out) hb)
                            have n1_ := Aside0.mk (blk_below (g := gb136) (o := .cells #[.int .i64 x137000_1, .int .i64 x137001_1, .int .i64 x137002_1, .int .i64 x137003_1, .slice none 0 0] 44 (0, 0)) (kb_ BK136.out) hb)
                            have n2_ := Aside0.mk (blk_below (g := gb142) (o := .cells #[.int .i64 t138, .int .i64 t139, .int .i64 t140, .int .i64 t141, .slice Ao75 x143004_1.length co75] 44 (0, 0)) (kb_ BK142.out) hb)
                            have n3_ := Aside0.mk (below_step (hs2_ GE136.out GE142.out) hb)
                            clear HO_143004
                            clear BK136
                            clear BK142
                            clear HB
                            have HO_143004 := n0_
                            have BK136 := n1_
                            have BK142 := n2_
                            have HB := n3_
                            clear n0_ n1_ n2_ n3_
                            (try clear hb)
                            (try clear hb2)
                            (try clear hk)
                            (try clear hi)
                            refine hK.out _ _ ⟨(blk_cell BK142.out 0).trans rfl, (blk_cell BK142.out 1).trans rfl, (blk_cell BK142.out 2).trans rfl, (blk_cell BK142.out 3).trans rfl, (blk_cell BK142.out 4).trans rfl⟩ (fun hHeld => ?_)
                            clear hK K
                            refine no_ ?_
                            refine pu_ (i := 10) (N := some 118) #[true, true, true, true, true, true, true, true, true, true, true, false] (any_of HT_.out (by kernel_rfl)) ?_
                            refine pu_ (i := 11) (N := some 119) #[true, true, true, true, true, true, true, true, true, true, true, true] (any_of HT_.out (by kernel_rfl)) ?_
                            refine done_ (done_of HT_.out (by kernel_rfl)) ?_
                            have hnb78 := NB142_136.out
                            have hnc78 := NB136_142.out
                            have hcz79_0 : w77.cell? ⟨gb142, 0, none⟩ = some (.int .i64 t138) := (blk_cell BK142.out 0).trans rfl
                            have hcz79_1 : w77.cell? ⟨gb142, 1, none⟩ = some (.int .i64 t139) := (blk_cell BK142.out 1).trans rfl
                            have hcz79_2 : w77.cell? ⟨gb142, 2, none⟩ = some (.int .i64 t140) := (blk_cell BK142.out 2).trans rfl
                            have hcz79_3 : w77.cell? ⟨gb142, 3, none⟩ = some (.int .i64 t141) := (blk_cell BK142.out 3).trans rfl
                            have hcz79_4 : w77.cell? ⟨gb142, 4, none⟩ = some (.slice Ao75 x143004_1.length co75) := (blk_cell BK142.out 4).trans rfl
                            have hfz79_0 := blk_frozen BK142.out 0
                            have hfz79_1 := blk_frozen BK142.out 1
                            have hfz79_2 := blk_frozen BK142.out 2
                            have hfz79_3 := blk_frozen BK142.out 3
                            have hfz79_4 := blk_frozen BK142.out 4
                            have hcz80_0 : w77.cell? ⟨gb136, 0, none⟩ = some (.int .i64 x137000_1) := (blk_cell BK136.out 0).trans rfl
                            have hcz80_1 : w77.cell? ⟨gb136, 1, none⟩ = some (.int .i64 x137001_1) := (blk_cell BK136.out 1).trans rfl
                            have hcz80_2 : w77.cell? ⟨gb136, 2, none⟩ = some (.int .i64 x137002_1) := (blk_cell BK136.out 2).trans rfl
                            have hcz80_3 : w77.cell? ⟨gb136, 3, none⟩ = some (.int .i64 x137003_1) := (blk_cell BK136.out 3).trans rfl
                            have hcz80_4 : w77.cell? ⟨gb136, 4, none⟩ = some (.slice none 0 0) := (blk_cell BK136.out 4).trans rfl
                            have hfz80_0 := blk_frozen BK136.out 0
                            have hfz80_1 := blk_frozen BK136.out 1
                            have hfz80_2 := blk_frozen BK136.out 2
                            have hfz80_3 := blk_frozen BK136.out 3
                            have hfz80_4 := blk_frozen BK136.out 4
                            try go_wp2
                            refine bodyPost_ret (results_ct rfl _ _ gb136 44 #[.int .i64 t138, .int .i64 t139, .int .i64 t140, .int .i64 t141, .slice Ao75 x143004_1.length co75] (0, 0) _ rfl (by (with_reducible repeat (first | refine blk_drewN ?_ _ | refine blk_drew ?_ | refine blk_alloc ?_ _)); refine blk_put (cs := #[.int .i64 t138, .int .i64 t139, .int .i64 t140, .int .i64 t141, .slice none 0 0]) ?_ 4 _ rfl; (with_reducible repeat (first | refine blk_drewN ?_ _ | refine blk_drew ?_ | refine blk_alloc ?_ _)); refine blk_put (cs := #[.int .i64 t138, .int .i64 t139, .int .i64 t140, .int .i64 x137003_1, .slice none 0 0]) ?_ 3 _ rfl; (with_reducible repeat (first | refine blk_drewN ?_ _ | refine blk_drew ?_ | refine blk_alloc ?_ _)); refine blk_put (cs := #[.int .i64 t138, .int .i64 t139, .int .i64 x137002_1, .int .i64 x137003_1, .slice none 0 0]) ?_ 2 _ rfl; (with_reducible repeat (first | refine blk_drewN ?_ _ | refine blk_drew ?_ | refine blk_alloc ?_ _)); refine blk_put (cs := #[.int .i64 t138, .int .i64 x137001_1, .int .i64 x137002_1, .int .i64 x137003_1, .slice none 0 0]) ?_ 1 _ rfl; (with_reducible repeat (first | refine blk_drewN ?_ _ | refine blk_drew ?_ | refine blk_alloc ?_ _)); refine blk_put (cs := #[.int .i64 x137000_1, .int .i64 x137001_1, .int .i64 x137002_1, .int .i64 x137003_1, .slice none 0 0]) ?_ 0 _ rfl; (with_reducible repeat (first | refine blk_drewN ?_ _ | refine blk_drew ?_ | refine blk_alloc ?_ _)); exact BK136.out) Try.underlying44 rfl (by kernel_rfl)) rfl ?_
                            exact ⟨_, by first | rfl | (simp [errW_none, errW_some] <;> rfl) | (simp only [← hji13, ← hji18, ← hji23, ← hji28, ← hji33]; first | rfl | (simp [errW_none, errW_some] <;> rfl)) | (simp [*, errW_none, errW_some] <;> rfl), by (with_reducible repeat (first | apply Kd.R_alloc | apply Kd.R_drewN | apply Kd.R_drew)); exact Kd.R_mono (Kd.R_far (p := ⟨gb136, 4, none⟩) (Kd.R_far (p := ⟨gb136, 3, none⟩) (Kd.R_far (p := ⟨gb136, 2, none⟩) (Kd.R_far (p := ⟨gb136, 1, none⟩) (Kd.R_far (p := ⟨gb136, 0, none⟩) (Kd.R_types HO_143004.out BK136.out (by decide)) (fun _ hk => hk.2) (.int .i64 t138)) (fun _ hk => hk.2) (.int .i64 t139)) (fun _ hk => hk.2) (.int .i64 t140)) (fun _ hk => hk.2) (.int .i64 t141)) (fun _ hk => hk.2) (.slice Ao75 x143004_1.length co75)) (fun _ hk => trivial), hs2_ GE136.out GE142.out⟩
                           ·rw [if_neg c73] at H
                            have c73b0 : (t147.toList == (a0.extract (a1 : Int).toNat ((wrap64 ((ji13) + t137)) : Int).toNat).toList) = false := beq_eq_false_iff_ne.mpr c73
                            have c73b1 : (t147.toList != (a0.extract (a1 : Int).toNat ((wrap64 ((ji13) + t137)) : Int).toNat).toList) = true := bne_iff_ne.mpr c73
                            simp only [Option.some.injEq, Prod.mk.injEq] at H
                            obtain ⟨rfl, rfl, rfl, rfl, rfl, rfl⟩ := H
                            try go_wp2
                            have n0_ := Aside0.mk (Kd.R_drew HO_143004.out)
                            have n1_ := Aside0.mk (blk_drew BK136.out)
                            have n2_ := Aside0.mk (blk_drew BK142.out)
                            have n3_ := Aside0.mk (below_drew1 HB.out)
                            clear HO_143004
                            clear BK136
                            clear BK142
                            clear HB
                            have HO_143004 := n0_
                            have BK136 := n1_
                            have BK142 := n2_
                            have HB := n3_
                            clear n0_ n1_ n2_ n3_
                            obtain ⟨Ao82, co82, eo82⟩ := Kd.R_slice HO_143004.out
                            (first | subst eo82 | (injection eo82 with f1_ f2_ f3_; have f4_ := f1_.symm; have f5_ := f3_.symm; clear f1_ f2_ f3_; subst f4_; subst f5_))
                            refine start_ (n := 12) (S := fun w' => w'.cell? ⟨gb142, 0, none⟩ = some (.int .i64 t138) ∧ w'.cell? ⟨gb142, 1, none⟩ = some (.int .i64 t139) ∧ w'.cell? ⟨gb142, 2, none⟩ = some (.int .i64 t140) ∧ w'.cell? ⟨gb142, 3, none⟩ = some (.int .i64 t141) ∧ w'.cell? ⟨gb142, 4, none⟩ = some (.slice Ao82 x143004_1.length co82)) (ds := []) #[false, false, false, false, false, false, false, false, false, false, false, false] (by kernel_rfl) rfl rfl ⟨(blk_cell BK142.out 0).trans rfl, (blk_cell BK142.out 1).trans rfl, (blk_cell BK142.out 2).trans rfl, (blk_cell BK142.out 3).trans rfl, (blk_cell BK142.out 4).trans rfl⟩ (fun hHeld => ?_); refine with_tabW spec_l1Take.tab15 spec_l1Take.bits15 (fun HT_ HW_ => ?_)
                            generalize wr.drew = w81 at HO_143004 BK136 BK142 HB hHeld ⊢
                            refine take_ (i := 0) (N := some 108) (v := ?_) (a' := ?_) #[true, false, false, false, false, false, false, false, false, false, false, false] rfl rfl (take_ofW HT_.out HW_.out (by kernel_rfl)) (fun _ _ _ h => h) (Or.inl ⟨by rfl, ?_⟩) hHeld ?_ ?_
                            rotate_left
                            ·rintro w' ⟨s0, s1, s2, s3, s4⟩
                             go_simp
                             with_reducible rfl
                            rotate_left
                            ·simp only [Act.put, List.setIfInBounds_toArray, List.set_cons_zero, List.set_cons_succ, i64_w, i32_w]
                             rfl
                            refine one_ (i := 1) (N := some 109) #[true, true, false, false, false, false, false, false, false, false, false, false] rfl rfl (one_of HT_.out (by kernel_rfl)) (by decide) (fun K hK => ?_)
                            refine goes_ Try.func59 (by kernel_rfl) rfl #[.agg #[.int .i64 t138, .int .i64 t139, .int .i64 t140, .int .i64 t141, .slice Ao82 x143004_1.length co82]] (by rfl) rfl rfl (by (try simp only [List.map_toArray, List.map_cons, List.map_nil]); first | done | rfl | (simp only [List.length_drop, List.length_take]; rfl)) ?_
                            with_reducible refine (spec_GoodBatch.calls k1 t138 t139 t140 t141 _ _ x143004_1 true _ ?side1 ?side2 A67.out).mono ?_
                            (case side1 => repeat (first | exact (Kd.R_reads' HO_143004.out).2.2 | (with_reducible refine Kd.C_alloc ?_ _) | (with_reducible refine Kd.C_drewN ?_ _) | (with_reducible refine Kd.C_drew ?_)))
                            (case side2 => exact (Kd.R_reads' HO_143004.out).2.1)
                            rintro e w83 ⟨rfl, hb⟩
                            refine ⟨_, rfl, ?_⟩
                            have n0_ := Aside0.mk (Kd.R_below (kr_ HO_143004.out) hb)
                            have n1_ := Aside0.mk (blk_below (g := gb136) (o := .cells #[.int .i64 x137000_1, .int .i64 x137001_1, .int .i64 x137002_1, .int .i64 x137003_1, .slice none 0 0] 44 (0, 0)) (kb_ BK136.out) hb)
                            have n2_ := Aside0.mk (blk_below (g := gb142) (o := .cells #[.int .i64 t138, .int .i64 t139, .int .i64 t140, .int .i64 t141, .slice Ao82 x143004_1.length co82] 44 (0, 0)) (kb_ BK142.out) hb)
                            have n3_ := Aside0.mk (below_step (hs2_ GE136.out GE142.out) hb)
                            clear HO_143004
                            clear BK136
                            clear BK142
                            clear HB
                            have HO_143004 := n0_
                            have BK136 := n1_
                            have BK142 := n2_
                            have HB := n3_
                            clear n0_ n1_ n2_ n3_
                            (try clear hb)
                            (try clear hb2)
                            (try clear hk)
                            (try clear hi)
                            refine hK.out _ _ ⟨(blk_cell BK142.out 0).trans rfl, (blk_cell BK142.out 1).trans rfl, (blk_cell BK142.out 2).trans rfl, (blk_cell BK142.out 3).trans rfl, (blk_cell BK142.out 4).trans rfl⟩ (fun hHeld => ?_)
                            clear hK K
                            refine no_ ?_
                            refine pu_ (i := 2) (N := some 110) #[true, true, true, false, false, false, false, false, false, false, false, false] (any_of HT_.out (by kernel_rfl)) ?_
                            refine pu_ (i := 3) (N := some 111) #[true, true, true, true, false, false, false, false, false, false, false, false] (any_of HT_.out (by kernel_rfl)) ?_
                            refine pu_ (i := 6) (N := some 114) #[true, true, true, true, false, false, true, false, false, false, false, false] (any_of HT_.out (by kernel_rfl)) ?_
                            refine pu_ (i := 7) (N := some 115) #[true, true, true, true, false, false, true, true, false, false, false, false] (any_of HT_.out (by kernel_rfl)) ?_
                            refine pu_ (i := 8) (N := some 116) #[true, true, true, true, false, false, true, true, true, false, false, false] (any_of HT_.out (by kernel_rfl)) ?_
                            refine pu_ (i := 9) (N := some 117) #[true, true, true, true, false, false, true, true, true, true, false, false] (any_of HT_.out (by kernel_rfl)) ?_
                            refine take_ (i := 4) (N := some 112) (v := ?_) (a' := ?_) #[true, true, true, true, true, false, true, true, true, true, false, false] rfl rfl (take_ofW HT_.out HW_.out (by kernel_rfl)) (fun _ _ _ h => h) (Or.inl ⟨by rfl, ?_⟩) hHeld ?_ ?_
                            rotate_left
                            ·rintro w' ⟨s0, s1, s2, s3, s4⟩
                             go_simp
                             with_reducible rfl
                            rotate_left
                            ·simp only [Act.put, List.setIfInBounds_toArray, List.set_cons_zero, List.set_cons_succ, i64_w, i32_w]
                             rfl
                            refine one_ (i := 5) (N := some 113) #[true, true, true, true, true, true, true, true, true, true, false, false] rfl rfl (one_of HT_.out (by kernel_rfl)) (by decide) (fun K hK => ?_)
                            refine goes_ Try.func61 (by kernel_rfl) rfl #[.agg #[.int .i64 t138, .int .i64 t139, .int .i64 t140, .int .i64 t141, .slice Ao82 x143004_1.length co82]] (by rfl) rfl rfl (by (try simp only [List.map_toArray, List.map_cons, List.map_nil]); first | done | rfl | (simp only [List.length_drop, List.length_take]; rfl)) ?_
                            with_reducible refine (spec_l1Batch.calls k1 t138 t139 t140 t141 _ _ x143004_1 t147 _ ?side1 ?side2 A69.out).mono ?_
                            (case side1 => repeat (first | exact (Kd.R_reads' HO_143004.out).2.2 | (with_reducible refine Kd.C_alloc ?_ _) | (with_reducible refine Kd.C_drewN ?_ _) | (with_reducible refine Kd.C_drew ?_)))
                            (case side2 => exact (Kd.R_reads' HO_143004.out).2.1)
                            rintro e w84 ⟨rfl, hb⟩
                            refine ⟨_, rfl, ?_⟩
                            have n0_ := Aside0.mk (Kd.R_below (kr_ HO_143004.out) hb)
                            have n1_ := Aside0.mk (blk_below (g := gb136) (o := .cells #[.int .i64 x137000_1, .int .i64 x137001_1, .int .i64 x137002_1, .int .i64 x137003_1, .slice none 0 0] 44 (0, 0)) (kb_ BK136.out) hb)
                            have n2_ := Aside0.mk (blk_below (g := gb142) (o := .cells #[.int .i64 t138, .int .i64 t139, .int .i64 t140, .int .i64 t141, .slice Ao82 x143004_1.length co82] 44 (0, 0)) (kb_ BK142.out) hb)
                            have n3_ := Aside0.mk (below_step (hs2_ GE136.out GE142.out) hb)
                            clear HO_143004
                            clear BK136
                            clear BK142
                            clear HB
                            have HO_143004 := n0_
                            have BK136 := n1_
                            have BK142 := n2_
                            have HB := n3_
                            clear n0_ n1_ n2_ n3_
                            (try clear hb)
                            (try clear hb2)
                            (try clear hk)
                            (try clear hi)
                            refine hK.out _ _ ⟨(blk_cell BK142.out 0).trans rfl, (blk_cell BK142.out 1).trans rfl, (blk_cell BK142.out 2).trans rfl, (blk_cell BK142.out 3).trans rfl, (blk_cell BK142.out 4).trans rfl⟩ (fun hHeld => ?_)
                            clear hK K
                            refine no_ ?_
                            refine pu_ (i := 10) (N := some 118) #[true, true, true, true, true, true, true, true, true, true, true, false] (any_of HT_.out (by kernel_rfl)) ?_
                            refine pu_ (i := 11) (N := some 119) #[true, true, true, true, true, true, true, true, true, true, true, true] (any_of HT_.out (by kernel_rfl)) ?_
                            refine done_ (done_of HT_.out (by kernel_rfl)) ?_
                            have hnb85 := NB136_142.out
                            have hnc85 := NB142_136.out
                            have hcz86_0 : w84.cell? ⟨gb136, 0, none⟩ = some (.int .i64 x137000_1) := (blk_cell BK136.out 0).trans rfl
                            have hcz86_1 : w84.cell? ⟨gb136, 1, none⟩ = some (.int .i64 x137001_1) := (blk_cell BK136.out 1).trans rfl
                            have hcz86_2 : w84.cell? ⟨gb136, 2, none⟩ = some (.int .i64 x137002_1) := (blk_cell BK136.out 2).trans rfl
                            have hcz86_3 : w84.cell? ⟨gb136, 3, none⟩ = some (.int .i64 x137003_1) := (blk_cell BK136.out 3).trans rfl
                            have hcz86_4 : w84.cell? ⟨gb136, 4, none⟩ = some (.slice none 0 0) := (blk_cell BK136.out 4).trans rfl
                            have hfz86_0 := blk_frozen BK136.out 0
                            have hfz86_1 := blk_frozen BK136.out 1
                            have hfz86_2 := blk_frozen BK136.out 2
                            have hfz86_3 := blk_frozen BK136.out 3
                            have hfz86_4 := blk_frozen BK136.out 4
                            try go_wp2
                            refine bodyPost_ret (results_ct rfl _ _ gb136 44 #[.int .i64 0, .int .i64 0, .int .i64 0, .int .i64 0, .slice none 0 0] (0, 0) _ rfl (by (with_reducible repeat (first | refine blk_drewN ?_ _ | refine blk_drew ?_ | refine blk_alloc ?_ _)); refine blk_put (cs := #[.int .i64 0, .int .i64 0, .int .i64 0, .int .i64 0, .slice none 0 0]) ?_ 4 _ rfl; (with_reducible repeat (first | refine blk_drewN ?_ _ | refine blk_drew ?_ | refine blk_alloc ?_ _)); refine blk_put (cs := #[.int .i64 0, .int .i64 0, .int .i64 0, .int .i64 x137003_1, .slice none 0 0]) ?_ 3 _ rfl; (with_reducible repeat (first | refine blk_drewN ?_ _ | refine blk_drew ?_ | refine blk_alloc ?_ _)); refine blk_put (cs := #[.int .i64 0, .int .i64 0, .int .i64 x137002_1, .int .i64 x137003_1, .slice none 0 0]) ?_ 2 _ rfl; (with_reducible repeat (first | refine blk_drewN ?_ _ | refine blk_drew ?_ | refine blk_alloc ?_ _)); refine blk_put (cs := #[.int .i64 0, .int .i64 x137001_1, .int .i64 x137002_1, .int .i64 x137003_1, .slice none 0 0]) ?_ 1 _ rfl; (with_reducible repeat (first | refine blk_drewN ?_ _ | refine blk_drew ?_ | refine blk_alloc ?_ _)); refine blk_put (cs := #[.int .i64 x137000_1, .int .i64 x137001_1, .int .i64 x137002_1, .int .i64 x137003_1, .slice none 0 0]) ?_ 0 _ rfl; (with_reducible repeat (first | refine blk_drewN ?_ _ | refine blk_drew ?_ | refine blk_alloc ?_ _)); exact BK136.out) Try.underlying44 rfl (by kernel_rfl)) rfl ?_
                            exact ⟨_, by first | rfl | (simp [errW_none, errW_some] <;> rfl) | (simp only [← hji13, ← hji18, ← hji23, ← hji28, ← hji33]; first | rfl | (simp [errW_none, errW_some] <;> rfl)) | (simp [*, errW_none, errW_some] <;> rfl), by first | exact Kd.R_nil _ _ _ _ _ | exact Kd.N_nil _ _ _ _ _ | exact Kd.V_nil _ _ _ _ _ | exact Kd.Q_nil _ _ _ _ _ | exact Kd.S_nil _ _ _ _ _, hs2_ GE136.out GE142.out⟩
                          ·rw [if_neg c72] at H
                           exact absurd H (by simp)
                         ·rw [if_neg c71] at H
                          exact absurd H (by simp)
                        ·rw [if_neg c70] at H
                         exact absurd H (by simp)
                       ·replace c68 := Bool.eq_false_iff.mpr c68
                        subst c68
                        have H1 : (some (0, 0, 0, 0, ([] : List ByteArray), 0)) = some (r1, r2, r3, r4, r5, r6) := by rw [if_neg (show ¬ (false = true) by decide)] at H; exact H
                        clear H
                        have H := H1
                        clear H1
                        simp only [Option.some.injEq, Prod.mk.injEq] at H
                        obtain ⟨rfl, rfl, rfl, rfl, rfl, rfl⟩ := H
                        try go_wp2
                        have n0_ := Aside0.mk (Kd.R_drew HO_143004.out)
                        have n1_ := Aside0.mk (blk_drew BK136.out)
                        have n2_ := Aside0.mk (blk_drew BK142.out)
                        have n3_ := Aside0.mk (below_drew1 HB.out)
                        clear HO_143004
                        clear BK136
                        clear BK142
                        clear HB
                        have HO_143004 := n0_
                        have BK136 := n1_
                        have BK142 := n2_
                        have HB := n3_
                        clear n0_ n1_ n2_ n3_
                        obtain ⟨Ao88, co88, eo88⟩ := Kd.R_slice HO_143004.out
                        (first | subst eo88 | (injection eo88 with f1_ f2_ f3_; have f4_ := f1_.symm; have f5_ := f3_.symm; clear f1_ f2_ f3_; subst f4_; subst f5_))
                        refine start_ (n := 12) (S := fun w' => w'.cell? ⟨gb142, 0, none⟩ = some (.int .i64 t138) ∧ w'.cell? ⟨gb142, 1, none⟩ = some (.int .i64 t139) ∧ w'.cell? ⟨gb142, 2, none⟩ = some (.int .i64 t140) ∧ w'.cell? ⟨gb142, 3, none⟩ = some (.int .i64 t141) ∧ w'.cell? ⟨gb142, 4, none⟩ = some (.slice Ao88 x143004_1.length co88)) (ds := []) #[false, false, false, false, false, false, false, false, false, false, false, false] (by kernel_rfl) rfl rfl ⟨(blk_cell BK142.out 0).trans rfl, (blk_cell BK142.out 1).trans rfl, (blk_cell BK142.out 2).trans rfl, (blk_cell BK142.out 3).trans rfl, (blk_cell BK142.out 4).trans rfl⟩ (fun hHeld => ?_); refine with_tabW spec_l1Take.tab15 spec_l1Take.bits15 (fun HT_ HW_ => ?_)
                        generalize wr.drew = w87 at HO_143004 BK136 BK142 HB hHeld ⊢
                        refine take_ (i := 0) (N := some 108) (v := ?_) (a' := ?_) #[true, false, false, false, false, false, false, false, false, false, false, false] rfl rfl (take_ofW HT_.out HW_.out (by kernel_rfl)) (fun _ _ _ h => h) (Or.inl ⟨by rfl, ?_⟩) hHeld ?_ ?_
                        rotate_left
                        ·rintro w' ⟨s0, s1, s2, s3, s4⟩
                         go_simp
                         with_reducible rfl
                        rotate_left
                        ·simp only [Act.put, List.setIfInBounds_toArray, List.set_cons_zero, List.set_cons_succ, i64_w, i32_w]
                         rfl
                        refine one_ (i := 1) (N := some 109) #[true, true, false, false, false, false, false, false, false, false, false, false] rfl rfl (one_of HT_.out (by kernel_rfl)) (by decide) (fun K hK => ?_)
                        refine goes_ Try.func59 (by kernel_rfl) rfl #[.agg #[.int .i64 t138, .int .i64 t139, .int .i64 t140, .int .i64 t141, .slice Ao88 x143004_1.length co88]] (by rfl) rfl rfl (by (try simp only [List.map_toArray, List.map_cons, List.map_nil]); first | done | rfl | (simp only [List.length_drop, List.length_take]; rfl)) ?_
                        with_reducible refine (spec_GoodBatch.calls k1 t138 t139 t140 t141 _ _ x143004_1 false _ ?side1 ?side2 A67.out).mono ?_
                        (case side1 => repeat (first | exact (Kd.R_reads' HO_143004.out).2.2 | (with_reducible refine Kd.C_alloc ?_ _) | (with_reducible refine Kd.C_drewN ?_ _) | (with_reducible refine Kd.C_drew ?_)))
                        (case side2 => exact (Kd.R_reads' HO_143004.out).2.1)
                        rintro e w89 ⟨rfl, hb⟩
                        refine ⟨_, rfl, ?_⟩
                        have n0_ := Aside0.mk (Kd.R_below (kr_ HO_143004.out) hb)
                        have n1_ := Aside0.mk (blk_below (g := gb136) (o := .cells #[.int .i64 x137000_1, .int .i64 x137001_1, .int .i64 x137002_1, .int .i64 x137003_1, .slice none 0 0] 44 (0, 0)) (kb_ BK136.out) hb)
                        have n2_ := Aside0.mk (blk_below (g := gb142) (o := .cells #[.int .i64 t138, .int .i64 t139, .int .i64 t140, .int .i64 t141, .slice Ao88 x143004_1.length co88] 44 (0, 0)) (kb_ BK142.out) hb)
                        have n3_ := Aside0.mk (below_step (hs2_ GE136.out GE142.out) hb)
                        clear HO_143004
                        clear BK136
                        clear BK142
                        clear HB
                        have HO_143004 := n0_
                        have BK136 := n1_
                        have BK142 := n2_
                        have HB := n3_
                        clear n0_ n1_ n2_ n3_
                        (try clear hb)
                        (try clear hb2)
                        (try clear hk)
                        (try clear hi)
                        refine hK.out _ _ ⟨(blk_cell BK142.out 0).trans rfl, (blk_cell BK142.out 1).trans rfl, (blk_cell BK142.out 2).trans rfl, (blk_cell BK142.out 3).trans rfl, (blk_cell BK142.out 4).trans rfl⟩ (fun hHeld => ?_)
                        clear hK K
                        refine no_ ?_
                        refine pu_ (i := 2) (N := some 110) #[true, true, true, false, false, false, false, false, false, false, false, false] (any_of HT_.out (by kernel_rfl)) ?_
                        refine pu_ (i := 3) (N := some 111) #[true, true, true, true, false, false, false, false, false, false, false, false] (any_of HT_.out (by kernel_rfl)) ?_
                        refine pure_ (i := 4) (N := some 112) (v := undef) (a' := ?_) #[true, true, true, true, true, false, false, false, false, false, false, false] rfl rfl (any_of HT_.out (by kernel_rfl)) (fun _ _ _ h => h) (Or.inr ⟨by rfl, rfl⟩) ?_ ?_
                        rotate_left
                        ·simp only [Act.put, List.setIfInBounds_toArray, List.set_cons_zero, List.set_cons_succ, i64_w, i32_w]
                         rfl
                        refine pure_ (i := 5) (N := some 113) (v := undef) (a' := ?_) #[true, true, true, true, true, true, false, false, false, false, false, false] rfl rfl (any_of HT_.out (by kernel_rfl)) (fun _ _ _ h => h) (Or.inr ⟨by rfl, rfl⟩) ?_ ?_
                        rotate_left
                        ·simp only [Act.put, List.setIfInBounds_toArray, List.set_cons_zero, List.set_cons_succ, i64_w, i32_w]
                         rfl
                        refine pure_ (i := 6) (N := some 114) (v := undef) (a' := ?_) #[true, true, true, true, true, true, true, false, false, false, false, false] rfl rfl (any_of HT_.out (by kernel_rfl)) (fun _ _ _ h => h) (Or.inr ⟨by rfl, rfl⟩) ?_ ?_
                        rotate_left
                        ·simp only [Act.put, List.setIfInBounds_toArray, List.set_cons_zero, List.set_cons_succ, i64_w, i32_w]
                         rfl
                        refine pure_ (i := 7) (N := some 115) (v := undef) (a' := ?_) #[true, true, true, true, true, true, true, true, false, false, false, false] rfl rfl (any_of HT_.out (by kernel_rfl)) (fun _ _ _ h => h) (Or.inr ⟨by rfl, rfl⟩) ?_ ?_
                        rotate_left
                        ·simp only [Act.put, List.setIfInBounds_toArray, List.set_cons_zero, List.set_cons_succ, i64_w, i32_w]
                         rfl
                        refine pure_ (i := 8) (N := some 116) (v := undef) (a' := ?_) #[true, true, true, true, true, true, true, true, true, false, false, false] rfl rfl (any_of HT_.out (by kernel_rfl)) (fun _ _ _ h => h) (Or.inr ⟨by rfl, rfl⟩) ?_ ?_
                        rotate_left
                        ·simp only [Act.put, List.setIfInBounds_toArray, List.set_cons_zero, List.set_cons_succ, i64_w, i32_w]
                         rfl
                        refine pure_ (i := 9) (N := some 117) (v := undef) (a' := ?_) #[true, true, true, true, true, true, true, true, true, true, false, false] rfl rfl (any_of HT_.out (by kernel_rfl)) (fun _ _ _ h => h) (Or.inr ⟨by rfl, rfl⟩) ?_ ?_
                        rotate_left
                        ·simp only [Act.put, List.setIfInBounds_toArray, List.set_cons_zero, List.set_cons_succ, i64_w, i32_w]
                         rfl
                        refine pure_ (i := 10) (N := some 118) (v := undef) (a' := ?_) #[true, true, true, true, true, true, true, true, true, true, true, false] rfl rfl (any_of HT_.out (by kernel_rfl)) (fun _ _ _ h => h) (Or.inr ⟨by rfl, rfl⟩) ?_ ?_
                        rotate_left
                        ·simp only [Act.put, List.setIfInBounds_toArray, List.set_cons_zero, List.set_cons_succ, i64_w, i32_w]
                         rfl
                        refine pu_ (i := 11) (N := some 119) #[true, true, true, true, true, true, true, true, true, true, true, true] (any_of HT_.out (by kernel_rfl)) ?_
                        refine done_ (done_of HT_.out (by kernel_rfl)) ?_
                        have hnb90 := NB136_142.out
                        have hnc90 := NB142_136.out
                        have hcz91_0 : w89.cell? ⟨gb136, 0, none⟩ = some (.int .i64 x137000_1) := (blk_cell BK136.out 0).trans rfl
                        have hcz91_1 : w89.cell? ⟨gb136, 1, none⟩ = some (.int .i64 x137001_1) := (blk_cell BK136.out 1).trans rfl
                        have hcz91_2 : w89.cell? ⟨gb136, 2, none⟩ = some (.int .i64 x137002_1) := (blk_cell BK136.out 2).trans rfl
                        have hcz91_3 : w89.cell? ⟨gb136, 3, none⟩ = some (.int .i64 x137003_1) := (blk_cell BK136.out 3).trans rfl
                        have hcz91_4 : w89.cell? ⟨gb136, 4, none⟩ = some (.slice none 0 0) := (blk_cell BK136.out 4).trans rfl
                        have hfz91_0 := blk_frozen BK136.out 0
                        have hfz91_1 := blk_frozen BK136.out 1
                        have hfz91_2 := blk_frozen BK136.out 2
                        have hfz91_3 := blk_frozen BK136.out 3
                        have hfz91_4 := blk_frozen BK136.out 4
                        try go_wp2
                        refine bodyPost_ret (results_ct rfl _ _ gb136 44 #[.int .i64 0, .int .i64 0, .int .i64 0, .int .i64 0, .slice none 0 0] (0, 0) _ rfl (by (with_reducible repeat (first | refine blk_drewN ?_ _ | refine blk_drew ?_ | refine blk_alloc ?_ _)); refine blk_put (cs := #[.int .i64 0, .int .i64 0, .int .i64 0, .int .i64 0, .slice none 0 0]) ?_ 4 _ rfl; (with_reducible repeat (first | refine blk_drewN ?_ _ | refine blk_drew ?_ | refine blk_alloc ?_ _)); refine blk_put (cs := #[.int .i64 0, .int .i64 0, .int .i64 0, .int .i64 x137003_1, .slice none 0 0]) ?_ 3 _ rfl; (with_reducible repeat (first | refine blk_drewN ?_ _ | refine blk_drew ?_ | refine blk_alloc ?_ _)); refine blk_put (cs := #[.int .i64 0, .int .i64 0, .int .i64 x137002_1, .int .i64 x137003_1, .slice none 0 0]) ?_ 2 _ rfl; (with_reducible repeat (first | refine blk_drewN ?_ _ | refine blk_drew ?_ | refine blk_alloc ?_ _)); refine blk_put (cs := #[.int .i64 0, .int .i64 x137001_1, .int .i64 x137002_1, .int .i64 x137003_1, .slice none 0 0]) ?_ 1 _ rfl; (with_reducible repeat (first | refine blk_drewN ?_ _ | refine blk_drew ?_ | refine blk_alloc ?_ _)); refine blk_put (cs := #[.int .i64 x137000_1, .int .i64 x137001_1, .int .i64 x137002_1, .int .i64 x137003_1, .slice none 0 0]) ?_ 0 _ rfl; (with_reducible repeat (first | refine blk_drewN ?_ _ | refine blk_drew ?_ | refine blk_alloc ?_ _)); exact BK136.out) Try.underlying44 rfl (by kernel_rfl)) rfl ?_
                        exact ⟨_, by first | rfl | (simp [errW_none, errW_some] <;> rfl) | (simp only [← hji13, ← hji18, ← hji23, ← hji28, ← hji33]; first | rfl | (simp [errW_none, errW_some] <;> rfl)) | (simp [*, errW_none, errW_some] <;> rfl), by first | exact Kd.R_nil _ _ _ _ _ | exact Kd.N_nil _ _ _ _ _ | exact Kd.V_nil _ _ _ _ _ | exact Kd.Q_nil _ _ _ _ _ | exact Kd.S_nil _ _ _ _ _, hs2_ GE136.out GE142.out⟩
                   ·rw [if_neg c35] at H
                    exact absurd H (by simp)
                  ·rw [if_neg c34] at H
                   exact absurd H (by simp)
                 ·rw [if_neg c31] at H
                  exact absurd H (by simp)
                ·rw [if_neg c30] at H
                 exact absurd H (by simp)
               ·rw [if_neg c29] at H
                exact absurd H (by simp)
              ·rw [if_neg c26] at H
               exact absurd H (by simp)
             ·rw [if_neg c25] at H
              exact absurd H (by simp)
            ·rw [if_neg c24] at H
             exact absurd H (by simp)
           ·rw [if_neg c21] at H
            exact absurd H (by simp)
          ·rw [if_neg c20] at H
           exact absurd H (by simp)
         ·rw [if_neg c19] at H
          exact absurd H (by simp)
        ·rw [if_neg c16] at H
         exact absurd H (by simp)
       ·rw [if_neg c15] at H
        exact absurd H (by simp)
      ·rw [if_neg c14] at H
       exact absurd H (by simp)
    ·rw [if_neg c8] at H
     exact absurd H (by simp)
   ·rw [if_neg c7] at H
    exact absurd H (by simp)
  ·rw [if_neg c6] at H
   exact absurd H (by simp)

end Go.Proofs.Ytpdpipfkllfhmaa.QFnExactSurvivesIn
