/- For each Go function that one statement reaches: a plain function with the same answers, and the proof that the call comes to them. Conditions: those that each contract names. Written by a program of this repository. -/
import Derived.Test.YtjjhebkkpeapkaaVFnBatchesa
import Derived.Test.YtjjhebkkpeapkaaQFnBatchesx0
import Derived.Test.YtjjhebkkpeapkaaQFnBatchesx1
import Derived.Test.YtjjhebkkpeapkaaQFnBatchesx3
import Derived.Test.YtjjhebkkpeapkaaQFnBatchesx5
import Derived.Test.YtjjhebkkpeapkaaQFnBatchesx8
import Derived.Test.YtjjhebkkpeapkaaQFnBatchesx11
import Derived.Test.YtjjhebkkpeapkaaQFnBatchesx13
namespace Go.Proofs.Ytjjhebkkpeapkaa.QFnBatches
open Go.RowKit Go.Proofs.YtjjhebkkpeapkaaW.PrintWords Go.Proofs.YtjjhebkkpeapkaaW.PrintLast Go.Proofs.YtjjhebkkpeapkaaW.PrintMore
attribute [local go_sem] max2_int min2_int max_two min_two max_three min_three max_four min_four Go.Proofs.YtjjhebkkpeapkaaW.PrintMore2.isSome_setCell   -- for this text's walks alone
set_option linter.unusedVariables false
set_option linter.unusedSimpArgs false

/-! ### laws_FnBatches: function 3 -/
def laws_FnBatches.j0 : Nat → List Int → Option (Bool)
 | 0, _ => none
 | k + 1, x1 => (spec_DrawTakeBatch.f k x1).bind fun bt405 => ((impl_TakeBatch.f k bt405.1 bt405.2).bind fun bt407 => ((spec_TakeBatch.f k bt405.1 bt405.2).bind fun bt417 => ((spec_DrawSumOf.f k x1).bind fun t427 => ((impl_SumOf.f k t427).bind fun bt428 => ((spec_SumOf.f k t427).bind fun bt430 => (if (bt407.2.2.2.2.2.2 != bt417.2.2.2.2.2.2) = true then (none) else (if bt407.2.2.2.2.2.1 = bt417.2.2.2.2.2.1 then ((laws_sameBatch.f k bt407.1 bt407.2.1 bt407.2.2.1 bt407.2.2.2.1 bt407.2.2.2.2.1 bt417.1 bt417.2.1 bt417.2.2.1 bt417.2.2.2.1 bt417.2.2.2.2.1).bind fun t432 => (if t432 = true then (if (bt428.2 != bt430.2) = true then (none) else (if bt428.1 = bt430.1 then (if bt407.2.2.2.2.2.2 = true then ((impl_BatchBytes.f k bt407.1 bt407.2.1 bt407.2.2.1 bt407.2.2.2.1 bt407.2.2.2.2.1).bind fun bt433 => (if bt433.2 = true then (if 0 ≤ bt405.2 then (if bt405.2 ≤ bt407.2.2.2.2.2.1 then (if bt407.2.2.2.2.2.1 ≤ (bt405.1.size : Int) then (some (bt433.1.toList == (bt405.1.extract (bt405.2 : Int).toNat (bt407.2.2.2.2.2.1 : Int).toNat).toList)) else (none)) else (none)) else (none)) else (none))) else (some true)) else (none))) else (none))) else (none))))))))
def laws_FnBatches.f (k : Nat) (l0 : List Int) (l1 : List Int) : Option (Bool) := if (wrap64 ((l0.length : Int) + (l1.length : Int))) > 1048576 then (some true) else ((spec_DrawBatchBytes.f k l0).bind fun bt360 => ((impl_BatchBytes.f k bt360.1 bt360.2.1 bt360.2.2.1 bt360.2.2.2.1 bt360.2.2.2.2).bind fun bt368 => ((spec_BatchBytes.f k bt360.1 bt360.2.1 bt360.2.2.1 bt360.2.2.2.1 bt360.2.2.2.2).bind fun bt370 => ((impl_EndOf.f bt360.1 bt360.2.1 bt360.2.2.1 bt360.2.2.2.1 bt360.2.2.2.2).bind fun bt372 => ((spec_EndOf.f k bt360.1 bt360.2.1 bt360.2.2.1 bt360.2.2.2.1 bt360.2.2.2.2).bind fun bt374 => (if (bt368.2 != bt370.2) = true then (none) else (if bt368.1.toList = bt370.1.toList then (if (bt372.2 != bt374.2) = true then (none) else (if bt372.1 = bt374.1 then ((impl_GoodBatch.f bt360.1 bt360.2.1 bt360.2.2.1 bt360.2.2.2.1 bt360.2.2.2.2).bind fun t376 => (if (t376 != bt370.2) = true then (none) else (if (bt368.2 != bt372.2) = true then (none) else (if bt368.2 = true then (if bt368.1.size + 1 ≤ 9223372036854775807 then ((impl_TakeBatch.f k (bt368.1 ++ (⟨#[120]⟩ : ByteArray)) 0).bind fun bt377 => (if 0 ≤ (wrap64 ((bt368.1.size : Int) - 2)) then (if (wrap64 ((bt368.1.size : Int) - 2)) ≤ (bt368.1.size : Int) then ((impl_SumOf.f k (bt368.1.extract 0 ((wrap64 ((bt368.1.size : Int) - 2)) : Int).toNat)).bind fun bt387 => (if bt377.2.2.2.2.2.2 = true then (if bt377.2.2.2.2.2.1 = (bt368.1.size : Int) then ((laws_sameBatch.f k bt377.1 bt377.2.1 bt377.2.2.1 bt377.2.2.2.1 bt377.2.2.2.2.1 bt360.1 bt360.2.1 bt360.2.2.1 bt360.2.2.2.1 bt360.2.2.2.2).bind fun t389 => (if t389 = true then (if bt372.1 = (wrap64 (bt360.1 + (bt360.2.2.2.2.length : Int))) then (if bt387.2 = true then (if (wrap64 ((bt368.1.size : Int) - 2)) < (bt368.1.size : Int) then (if (bt bt368.1 (wrap64 ((bt368.1.size : Int) - 2))) = ((bt387.1 / 256) % 256) then (if 0 ≤ (wrap64 ((bt368.1.size : Int) - 1)) then (if (wrap64 ((bt368.1.size : Int) - 1)) < (bt368.1.size : Int) then (if (bt bt368.1 (wrap64 ((bt368.1.size : Int) - 1))) = ((bt387.1) % 256) then ((laws_numberOf.f k l1).bind fun t390 => (if (bt368.1.size : Int) = 0 then (none) else (if 0 ≤ (Int.tmod t390 (bt368.1.size : Int)) then (if (Int.tmod t390 (bt368.1.size : Int)) ≤ (bt368.1.size : Int) then (if (Int.tmod t390 (bt368.1.size : Int)) < (bt368.1.size : Int) then ((laws_numberOf.f k l1).bind fun t391 => ((some (([Go.bits .xor .u8 (bt bt368.1 (Int.tmod t390 (bt368.1.size : Int))) ((wrap64 (1 + (Int.tmod t391 255))) % 256)] : List Int) : List Int)).bind fun y392 => (if (bt368.1.extract 0 ((Int.tmod t390 (bt368.1.size : Int)) : Int).toNat).size + (strOfNums y392).size ≤ 9223372036854775807 then (if 0 ≤ (wrap64 ((Int.tmod t390 (bt368.1.size : Int)) + 1)) then (if (wrap64 ((Int.tmod t390 (bt368.1.size : Int)) + 1)) ≤ (bt368.1.size : Int) then (if ((bt368.1.extract 0 ((Int.tmod t390 (bt368.1.size : Int)) : Int).toNat) ++ (strOfNums y392)).size + (bt368.1.extract ((wrap64 ((Int.tmod t390 (bt368.1.size : Int)) + 1)) : Int).toNat bt368.1.size).size ≤ 9223372036854775807 then ((impl_TakeBatch.f k (((bt368.1.extract 0 ((Int.tmod t390 (bt368.1.size : Int)) : Int).toNat) ++ (strOfNums y392)) ++ (bt368.1.extract ((wrap64 ((Int.tmod t390 (bt368.1.size : Int)) + 1)) : Int).toNat bt368.1.size)) 0).bind fun bt395 => (if bt395.2.2.2.2.2.2 = true then (none) else (laws_FnBatches.j0 k l1))) else (none)) else (none)) else (none)) else (none)))) else (none)) else (none)) else (none)))) else (none)) else (none)) else (none)) else (none)) else (none)) else (none)) else (none)) else (none))) else (none)) else (none))) else (none)) else (none))) else (none)) else (laws_FnBatches.j0 k l1))))) else (none))) else (none))))))))
theorem laws_FnBatches.mono_l : ∀ k, (∀ y0, LeO (laws_FnBatches.j0 k y0) (laws_FnBatches.j0 (k + 1) y0))
 | 0 => fun _ r h => by simp [laws_FnBatches.j0] at h
 | k + 1 => by
  have ih0 := laws_FnBatches.mono_l k
  ·intro y0
   unfold laws_FnBatches.j0
   repeat' first
   | (with_reducible exact ih0 _)
   | (with_reducible exact impl_BatchBytes.mono _ _ _ _ _ _)
   | (with_reducible exact impl_SumOf.mono _ _)
   | (with_reducible exact impl_TakeBatch.mono _ _ _)
   | (with_reducible exact laws_numberOf.mono _ _)
   | (with_reducible exact laws_sameBatch.mono _ _ _ _ _ _ _ _ _ _ _)
   | (with_reducible exact spec_BatchBytes.mono _ _ _ _ _ _)
   | (with_reducible exact spec_DrawBatchBytes.mono _ _)
   | (with_reducible exact spec_DrawSumOf.mono _ _)
   | (with_reducible exact spec_DrawTakeBatch.mono _ _)
   | (with_reducible exact spec_EndOf.mono _ _ _ _ _ _)
   | (with_reducible exact spec_SumOf.mono _ _)
   | (with_reducible exact spec_TakeBatch.mono _ _ _)
   | (with_reducible exact LeO.refl _)
   | (with_reducible exact LeO.none _)
   | (with_reducible refine LeO.ite ?_ ?_)
   | (with_reducible refine LeO.bind ?_ (fun _ => ?_))
   | exact ih0 _
   | exact impl_BatchBytes.mono _ _ _ _ _ _
   | exact impl_SumOf.mono _ _
   | exact impl_TakeBatch.mono _ _ _
   | exact laws_numberOf.mono _ _
   | exact laws_sameBatch.mono _ _ _ _ _ _ _ _ _ _ _
   | exact spec_BatchBytes.mono _ _ _ _ _ _
   | exact spec_DrawBatchBytes.mono _ _
   | exact spec_DrawSumOf.mono _ _
   | exact spec_DrawTakeBatch.mono _ _
   | exact spec_EndOf.mono _ _ _ _ _ _
   | exact spec_SumOf.mono _ _
   | exact spec_TakeBatch.mono _ _ _
   | exact LeO.none _
   | refine LeO.ite ?_ ?_
   | refine LeO.bind ?_ (fun _ => ?_)
theorem laws_FnBatches.mono : ∀ a0 a1 k, LeO (laws_FnBatches.f k a0 a1) (laws_FnBatches.f (k + 1) a0 a1) := by
 intro a0 a1 k
 have ih0 := laws_FnBatches.mono_l k
 unfold laws_FnBatches.f
 repeat' first
   | (with_reducible exact ih0 _)
   | (with_reducible exact impl_BatchBytes.mono _ _ _ _ _ _)
   | (with_reducible exact impl_SumOf.mono _ _)
   | (with_reducible exact impl_TakeBatch.mono _ _ _)
   | (with_reducible exact laws_numberOf.mono _ _)
   | (with_reducible exact laws_sameBatch.mono _ _ _ _ _ _ _ _ _ _ _)
   | (with_reducible exact spec_BatchBytes.mono _ _ _ _ _ _)
   | (with_reducible exact spec_DrawBatchBytes.mono _ _)
   | (with_reducible exact spec_DrawSumOf.mono _ _)
   | (with_reducible exact spec_DrawTakeBatch.mono _ _)
   | (with_reducible exact spec_EndOf.mono _ _ _ _ _ _)
   | (with_reducible exact spec_SumOf.mono _ _)
   | (with_reducible exact spec_TakeBatch.mono _ _ _)
   | (with_reducible exact LeO.refl _)
   | (with_reducible exact LeO.none _)
   | (with_reducible refine LeO.ite ?_ ?_)
   | (with_reducible refine LeO.bind ?_ (fun _ => ?_))
   | exact ih0 _
   | exact impl_BatchBytes.mono _ _ _ _ _ _
   | exact impl_SumOf.mono _ _
   | exact impl_TakeBatch.mono _ _ _
   | exact laws_numberOf.mono _ _
   | exact laws_sameBatch.mono _ _ _ _ _ _ _ _ _ _ _
   | exact spec_BatchBytes.mono _ _ _ _ _ _
   | exact spec_DrawBatchBytes.mono _ _
   | exact spec_DrawSumOf.mono _ _
   | exact spec_DrawTakeBatch.mono _ _
   | exact spec_EndOf.mono _ _ _ _ _ _
   | exact spec_SumOf.mono _ _
   | exact spec_TakeBatch.mono _ _ _
   | exact LeO.none _
   | refine LeO.ite ?_ ?_
   | refine LeO.bind ?_ (fun _ => ?_)
def laws_FnBatches.T16 : Bool × List (List Nat × List Nat) := (true, [([], []), ([], []), ([0, 1], [0, 1]), ([], []), ([], []), ([3, 4], [3, 4]), ([], []), ([6], [6]), ([7], [7]), ([8], [8]), ([9], [9]), ([5, 10], [5, 10]), ([11], [11]), ([12], [12]), ([2, 13], [2, 13]), ([], []), ([], []), ([16], [16]), ([15, 17], [15, 17]), ([14, 18], [14, 18]), ([19, 7, 0, 1, 2, 3, 4, 5, 6, 7, 8, 9, 10, 11, 12, 13, 14, 15, 16, 17, 18, 19], [19])])
def laws_FnBatches.B16 : List Nat := [0, 0, 3, 0, 0, 24, 0, 64, 192, 448, 960, 2040, 4088, 8184, 16383, 0, 0, 65536, 229376, 524287, 1048575]
theorem laws_FnBatches.tab16 : rtab .any (opsOf Try.f3 16) = laws_FnBatches.T16 := by kernel_rfl
theorem laws_FnBatches.bits16 : waitsOk laws_FnBatches.T16.2 laws_FnBatches.B16 = true := by kernel_rfl
set_option maxHeartbeats 8000000 in
set_option maxRecDepth 100000 in
theorem laws_FnBatches.calls (k : Nat) (A0 : Option Addr) (c0 : Nat) (l0 : List Int) (A1 : Option Addr) (c1 : Nat) (l1 : List Int) (r : Bool) (w : World) (hr0 : Kd.C (Kd.int .u8) w A0 l0.length l0) (hc0 : l0.length ≤ c0) (hr1 : Kd.C (Kd.int .u8) w A1 l1.length l1) (hc1 : l1.length ≤ c1) (h : laws_FnBatches.f k l0 l1 = some r) :
  Calls Try.prog 3 #[.slice A0 l0.length c0, .slice A1 l1.length c1] w fun e w' => e = .returned (.bool r) ∧ Below w.heap.size w w' := by
 have hu25 := Try.underlying25
 have HR0 := Aside0.mk hr0
 have HC0 := Aside0.mk hc0
 clear hr0 hc0
 have HR1 := Aside0.mk hr1
 have HC1 := Aside0.mk hc1
 clear hr1 hc1
 have HB := Aside0.mk (Below.refl w.heap.size w)
 have H : (if (wrap64 ((l0.length : Int) + (l1.length : Int))) > 1048576 then (some true) else ((spec_DrawBatchBytes.f k l0).bind fun bt360 => ((impl_BatchBytes.f k bt360.1 bt360.2.1 bt360.2.2.1 bt360.2.2.2.1 bt360.2.2.2.2).bind fun bt368 => ((spec_BatchBytes.f k bt360.1 bt360.2.1 bt360.2.2.1 bt360.2.2.2.1 bt360.2.2.2.2).bind fun bt370 => ((impl_EndOf.f bt360.1 bt360.2.1 bt360.2.2.1 bt360.2.2.2.1 bt360.2.2.2.2).bind fun bt372 => ((spec_EndOf.f k bt360.1 bt360.2.1 bt360.2.2.1 bt360.2.2.2.1 bt360.2.2.2.2).bind fun bt374 => (if (bt368.2 != bt370.2) = true then (none) else (if bt368.1.toList = bt370.1.toList then (if (bt372.2 != bt374.2) = true then (none) else (if bt372.1 = bt374.1 then ((impl_GoodBatch.f bt360.1 bt360.2.1 bt360.2.2.1 bt360.2.2.2.1 bt360.2.2.2.2).bind fun t376 => (if (t376 != bt370.2) = true then (none) else (if (bt368.2 != bt372.2) = true then (none) else (if bt368.2 = true then (if bt368.1.size + 1 ≤ 9223372036854775807 then ((impl_TakeBatch.f k (bt368.1 ++ (⟨#[120]⟩ : ByteArray)) 0).bind fun bt377 => (if 0 ≤ (wrap64 ((bt368.1.size : Int) - 2)) then (if (wrap64 ((bt368.1.size : Int) - 2)) ≤ (bt368.1.size : Int) then ((impl_SumOf.f k (bt368.1.extract 0 ((wrap64 ((bt368.1.size : Int) - 2)) : Int).toNat)).bind fun bt387 => (if bt377.2.2.2.2.2.2 = true then (if bt377.2.2.2.2.2.1 = (bt368.1.size : Int) then ((laws_sameBatch.f k bt377.1 bt377.2.1 bt377.2.2.1 bt377.2.2.2.1 bt377.2.2.2.2.1 bt360.1 bt360.2.1 bt360.2.2.1 bt360.2.2.2.1 bt360.2.2.2.2).bind fun t389 => (if t389 = true then (if bt372.1 = (wrap64 (bt360.1 + (bt360.2.2.2.2.length : Int))) then (if bt387.2 = true then (if (wrap64 ((bt368.1.size : Int) - 2)) < (bt368.1.size : Int) then (if (bt bt368.1 (wrap64 ((bt368.1.size : Int) - 2))) = ((bt387.1 / 256) % 256) then (if 0 ≤ (wrap64 ((bt368.1.size : Int) - 1)) then (if (wrap64 ((bt368.1.size : Int) - 1)) < (bt368.1.size : Int) then (if (bt bt368.1 (wrap64 ((bt368.1.size : Int) - 1))) = ((bt387.1) % 256) then ((laws_numberOf.f k l1).bind fun t390 => (if (bt368.1.size : Int) = 0 then (none) else (if 0 ≤ (Int.tmod t390 (bt368.1.size : Int)) then (if (Int.tmod t390 (bt368.1.size : Int)) ≤ (bt368.1.size : Int) then (if (Int.tmod t390 (bt368.1.size : Int)) < (bt368.1.size : Int) then ((laws_numberOf.f k l1).bind fun t391 => ((some (([Go.bits .xor .u8 (bt bt368.1 (Int.tmod t390 (bt368.1.size : Int))) ((wrap64 (1 + (Int.tmod t391 255))) % 256)] : List Int) : List Int)).bind fun y392 => (if (bt368.1.extract 0 ((Int.tmod t390 (bt368.1.size : Int)) : Int).toNat).size + (strOfNums y392).size ≤ 9223372036854775807 then (if 0 ≤ (wrap64 ((Int.tmod t390 (bt368.1.size : Int)) + 1)) then (if (wrap64 ((Int.tmod t390 (bt368.1.size : Int)) + 1)) ≤ (bt368.1.size : Int) then (if ((bt368.1.extract 0 ((Int.tmod t390 (bt368.1.size : Int)) : Int).toNat) ++ (strOfNums y392)).size + (bt368.1.extract ((wrap64 ((Int.tmod t390 (bt368.1.size : Int)) + 1)) : Int).toNat bt368.1.size).size ≤ 9223372036854775807 then ((impl_TakeBatch.f k (((bt368.1.extract 0 ((Int.tmod t390 (bt368.1.size : Int)) : Int).toNat) ++ (strOfNums y392)) ++ (bt368.1.extract ((wrap64 ((Int.tmod t390 (bt368.1.size : Int)) + 1)) : Int).toNat bt368.1.size)) 0).bind fun bt395 => (if bt395.2.2.2.2.2.2 = true then (none) else (laws_FnBatches.j0 k l1))) else (none)) else (none)) else (none)) else (none)))) else (none)) else (none)) else (none)))) else (none)) else (none)) else (none)) else (none)) else (none)) else (none)) else (none)) else (none))) else (none)) else (none))) else (none)) else (none))) else (none)) else (laws_FnBatches.j0 k l1))))) else (none))) else (none))))))))) = some r := h
 clear h
 replace H := ite_ H
 obtain ⟨c3, H⟩ | ⟨c3, H⟩ := H
 ·have c3b0 := dgt_ c3
  clear c3
  obtain rfl := Option.some.inj H
  go_enter Try.func3, Try.ntmps3
  go_wp2
  go_ret
  exact ⟨er_, hb_⟩
 have c3b0 := dgf_ c3
 clear c3
 replace H := bnd_ H
 obtain ⟨⟨t360, t361, t362, t363, t364⟩, A4, H⟩ := H
 replace H := red_ H
 replace H := bnd_ H
 obtain ⟨⟨t368, t369⟩, A5, H⟩ := H
 replace H := red_ H
 replace H := bnd_ H
 obtain ⟨⟨t370, t371⟩, A6, H⟩ := H
 replace H := red_ H
 replace H := bnd_ H
 obtain ⟨⟨t372, t373⟩, A7, H⟩ := H
 replace H := red_ H
 replace H := bnd_ H
 obtain ⟨⟨t374, t375⟩, A8, H⟩ := H
 replace H := red_ H
 replace H := ifx_ H
 obtain ⟨c9, H⟩ := H
 have c9b0 : (t369 != t371) = false := by simpa using c9
 (try (have c9b1 : decide (t369 = t371) = true := by simpa using c9))
 (try (have c9b2 : (t369 == t371) = true := by simpa using c9))
 clear c9
 replace H := ifs_ H
 obtain ⟨c10, H⟩ := H
 have c10b0 : (t368.toList == t370.toList) = true := beq_iff_eq.mpr c10
 have c10b1 : (t368.toList != t370.toList) = false := bne_eq_false_iff_eq.mpr c10
 clear c10
 replace H := ifx_ H
 obtain ⟨c11, H⟩ := H
 have c11b0 : (t373 != t375) = false := by simpa using c11
 (try (have c11b1 : decide (t373 = t375) = true := by simpa using c11))
 (try (have c11b2 : (t373 == t375) = true := by simpa using c11))
 clear c11
 replace H := ifs_ H
 obtain ⟨c12, H⟩ := H
 have c12b0 : (t372 == t374) = true := beq_iff_eq.mpr c12
 have c12b1 : (t372 != t374) = false := bne_eq_false_iff_eq.mpr c12
 clear c12
 replace H := bnd_ H
 obtain ⟨t376, A13, H⟩ := H
 replace H := ifx_ H
 obtain ⟨c14, H⟩ := H
 have c14b0 : (t376 != t371) = false := by simpa using c14
 (try (have c14b1 : decide (t376 = t371) = true := by simpa using c14))
 (try (have c14b2 : (t376 == t371) = true := by simpa using c14))
 clear c14
 replace H := ifx_ H
 obtain ⟨c15, H⟩ := H
 have c15b0 : (t369 != t373) = false := by simpa using c15
 (try (have c15b1 : decide (t369 = t373) = true := by simpa using c15))
 (try (have c15b2 : (t369 == t373) = true := by simpa using c15))
 clear c15
 have HC16 := Aside0.mk H
 clear H
 go_enter Try.func3, Try.ntmps3
 go_upto_if 96 with (first | ((with_reducible refine gate_callee (f := 5) rfl ?_); refine gl_ 46 Try.func5 #[.slice A0 l0.length c0] rfl ma_ ?_; (with_reducible refine (spec_DrawBatchBytes.calls k _ _ l0 t360 t361 t362 t363 t364 _ ?side1 ?side2 A4.out).mono ?_); (case side1 => exact cs_ (HR0.out)); (case side2 => exact HC0.out); rintro e w17 ⟨v365, rfl, ho0, hb⟩; refine ⟨_, rfl, ?_⟩; have HO366 := Aside0.mk (Kd.R_lower ho0 (below_size (hb_))); replace HB := nb_ hb; (try clear hb); (try clear hb2); (try clear hk); (try clear hi); (try clear ho0)) | ((with_reducible refine gate_dst (N := 5) rfl ?_); (try (refine gate_guard (by rfl) ?_; dsimp only)); refine be_ (N := 5) #[.int .i64 0, .int .i64 0, .int .i64 0, .int .i64 0, .slice none 0 0] 25 ?_; intro gb367 hg w18 hbox hb; replace HO366 := rB_ HO366 hb; have BK367 := Aside0.mk (hbox); have GW367 := ge_ hg; have GE367 := ge_ hg; replace HB := nb_ hb; clear hb hbox hg; obtain ⟨hcz19_0, hcz19_1, hcz19_2, hcz19_3, hcz19_4, hfz19_0, hfz19_1, hfz19_2, hfz19_3, hfz19_4⟩ := cf5_ BK367.out; obtain ⟨Ao20, co20, eo20⟩ := Kd.R_slice HO366.out; subst eo20) | ((with_reducible refine gate_callee (f := 6) rfl ?_); refine gl_ 49 Try.func6 #[.agg #[.int .i64 t360, .int .i64 t361, .int .i64 t362, .int .i64 t363, .slice Ao20 t364.length co20]] rfl ma_ ?_; (with_reducible refine (impl_BatchBytes.calls k t360 t361 t362 t363 _ _ t364 t368 t369 _ ?side1 ?side2 A5.out).mono ?_); (case side1 => refine (Kd.R_reads' (e := 9) (base := w.heap.size) (ok := fun k_ => True) (n := t364.length) (c := co20) ?_).2.2; exact (by (with_reducible repeat (first | apply Kd.R_alloc | apply Kd.R_drewN | apply Kd.R_drew)); exact (Kd.R_mono (Kd.R_far (p := ⟨gb367, 4, none⟩) (Kd.R_far (p := ⟨gb367, 3, none⟩) (Kd.R_far (p := ⟨gb367, 2, none⟩) (Kd.R_far (p := ⟨gb367, 1, none⟩) (Kd.R_far (p := ⟨gb367, 0, none⟩) (Kd.R_types HO366.out BK367.out (by decide)) (fun _ hk => hk.2) (.int .i64 t360)) (fun _ hk => hk.2) (.int .i64 t361)) (fun _ hk => hk.2) (.int .i64 t362)) (fun _ hk => hk.2) (.int .i64 t363)) (fun _ hk => hk.2) (.slice Ao20 t364.length co20)) (fun _ h_ => h_.1)))); (case side2 => exact (Kd.R_reads' HO366.out).2.1); rintro e w21 ⟨rfl, hb⟩; refine ⟨_, rfl, ?_⟩; replace HO366 := Aside0.mk (Kd.R_below (by (with_reducible repeat (first | apply Kd.R_alloc | apply Kd.R_drewN | apply Kd.R_drew)); exact (Kd.R_mono (Kd.R_far (p := ⟨gb367, 4, none⟩) (Kd.R_far (p := ⟨gb367, 3, none⟩) (Kd.R_far (p := ⟨gb367, 2, none⟩) (Kd.R_far (p := ⟨gb367, 1, none⟩) (Kd.R_far (p := ⟨gb367, 0, none⟩) (Kd.R_types HO366.out BK367.out (by decide)) (fun _ hk => hk.2) (.int .i64 t360)) (fun _ hk => hk.2) (.int .i64 t361)) (fun _ hk => hk.2) (.int .i64 t362)) (fun _ hk => hk.2) (.int .i64 t363)) (fun _ hk => hk.2) (.slice Ao20 t364.length co20)) (fun _ h_ => h_.1))) hb); replace BK367 := Aside0.mk (blk_below (g := gb367) (o := .cells #[.int .i64 t360, .int .i64 t361, .int .i64 t362, .int .i64 t363, .slice Ao20 t364.length co20] 25 (0, 0)) (by (with_reducible repeat (first | refine blk_drewN ?_ _ | refine blk_drew ?_ | refine blk_alloc ?_ _)); refine blk_put (cs := #[.int .i64 t360, .int .i64 t361, .int .i64 t362, .int .i64 t363, .slice none 0 0]) ?_ 4 _ rfl; (with_reducible repeat (first | refine blk_drewN ?_ _ | refine blk_drew ?_ | refine blk_alloc ?_ _)); refine blk_put (cs := #[.int .i64 t360, .int .i64 t361, .int .i64 t362, .int .i64 0, .slice none 0 0]) ?_ 3 _ rfl; (with_reducible repeat (first | refine blk_drewN ?_ _ | refine blk_drew ?_ | refine blk_alloc ?_ _)); refine blk_put (cs := #[.int .i64 t360, .int .i64 t361, .int .i64 0, .int .i64 0, .slice none 0 0]) ?_ 2 _ rfl; (with_reducible repeat (first | refine blk_drewN ?_ _ | refine blk_drew ?_ | refine blk_alloc ?_ _)); refine blk_put (cs := #[.int .i64 t360, .int .i64 0, .int .i64 0, .int .i64 0, .slice none 0 0]) ?_ 1 _ rfl; (with_reducible repeat (first | refine blk_drewN ?_ _ | refine blk_drew ?_ | refine blk_alloc ?_ _)); refine blk_put (cs := #[.int .i64 0, .int .i64 0, .int .i64 0, .int .i64 0, .slice none 0 0]) ?_ 0 _ rfl; (with_reducible repeat (first | refine blk_drewN ?_ _ | refine blk_drew ?_ | refine blk_alloc ?_ _)); exact BK367.out) hb); replace HB := nc_ GE367 hb; (try clear hb); (try clear hb2); (try clear hk); (try clear hi); obtain ⟨hcz22_0, hcz22_1, hcz22_2, hcz22_3, hcz22_4, hfz22_0, hfz22_1, hfz22_2, hfz22_3, hfz22_4⟩ := cf5_ BK367.out) | ((with_reducible refine gate_callee (f := 7) rfl ?_); refine gl_ 54 Try.func7 #[.agg #[.int .i64 t360, .int .i64 t361, .int .i64 t362, .int .i64 t363, .slice Ao20 t364.length co20]] rfl ma_ ?_; (with_reducible refine (spec_BatchBytes.calls k t360 t361 t362 t363 _ _ t364 t370 t371 _ ?side1 ?side2 A6.out).mono ?_); (case side1 => exact cs_ ((Kd.R_reads' HO366.out).2.2)); (case side2 => exact (Kd.R_reads' HO366.out).2.1); rintro e w23 ⟨rfl, hb⟩; refine ⟨_, rfl, ?_⟩; replace HO366 := rB_ HO366 hb; replace BK367 := bK_ BK367 hb; replace HB := nc_ GE367 hb; (try clear hb); (try clear hb2); (try clear hk); (try clear hi); obtain ⟨hcz24_0, hcz24_1, hcz24_2, hcz24_3, hcz24_4, hfz24_0, hfz24_1, hfz24_2, hfz24_3, hfz24_4⟩ := cf5_ BK367.out) | ((with_reducible refine gate_callee (f := 8) rfl ?_); refine gl_ 59 Try.func8 #[.agg #[.int .i64 t360, .int .i64 t361, .int .i64 t362, .int .i64 t363, .slice Ao20 t364.length co20]] rfl ma_ ?_; (with_reducible refine (impl_EndOf.calls t360 t361 t362 t363 _ _ t364 t372 t373 _ ?side1 ?side2 A7.out).mono ?_); (case side1 => exact cs_ ((Kd.R_reads' HO366.out).2.2)); (case side2 => exact (Kd.R_reads' HO366.out).2.1); rintro e w25 ⟨rfl, hb⟩; refine ⟨_, rfl, ?_⟩; replace HO366 := rB_ HO366 hb; replace BK367 := bK_ BK367 hb; replace HB := nc_ GE367 hb; (try clear hb); (try clear hb2); (try clear hk); (try clear hi); obtain ⟨hcz26_0, hcz26_1, hcz26_2, hcz26_3, hcz26_4, hfz26_0, hfz26_1, hfz26_2, hfz26_3, hfz26_4⟩ := cf5_ BK367.out) | ((with_reducible refine gate_callee (f := 9) rfl ?_); refine gl_ 64 Try.func9 #[.agg #[.int .i64 t360, .int .i64 t361, .int .i64 t362, .int .i64 t363, .slice Ao20 t364.length co20]] rfl ma_ ?_; (with_reducible refine (spec_EndOf.calls k t360 t361 t362 t363 _ _ t364 t374 t375 _ ?side1 ?side2 A8.out).mono ?_); (case side1 => exact cs_ ((Kd.R_reads' HO366.out).2.2)); (case side2 => exact (Kd.R_reads' HO366.out).2.1); rintro e w27 ⟨rfl, hb⟩; refine ⟨_, rfl, ?_⟩; replace HO366 := rB_ HO366 hb; replace BK367 := bK_ BK367 hb; replace HB := nc_ GE367 hb; (try clear hb); (try clear hb2); (try clear hk); (try clear hi); obtain ⟨hcz28_0, hcz28_1, hcz28_2, hcz28_3, hcz28_4, hfz28_0, hfz28_1, hfz28_2, hfz28_3, hfz28_4⟩ := cf5_ BK367.out) | (go_at_call 10; (with_reducible refine (impl_GoodBatch.calls t360 t361 t362 t363 _ _ t364 t376 _ ?side1 ?side2 A13.out).mono ?_); (case side1 => exact cs_ ((Kd.R_reads' HO366.out).2.2)); (case side2 => exact (Kd.R_reads' HO366.out).2.1); rintro e w29 ⟨rfl, hb⟩; replace HO366 := rB_ HO366 hb; replace BK367 := bK_ BK367 hb; replace HB := nc_ GE367 hb; (try clear hb); (try clear hb2); (try clear hk); (try clear hi)))
 (try simp only [Act.put, List.setIfInBounds_toArray, List.set_cons_zero, List.set_cons_succ])
 go_cut [] (fun wc => ∃ (kq : Nat), Aside0 (laws_FnBatches.j0 kq l1 = some r) ∧ Aside0 (kq ≤ k) ∧ Aside0 (Kd.R Kd.string 9 wc w.heap.size (fun _ => True) (.slice Ao20 t364.length co20) t364) ∧ Aside0 (wc.heap[gb367]? = some (.cells #[.int .i64 t360, .int .i64 t361, .int .i64 t362, .int .i64 t363, (.slice Ao20 t364.length co20)] 25 (0, 0))) ∧ Aside0 (Below w.heap.size w wc))
 case first =>
  have H := HC16.out
  clear HC16
  replace H := ifb_ H
  obtain ⟨rfl, H⟩ | ⟨rfl, H⟩ := H
  rotate_left
  ·have H' := Aside0.mk H
   clear H
   go_wp2
   go_meet
   case rel => exact ⟨_, H', ⟨by first | omega | exact Nat.le_refl _⟩, ⟨kr_ HO366.out⟩, ⟨kb_ BK367.out⟩, ⟨hs_ GE367.out⟩⟩
  replace H := ifs_ H
  obtain ⟨c31, H⟩ := H
  have c31b0 := eq_true c31
  have c31b1 := decide_eq_true c31
  try have c31b2 : (9223372036854775807 < t368.size + 1) = False := eq_false (Nat.not_lt.2 c31)
  replace H := bnd_ H
  obtain ⟨⟨t377, t378, t379, t380, t381, t384, t385⟩, A32, H⟩ := H
  replace H := red_ H
  obtain ⟨ji33, hji33⟩ : ∃ j_ : Int, (wrap64 ((t368.size : Int) - 2)) = j_ := ⟨_, rfl⟩
  first | rw [hji33] at H | simp only [hji33] at H
  (try rw [hji33] at A32)
  have hji33w : (IntKind.i64.wrap ((t368.size : Int) - 2)) = ji33 := (i64_w _).trans hji33
  replace H := ifs_ H
  obtain ⟨c34, H⟩ := H
  have c34b0 := eq_true c34
  have c34b1 := decide_eq_true c34
  clear c34
  replace H := ifs_ H
  obtain ⟨c35, H⟩ := H
  have c35b0 := eq_true c35
  have c35b1 := decide_eq_true c35
  clear c35
  replace H := bnd_ H
  obtain ⟨⟨t387, t388⟩, A36, H⟩ := H
  replace H := red_ H
  replace H := ifb_ H
  obtain ⟨rfl, H⟩ | ⟨rfl, H⟩ := H
  rotate_left
  ·exact absurd H (by simp)
  replace H := ifs_ H
  obtain ⟨c38, H⟩ := H
  have c38b0 : (t384 == (t368.size : Int)) = true := beq_iff_eq.mpr c38
  have c38b1 : (t384 != (t368.size : Int)) = false := bne_eq_false_iff_eq.mpr c38
  clear c38
  (first | rw [c38b0] | (simp only [i64_w, i32_w]; rw [c38b0]) | rw [c38b1] | skip)
  replace H := bnd_ H
  obtain ⟨t389, A39, H⟩ := H
  replace H := ifb_ H
  obtain ⟨rfl, H⟩ | ⟨rfl, H⟩ := H
  rotate_left
  ·exact absurd H (by simp)
  replace H := ifs_ H
  obtain ⟨c41, H⟩ := H
  have c41b0 : (t372 == (wrap64 (t360 + (t364.length : Int)))) = true := beq_iff_eq.mpr c41
  have c41b1 : (t372 != (wrap64 (t360 + (t364.length : Int)))) = false := bne_eq_false_iff_eq.mpr c41
  clear c41
  replace H := ifb_ H
  obtain ⟨rfl, H⟩ | ⟨rfl, H⟩ := H
  rotate_left
  ·exact absurd H (by simp)
  replace H := ifs_ H
  obtain ⟨c43, H⟩ := H
  have c43b0 := decide_eq_true c43
  clear c43
  replace H := ifs_ H
  obtain ⟨c45, H⟩ := H
  have c45b0 : ((bt t368 (ji33)) == ((t387 / 256) % 256)) = true := beq_iff_eq.mpr c45
  have c45b1 : ((bt t368 (ji33)) != ((t387 / 256) % 256)) = false := bne_eq_false_iff_eq.mpr c45
  clear c45
  obtain ⟨ji46, hji46⟩ : ∃ j_ : Int, (wrap64 ((t368.size : Int) - 1)) = j_ := ⟨_, rfl⟩
  first | rw [hji46] at H | simp only [hji46] at H
  (try rw [hji46] at A32)
  (try rw [hji46] at A36)
  (try rw [hji46] at A39)
  have hji46w : (IntKind.i64.wrap ((t368.size : Int) - 1)) = ji46 := (i64_w _).trans hji46
  replace H := ifs_ H
  obtain ⟨c47, H⟩ := H
  have c47b0 := decide_eq_true c47
  clear c47
  replace H := ifs_ H
  obtain ⟨c48, H⟩ := H
  have c48b0 := decide_eq_true c48
  clear c48
  replace H := ifs_ H
  obtain ⟨c50, H⟩ := H
  have c50b0 : ((bt t368 (ji46)) == ((t387) % 256)) = true := beq_iff_eq.mpr c50
  have c50b1 : ((bt t368 (ji46)) != ((t387) % 256)) = false := bne_eq_false_iff_eq.mpr c50
  clear c50
  replace H := bnd_ H
  obtain ⟨t390, A51, H⟩ := H
  replace H := ifx_ H
  obtain ⟨c52, H⟩ := H
  have c52b0 : ((t368.size : Int) == 0) = false := beq_eq_false_iff_ne.mpr c52
  have c52b1 : ((t368.size : Int) != 0) = true := bne_iff_ne.mpr c52
  obtain ⟨ji53, hji53⟩ : ∃ j_ : Int, (Int.tmod t390 (t368.size : Int)) = j_ := ⟨_, rfl⟩
  first | rw [hji53] at H | simp only [hji53] at H
  (try rw [hji53] at A32)
  (try rw [hji53] at A36)
  (try rw [hji53] at A39)
  (try rw [hji53] at A51)
  replace H := ifs_ H
  obtain ⟨c54, H⟩ := H
  have c54b0 := eq_true c54
  have c54b1 := decide_eq_true c54
  clear c54
  replace H := ifs_ H
  obtain ⟨c55, H⟩ := H
  have c55b0 := eq_true c55
  have c55b1 := decide_eq_true c55
  clear c55
  replace H := ifs_ H
  obtain ⟨c56, H⟩ := H
  have c56b0 := decide_eq_true c56
  clear c56
  replace H := bnd_ H
  obtain ⟨t391, A58, H⟩ := H
  obtain ⟨y392, hy392⟩ : ∃ y_ : List Int, y_ = (([Go.bits .xor .u8 (bt t368 (ji53)) ((wrap64 (1 + (Int.tmod t391 255))) % 256)] : List Int)) := ⟨_, rfl⟩
  replace H : (if (t368.extract 0 ((ji53) : Int).toNat).size + (strOfNums y392).size ≤ 9223372036854775807 then (if 0 ≤ (wrap64 ((ji53) + 1)) then (if (wrap64 ((ji53) + 1)) ≤ (t368.size : Int) then (if ((t368.extract 0 ((ji53) : Int).toNat) ++ (strOfNums y392)).size + (t368.extract ((wrap64 ((ji53) + 1)) : Int).toNat t368.size).size ≤ 9223372036854775807 then ((impl_TakeBatch.f k (((t368.extract 0 ((ji53) : Int).toNat) ++ (strOfNums y392)) ++ (t368.extract ((wrap64 ((ji53) + 1)) : Int).toNat t368.size)) 0).bind fun bt395 => (if bt395.2.2.2.2.2.2 = true then (none) else (laws_FnBatches.j0 k l1))) else (none)) else (none)) else (none)) else (none)) = some r := by first | (rw [hy392]; with_reducible exact H) | (have H2_ := (Option.bind_some _ _).symm.trans H; rw [hy392]; with_reducible exact H2_) | (have H2_ := (Option.bind_some _ _).symm.trans H; with_reducible exact H2_) | with_reducible exact H | (rw [hy392]; exact H) | exact H
  have Ny392 := Aside0.mk hy392
  clear hy392
  replace H := ifs_ H
  obtain ⟨c59, H⟩ := H
  have c59b0 := eq_true c59
  have c59b1 := decide_eq_true c59
  try have c59b2 : (9223372036854775807 < (t368.extract 0 ((ji53) : Int).toNat).size + (strOfNums y392).size) = False := eq_false (Nat.not_lt.2 c59)
  try have c59b5 : (9223372036854775807 < ji53.toNat + (strOfNums y392).size) = False := sx_ (of_decide_eq_true (by assumption) : (ji53) ≤ (t368.size : Int)) c59
  try have c59w := cw_ c59
  (try rw [c59w] at c3b0)
  (try rw [c59w] at c9b0)
  (try rw [c59w] at c10b0)
  (try rw [c59w] at c11b0)
  (try rw [c59w] at c12b0)
  (try rw [c59w] at c14b0)
  (try rw [c59w] at c15b0)
  (try rw [c59w] at c31b0)
  (try rw [c59w] at c34b0)
  (try rw [c59w] at c35b0)
  (try rw [c59w] at c38b0)
  (try rw [c59w] at c41b0)
  (try rw [c59w] at c43b0)
  (try rw [c59w] at c45b0)
  (try rw [c59w] at c47b0)
  (try rw [c59w] at c48b0)
  (try rw [c59w] at c50b0)
  (try rw [c59w] at c52b0)
  (try rw [c59w] at c54b0)
  (try rw [c59w] at c55b0)
  (try rw [c59w] at c56b0)
  obtain ⟨ji60, hji60⟩ : ∃ j_ : Int, (wrap64 ((ji53) + 1)) = j_ := ⟨_, rfl⟩
  first | rw [hji60] at H | simp only [hji60] at H
  (try rw [hji60] at A32)
  (try rw [hji60] at A36)
  (try rw [hji60] at A39)
  (try rw [hji60] at A51)
  (try rw [hji60] at A58)
  have hji60w : (IntKind.i64.wrap ((ji53) + 1)) = ji60 := (i64_w _).trans hji60
  replace H := ifs_ H
  obtain ⟨c61, H⟩ := H
  have c61b0 := eq_true c61
  have c61b1 := decide_eq_true c61
  clear c61
  replace H := ifs_ H
  obtain ⟨c62, H⟩ := H
  have c62b0 := eq_true c62
  have c62b1 := decide_eq_true c62
  clear c62
  replace H := ifs_ H
  obtain ⟨c63, H⟩ := H
  have c63b0 := eq_true c63
  have c63b1 := decide_eq_true c63
  (try (have c63x0 := c63b0; simp only [ByteArray.size_extract, Nat.min_self] at c63x0))
  (try (have c63x1 := c63b1; simp only [ByteArray.size_extract, Nat.min_self] at c63x1))
  try have c63b2 : (9223372036854775807 < ((t368.extract 0 ((ji53) : Int).toNat) ++ (strOfNums y392)).size + (t368.extract ((ji60) : Int).toNat t368.size).size) = False := eq_false (Nat.not_lt.2 c63)
  try have c63b3 : (t368.extract 0 ((ji53) : Int).toNat).size + (strOfNums y392).size + (t368.extract ((ji60) : Int).toNat t368.size).size ≤ 9223372036854775807 := by (have h_ := c63; simp only [ByteArray.size_append] at h_; exact h_)
  try have c63b5 : (9223372036854775807 < ji53.toNat + (strOfNums y392).size + (t368.size - ji60.toNat)) = False := sy_ (of_decide_eq_true (by assumption) : (ji53) ≤ (t368.size : Int)) c63b3
  try have c63b4 : (9223372036854775807 < (t368.extract 0 ((ji53) : Int).toNat).size + (strOfNums y392).size + (t368.extract ((ji60) : Int).toNat t368.size).size) = False := eq_false (Nat.not_lt.2 c63b3)
  try have c63w := cw_ c63
  (try rw [c63w] at c3b0)
  (try rw [c63w] at c9b0)
  (try rw [c63w] at c10b0)
  (try rw [c63w] at c11b0)
  (try rw [c63w] at c12b0)
  (try rw [c63w] at c14b0)
  (try rw [c63w] at c15b0)
  (try rw [c63w] at c31b0)
  (try rw [c63w] at c34b0)
  (try rw [c63w] at c35b0)
  (try rw [c63w] at c38b0)
  (try rw [c63w] at c41b0)
  (try rw [c63w] at c43b0)
  (try rw [c63w] at c45b0)
  (try rw [c63w] at c47b0)
  (try rw [c63w] at c48b0)
  (try rw [c63w] at c50b0)
  (try rw [c63w] at c52b0)
  (try rw [c63w] at c54b0)
  (try rw [c63w] at c55b0)
  (try rw [c63w] at c56b0)
  (try rw [c63w] at c59b0)
  (try rw [c63w] at c61b0)
  (try rw [c63w] at c62b0)
  replace H := bnd_ H
  obtain ⟨⟨t395, t396, t397, t398, t399, t402, t403⟩, A64, H⟩ := H
  replace H := red_ H
  replace H := ifb_ H
  obtain ⟨rfl, H⟩ | ⟨rfl, H⟩ := H
  ·exact absurd H (by simp)
  have H' := Aside0.mk H
  clear H
  try go_wp2_with (first | ((with_reducible refine gate_callee (f := 11) rfl ?_); refine gl_ 100 Try.func11 #[.string (t368 ++ (⟨#[120]⟩ : ByteArray)), .int .i64 0] rfl ma_ ?_; (with_reducible refine (impl_TakeBatch.calls k (t368 ++ (⟨#[120]⟩ : ByteArray)) 0 t377 t378 t379 t380 t381 t384 true _ A32.out).mono ?_); rintro e w66 ⟨v382, rfl, ho0, hb⟩; refine ⟨_, rfl, ?_⟩; have HO383 := Aside0.mk (Kd.R_lower (Kd.R_new' ho0 (Kd.R_lt (kr_ HO366.out))) (below_size (hs_ GE367.out))); replace HO366 := Aside0.mk (Kd.R_elder' (kr_ HO366.out) (Kd.R_base ho0) hb); replace BK367 := bK_ BK367 hb; replace HB := nc_ GE367 hb; (try clear hb); (try clear hb2); (try clear hk); (try clear hi); (try clear ho0)) | ((with_reducible refine gate_dst (N := 14) rfl ?_); (try (refine gate_guard (by rfl) ?_; dsimp only)); refine be_ (N := 14) #[.int .i64 0, .int .i64 0, .int .i64 0, .int .i64 0, .slice none 0 0] 25 ?_; intro gb386 hg w67 hbox hb; replace HO366 := rB_ HO366 hb; replace HO383 := rB_ HO383 hb; have BK386 := Aside0.mk (hbox); have GW386 := ge1_ hg GE367; have GE386 := ge1_ hg GE367; replace HB := nc_ GE367 hb; have NB367_386 := nl_ BK367 hg; have NB386_367 := ng_ BK367 hg; replace BK367 := bK_ BK367 hb; clear hb hbox hg; have hnb68 := NB386_367.out; have hnc68 := NB367_386.out; obtain ⟨hcz69_0, hcz69_1, hcz69_2, hcz69_3, hcz69_4, hfz69_0, hfz69_1, hfz69_2, hfz69_3, hfz69_4⟩ := cf5_ BK386.out; obtain ⟨Ao70, co70, eo70⟩ := Kd.R_slice HO383.out; subst eo70) | ((with_reducible refine gate_callee (f := 12) rfl ?_); refine gl_ 110 Try.func12 #[.string (t368.extract 0 ((ji33) : Int).toNat)] rfl (mb_ hji33) ?_; (with_reducible refine (impl_SumOf.calls k (t368.extract 0 ((ji33) : Int).toNat) t387 true _ A36.out).mono ?_); rintro e w' ⟨rfl, ⟨nd, rfl⟩⟩; refine ⟨_, rfl, ?_⟩; obtain ⟨hcz71_0, hcz71_1, hcz71_2, hcz71_3, hcz71_4, hfz71_0, hfz71_1, hfz71_2, hfz71_3, hfz71_4⟩ := cf5_ BK367.out) | (go_at_call 13; (with_reducible refine (laws_sameBatch.calls k t377 t378 t379 t380 _ _ t381 t360 t361 t362 t363 _ _ t364 true _ ?side1 ?side2 ?side3 ?side4 A39.out).mono ?_); (case side1 => refine (Kd.R_reads' (e := 9) (base := w.heap.size) (ok := fun k_ => (True ∧ some k_ ≠ (.slice Ao20 t364.length co20 : Value).ownBlock)) (n := t381.length) (c := co70) ?_).2.2; exact (by (with_reducible repeat (first | apply Kd.R_alloc | apply Kd.R_drewN | apply Kd.R_drew)); exact (Kd.R_mono (Kd.R_far (p := ⟨gb386, 4, none⟩) (Kd.R_far (p := ⟨gb386, 3, none⟩) (Kd.R_far (p := ⟨gb386, 2, none⟩) (Kd.R_far (p := ⟨gb386, 1, none⟩) (Kd.R_far (p := ⟨gb386, 0, none⟩) (Kd.R_types HO383.out BK386.out (by decide)) (fun _ hk => hk.2) (.int .i64 t377)) (fun _ hk => hk.2) (.int .i64 t378)) (fun _ hk => hk.2) (.int .i64 t379)) (fun _ hk => hk.2) (.int .i64 t380)) (fun _ hk => hk.2) (.slice Ao70 t381.length co70)) (fun _ h_ => h_.1)))); (case side2 => exact (Kd.R_reads' HO383.out).2.1); (case side3 => refine (Kd.R_reads' (e := 9) (base := w.heap.size) (ok := fun k_ => (True ∧ some k_ ≠ (.slice Ao70 t381.length co70 : Value).ownBlock)) (n := t364.length) (c := co20) ?_).2.2; exact (by (with_reducible repeat (first | apply Kd.R_alloc | apply Kd.R_drewN | apply Kd.R_drew)); exact (Kd.R_mono (Kd.R_far (p := ⟨gb386, 4, none⟩) (Kd.R_far (p := ⟨gb386, 3, none⟩) (Kd.R_far (p := ⟨gb386, 2, none⟩) (Kd.R_far (p := ⟨gb386, 1, none⟩) (Kd.R_far (p := ⟨gb386, 0, none⟩) (Kd.R_types HO366.out BK386.out (by decide)) (fun _ hk => hk.2) (.int .i64 t377)) (fun _ hk => hk.2) (.int .i64 t378)) (fun _ hk => hk.2) (.int .i64 t379)) (fun _ hk => hk.2) (.int .i64 t380)) (fun _ hk => hk.2) (.slice Ao70 t381.length co70)) (fun _ h_ => h_.1)))); (case side4 => exact (Kd.R_reads' HO366.out).2.1); rintro e w72 ⟨rfl, hb⟩; replace HO366 := Aside0.mk (Kd.R_below (by (with_reducible repeat (first | apply Kd.R_alloc | apply Kd.R_drewN | apply Kd.R_drew)); exact (Kd.R_mono (Kd.R_far (p := ⟨gb386, 4, none⟩) (Kd.R_far (p := ⟨gb386, 3, none⟩) (Kd.R_far (p := ⟨gb386, 2, none⟩) (Kd.R_far (p := ⟨gb386, 1, none⟩) (Kd.R_far (p := ⟨gb386, 0, none⟩) (Kd.R_types HO366.out BK386.out (by decide)) (fun _ hk => hk.2) (.int .i64 t377)) (fun _ hk => hk.2) (.int .i64 t378)) (fun _ hk => hk.2) (.int .i64 t379)) (fun _ hk => hk.2) (.int .i64 t380)) (fun _ hk => hk.2) (.slice Ao70 t381.length co70)) (fun _ h_ => h_.1))) hb); replace HO383 := Aside0.mk (Kd.R_below (by (with_reducible repeat (first | apply Kd.R_alloc | apply Kd.R_drewN | apply Kd.R_drew)); exact (Kd.R_mono (Kd.R_far (p := ⟨gb386, 4, none⟩) (Kd.R_far (p := ⟨gb386, 3, none⟩) (Kd.R_far (p := ⟨gb386, 2, none⟩) (Kd.R_far (p := ⟨gb386, 1, none⟩) (Kd.R_far (p := ⟨gb386, 0, none⟩) (Kd.R_types HO383.out BK386.out (by decide)) (fun _ hk => hk.2) (.int .i64 t377)) (fun _ hk => hk.2) (.int .i64 t378)) (fun _ hk => hk.2) (.int .i64 t379)) (fun _ hk => hk.2) (.int .i64 t380)) (fun _ hk => hk.2) (.slice Ao70 t381.length co70)) (fun _ h_ => h_.1))) hb); replace BK367 := Aside0.mk (blk_below (g := gb367) (o := .cells #[.int .i64 t360, .int .i64 t361, .int .i64 t362, .int .i64 t363, .slice Ao20 t364.length co20] 25 (0, 0)) (by (with_reducible repeat (first | refine blk_drewN ?_ _ | refine blk_drew ?_ | refine blk_alloc ?_ _)); refine blk_far ?_ NB367_386.out _; (with_reducible repeat (first | refine blk_drewN ?_ _ | refine blk_drew ?_ | refine blk_alloc ?_ _)); refine blk_far ?_ NB367_386.out _; (with_reducible repeat (first | refine blk_drewN ?_ _ | refine blk_drew ?_ | refine blk_alloc ?_ _)); refine blk_far ?_ NB367_386.out _; (with_reducible repeat (first | refine blk_drewN ?_ _ | refine blk_drew ?_ | refine blk_alloc ?_ _)); refine blk_far ?_ NB367_386.out _; (with_reducible repeat (first | refine blk_drewN ?_ _ | refine blk_drew ?_ | refine blk_alloc ?_ _)); refine blk_far ?_ NB367_386.out _; (with_reducible repeat (first | refine blk_drewN ?_ _ | refine blk_drew ?_ | refine blk_alloc ?_ _)); exact BK367.out) hb); replace BK386 := Aside0.mk (blk_below (g := gb386) (o := .cells #[.int .i64 t377, .int .i64 t378, .int .i64 t379, .int .i64 t380, .slice Ao70 t381.length co70] 25 (0, 0)) (by (with_reducible repeat (first | refine blk_drewN ?_ _ | refine blk_drew ?_ | refine blk_alloc ?_ _)); refine blk_put (cs := #[.int .i64 t377, .int .i64 t378, .int .i64 t379, .int .i64 t380, .slice none 0 0]) ?_ 4 _ rfl; (with_reducible repeat (first | refine blk_drewN ?_ _ | refine blk_drew ?_ | refine blk_alloc ?_ _)); refine blk_put (cs := #[.int .i64 t377, .int .i64 t378, .int .i64 t379, .int .i64 0, .slice none 0 0]) ?_ 3 _ rfl; (with_reducible repeat (first | refine blk_drewN ?_ _ | refine blk_drew ?_ | refine blk_alloc ?_ _)); refine blk_put (cs := #[.int .i64 t377, .int .i64 t378, .int .i64 0, .int .i64 0, .slice none 0 0]) ?_ 2 _ rfl; (with_reducible repeat (first | refine blk_drewN ?_ _ | refine blk_drew ?_ | refine blk_alloc ?_ _)); refine blk_put (cs := #[.int .i64 t377, .int .i64 0, .int .i64 0, .int .i64 0, .slice none 0 0]) ?_ 1 _ rfl; (with_reducible repeat (first | refine blk_drewN ?_ _ | refine blk_drew ?_ | refine blk_alloc ?_ _)); refine blk_put (cs := #[.int .i64 0, .int .i64 0, .int .i64 0, .int .i64 0, .slice none 0 0]) ?_ 0 _ rfl; (with_reducible repeat (first | refine blk_drewN ?_ _ | refine blk_drew ?_ | refine blk_alloc ?_ _)); exact BK386.out) hb); replace HB := nc2_ GE367 GE386 hb; (try clear hb); (try clear hb2); (try clear hk); (try clear hi); obtain ⟨hcz73_0, hcz73_1, hcz73_2, hcz73_3, hcz73_4, hfz73_0, hfz73_1, hfz73_2, hfz73_3, hfz73_4⟩ := cf5_ BK367.out; have p44 : 0 ≤ ((ji33) : Int) := oa_; have q44 : (ji33) < (t368.size : Int) := oa_; have hx44 := bt_at t368 (ji33); replace p44 := eq_true p44; replace q44 := eq_true q44; have p49 : 0 ≤ ((ji46) : Int) := oa_; have q49 : (ji46) < (t368.size : Int) := oa_; have hx49 := bt_at t368 (ji46); replace p49 := eq_true p49; replace q49 := eq_true q49) | ((with_reducible refine gate_callee (f := 14) rfl ?_); refine gl_ 163 Try.func14 #[.slice A1 l1.length c1] rfl ma_ ?_; (with_reducible refine (laws_numberOf.calls k _ _ l1 t390 _ ?side1 ?side2 A51.out).mono ?_); (case side1 => exact cs_ ((Kd.C_below HR1.out HB.out))); (case side2 => exact HC1.out); rintro e w' ⟨rfl, ⟨nd, rfl⟩⟩; refine ⟨_, rfl, ?_⟩; (try (rw [drewN_self w72]; generalize hq_ : World.drewN w72 _ = w72; have n0_ : Aside0 (Kd.R Kd.string 9 w72 w.heap.size (fun k_ => some k_ ≠ (.slice Ao70 t381.length co70 : Value).ownBlock) (.slice Ao20 t364.length co20) t364) := ⟨by rw [← hq_]; exact (by (with_reducible repeat (first | apply Kd.R_alloc | apply Kd.R_drewN | apply Kd.R_drew)); exact Kd.R_mono HO366.out (fun _ hk => hk.2))⟩; have n1_ : Aside0 (Kd.R Kd.string 9 w72 w.heap.size (fun k_ => some k_ ≠ (.slice Ao20 t364.length co20 : Value).ownBlock) (.slice Ao70 t381.length co70) t381) := ⟨by rw [← hq_]; exact (by (with_reducible repeat (first | apply Kd.R_alloc | apply Kd.R_drewN | apply Kd.R_drew)); exact Kd.R_mono HO383.out (fun _ hk => hk.2))⟩; have n2_ : Aside0 (w72.heap[gb367]? = some (.cells #[.int .i64 t360, .int .i64 t361, .int .i64 t362, .int .i64 t363, .slice Ao20 t364.length co20] 25 (0, 0))) := ⟨by rw [← hq_]; exact (kb_ BK367.out)⟩; have n3_ : Aside0 (w72.heap[gb386]? = some (.cells #[.int .i64 t377, .int .i64 t378, .int .i64 t379, .int .i64 t380, .slice Ao70 t381.length co70] 25 (0, 0))) := ⟨by rw [← hq_]; exact (kb_ BK386.out)⟩; have n4_ : Aside0 (Below w.heap.size w w72) := ⟨by rw [← hq_]; exact (hs2_ GE367.out GE386.out)⟩; clear HO366 HO383 BK367 BK386 HB hq_; have HO366 := n0_; have HO383 := n1_; have BK367 := n2_; have BK386 := n3_; have HB := n4_; clear n0_ n1_ n2_ n3_ n4_; (try (have hcu367_0 : w72.cell? ⟨gb367, 0, none⟩ = some (.int .i64 t360) := (blk_cell BK367.out 0).trans rfl)); (try (have hfu367_0 := blk_frozen BK367.out 0)); (try (have hcu367_1 : w72.cell? ⟨gb367, 1, none⟩ = some (.int .i64 t361) := (blk_cell BK367.out 1).trans rfl)); (try (have hfu367_1 := blk_frozen BK367.out 1)); (try (have hcu367_2 : w72.cell? ⟨gb367, 2, none⟩ = some (.int .i64 t362) := (blk_cell BK367.out 2).trans rfl)); (try (have hfu367_2 := blk_frozen BK367.out 2)); (try (have hcu367_3 : w72.cell? ⟨gb367, 3, none⟩ = some (.int .i64 t363) := (blk_cell BK367.out 3).trans rfl)); (try (have hfu367_3 := blk_frozen BK367.out 3)); (try (have hcu367_4 : w72.cell? ⟨gb367, 4, none⟩ = some (.slice Ao20 t364.length co20) := (blk_cell BK367.out 4).trans rfl)); (try (have hfu367_4 := blk_frozen BK367.out 4))))))
  replace HO366 := qR_ HO366
  replace HO383 := qR_ HO383
  replace BK367 := qK_ BK367
  replace BK386 := qK_ BK386
  replace HB := qH_ HB
  have p57 : 0 ≤ ((ji53) : Int) := oa_
  have q57 : (ji53) < (t368.size : Int) := oa_
  have hx57 := bt_at t368 (ji53)
  replace p57 := eq_true p57
  replace q57 := eq_true q57
  refine start_ (n := 21) (S := fun w' => True) (ds := []) #[false, false, false, false, false, false, false, false, false, false, false, false, false, false, false, false, false, false, false, false, false] (by kernel_rfl) rfl rfl trivial (fun hHeld => ?_); refine with_tabW laws_FnBatches.tab16 laws_FnBatches.bits16 (fun HT_ HW_ => ?_)
  generalize w72.drew = w74 at HO366 HO383 BK367 BK386 HB hHeld ⊢
  refine pv_ 0 167 ?_
  refine pv_ 1 168 ?_
  refine pv_ 2 169 ?_
  refine pv_ 3 170 ?_
  refine pv_ 4 171 ?_
  refine pv_ 6 173 ?_
  refine pv_ 15 182 ?_
  refine pv_ 16 183 ?_
  refine pv_ 17 184 ?_
  refine pv_ 18 185 ?_
  refine take_ (i := 5) (N := some 172) (v := ?_) (a' := ?_) #[true, true, true, true, true, true, true, false, false, false, false, false, false, false, false, true, true, true, true, false, false] rfl rfl (take_ofW HT_.out HW_.out (by kernel_rfl)) (fun _ _ _ h => h) (Or.inl ⟨by rfl, ?_⟩) hHeld ?_ ?_
  rotate_left
  ·intro w' _
   go_simp
   with_reducible rfl
  rotate_left
  ·simp only [Act.put, List.setIfInBounds_toArray, List.set_cons_zero, List.set_cons_succ, i64_w, i32_w]
   rfl
  refine one_ (i := 7) (N := some 174) #[true, true, true, true, true, true, true, true, false, false, false, false, false, false, false, true, true, true, true, false, false] rfl rfl (one_of HT_.out (by kernel_rfl)) (by decide) (fun K hK => ?_)
  refine gs_ Try.func14 #[.slice A1 l1.length c1] rfl ma_ ?_
  with_reducible refine (laws_numberOf.calls k _ _ l1 t391 _ ?side1 ?side2 A58.out).mono ?_
  (case side1 => exact cs_ ((Kd.C_below HR1.out HB.out)))
  (case side2 => exact HC1.out)
  rintro e w' ⟨rfl, ⟨nd, rfl⟩⟩
  refine ⟨_, rfl, ?_⟩
  refine hK.out _ _ trivial (fun hHeld => ?_)
  clear hK K
  refine no_ ?_
  refine pv_ 8 175 ?_
  refine pv_ 9 176 ?_
  refine pv_ 10 177 ?_
  refine pv_ 11 178 ?_
  refine one_ (i := 12) (N := some 179) #[true, true, true, true, true, true, true, true, true, true, true, true, true, false, false, true, true, true, true, false, false] rfl rfl (one_of HT_.out (by kernel_rfl)) (by decide) (fun K hK => ?_)
  refine Kd.R_lit_step (Kd.int .u8) _ 5 ?hg (N := 179) ?hd (xs := ([Go.bits .xor .u8 (bt t368 (ji53)) ((wrap64 (1 + (Int.tmod t391 255))) % 256)] : List Int)) (inner := [.int .u8 (Go.bits .xor .u8 (bt t368 (ji53)) ((wrap64 (1 + (Int.tmod t391 255))) % 256))]) (ok := fun _ => True) (okp := fun _ => True) ?hr ?hp (fun _ hk => hk) trivial (Below.refl _ _) (Nat.le_refl _) (by simp) ?_; (case hd => rfl); (case hg => rfl); (case hr => first | (go_simp; done) | (go_simp; rfl)); (case hp => exact (Reps.one (show Kd.M (Kd.int .u8) _ _ _ (Go.bits .xor .u8 (bt t368 (ji53)) ((wrap64 (1 + (Int.tmod t391 255))) % 256)) [.int .u8 (Go.bits .xor .u8 (bt t368 (ji53)) ((wrap64 (1 + (Int.tmod t391 255))) % 256))] from rfl) (Reps.none _ _)))
  intro v393 w75 ho76 hb hg_ hnew_
  clear hg_ hnew_
  (first | rw [← Ny392.out] at ho76 | (simp only [Int.reduceToNat] at ho76; rw [← Ny392.out] at ho76))
  replace HO366 := rB_ HO366 hb
  replace HO383 := rB_ HO383 hb
  have HO394 := Aside0.mk (Kd.R_lower ho76 (below_size (hs2_ GE367.out GE386.out)))
  replace BK367 := bK_ BK367 hb
  replace BK386 := bK_ BK386 hb
  replace HB := nc2_ GE367 GE386 hb
  clear hb ho76
  refine hK.out _ _ trivial (fun hHeld => ?_)
  clear hK K
  refine no_ ?_
  refine one_ (i := 13) (N := some 180) #[true, true, true, true, true, true, true, true, true, true, true, true, true, true, false, true, true, true, true, false, false] rfl rfl (one_of HT_.out (by kernel_rfl)) (by decide) (fun K hK => ?_)
  have hcv77 := own_string (P := Try.prog) Try.underlying22 Try.underlying5 Try.underlying9 (Kd.own_of_R HO394.out)
  refine value_ (w1 := ?_) (v := ?_) (by rfl) rfl ?_ ?_
  rotate_left 2
  ·go_simp
   constructor
   ·rfl
   ·rfl
  clear hcv77
  refine hK.out _ _ trivial (fun hHeld => ?_)
  clear hK K
  refine no_ ?_
  refine pv_ 14 181 ?_
  refine pv_ 19 186 ?_
  refine pv_ 20 20 ?_
  refine done_ (done_of HT_.out (by kernel_rfl)) ?_
  try go_wp2_with (first | ((with_reducible refine gate_callee (f := 11) rfl ?_); refine gl_ 189 Try.func11 #[.string (((t368.extract 0 ((ji53) : Int).toNat) ++ (strOfNums y392)) ++ (t368.extract ((ji60) : Int).toNat t368.size)), .int .i64 0] rfl (mc_ hji53 hji60) ?_; (with_reducible refine (impl_TakeBatch.calls k (((t368.extract 0 ((ji53) : Int).toNat) ++ (strOfNums y392)) ++ (t368.extract ((ji60) : Int).toNat t368.size)) 0 t395 t396 t397 t398 t399 t402 false _ A64.out).mono ?_); rintro e w78 ⟨v400, rfl, ho0, hb⟩; refine ⟨_, rfl, ?_⟩; replace HO394 := rB_ HO394 hb; have HO401 := Aside0.mk (Kd.R_lower (Kd.R_new' (Kd.R_new' ho0 (Kd.R_lt (kr_ HO366.out))) (Kd.R_lt (kr_ HO383.out))) (below_size (hs2_ GE367.out GE386.out))); replace HO366 := Aside0.mk (Kd.R_elder' (kr_ HO366.out) (Kd.R_base ho0) hb); replace HO383 := Aside0.mk (Kd.R_elder' (kr_ HO383.out) (Kd.R_base ho0) hb); replace BK367 := bK_ BK367 hb; replace BK386 := bK_ BK386 hb; replace HB := nc2_ GE367 GE386 hb; (try clear hb); (try clear hb2); (try clear hk); (try clear hi); (try clear ho0)) | ((with_reducible refine gate_dst (N := 21) rfl ?_); (try (refine gate_guard (by rfl) ?_; dsimp only)); refine be_ (N := 21) #[.int .i64 0, .int .i64 0, .int .i64 0, .int .i64 0, .slice none 0 0] 25 ?_; intro gb404 hg w79 hbox hb; replace HO366 := rB_ HO366 hb; replace HO383 := rB_ HO383 hb; replace HO394 := rB_ HO394 hb; replace HO401 := rB_ HO401 hb; have BK404 := Aside0.mk (hbox); have GW404 := ge2_ hg GE367 GE386; have GE404 := ge2_ hg GE367 GE386; replace HB := nc2_ GE367 GE386 hb; have NB367_404 := nl_ BK367 hg; have NB404_367 := ng_ BK367 hg; replace BK367 := bK_ BK367 hb; have NB386_404 := nl_ BK386 hg; have NB404_386 := ng_ BK386 hg; replace BK386 := bK_ BK386 hb; clear hb hbox hg; have hnb80 := NB404_367.out; have hnc80 := NB367_404.out; have hnb81 := NB404_386.out; have hnc81 := NB386_404.out; obtain ⟨hcz82_0, hcz82_1, hcz82_2, hcz82_3, hcz82_4, hfz82_0, hfz82_1, hfz82_2, hfz82_3, hfz82_4⟩ := cf5_ BK404.out; obtain ⟨Ao83, co83, eo83⟩ := Kd.R_slice HO401.out; subst eo83))
  go_meet
  case rel => exact ⟨_, H', ⟨by first | omega | exact Nat.le_refl _⟩, ⟨by (with_reducible repeat (first | apply Kd.R_alloc | apply Kd.R_drewN | apply Kd.R_drew)); exact Kd.R_mono (Kd.R_far (p := ⟨gb404, 4, none⟩) (Kd.R_far (p := ⟨gb404, 3, none⟩) (Kd.R_far (p := ⟨gb404, 2, none⟩) (Kd.R_far (p := ⟨gb404, 1, none⟩) (Kd.R_far (p := ⟨gb404, 0, none⟩) (Kd.R_types HO366.out BK404.out (by decide)) (fun _ hk => hk.2) (.int .i64 t395)) (fun _ hk => hk.2) (.int .i64 t396)) (fun _ hk => hk.2) (.int .i64 t397)) (fun _ hk => hk.2) (.int .i64 t398)) (fun _ hk => hk.2) (.slice Ao83 t399.length co83)) (fun _ hk => trivial)⟩, ⟨by (with_reducible repeat (first | refine blk_drewN ?_ _ | refine blk_drew ?_ | refine blk_alloc ?_ _)); refine blk_far ?_ NB367_404.out _; (with_reducible repeat (first | refine blk_drewN ?_ _ | refine blk_drew ?_ | refine blk_alloc ?_ _)); refine blk_far ?_ NB367_404.out _; (with_reducible repeat (first | refine blk_drewN ?_ _ | refine blk_drew ?_ | refine blk_alloc ?_ _)); refine blk_far ?_ NB367_404.out _; (with_reducible repeat (first | refine blk_drewN ?_ _ | refine blk_drew ?_ | refine blk_alloc ?_ _)); refine blk_far ?_ NB367_404.out _; (with_reducible repeat (first | refine blk_drewN ?_ _ | refine blk_drew ?_ | refine blk_alloc ?_ _)); refine blk_far ?_ NB367_404.out _; (with_reducible repeat (first | refine blk_drewN ?_ _ | refine blk_drew ?_ | refine blk_alloc ?_ _)); exact BK367.out⟩, ⟨hs3_ GE367.out GE386.out GE404.out⟩⟩
 case rest =>
  clear HC16
  try clear c1
  try clear c1b0
  try clear c2
  try clear c2b0
  try clear p2
  try clear c3
  try clear c3b0
  try clear c4
  try clear c4b0
  try clear p4
  try clear q4
  try clear hx4
  try clear c5
  try clear c5b0
  try clear p5
  try clear q5
  try clear hx5
  try clear c6
  try clear c6b0
  try clear p6
  try clear c7
  try clear c7b0
  try clear hcv7
  try clear c8
  try clear c8b0
  try clear c9
  try clear c9b0
  try clear c10
  try clear c10b0
  try clear c11
  try clear c11b0
  try clear c12
  try clear c12b0
  try clear c13
  try clear c13b0
  try clear c14
  try clear c14b0
  try clear c15
  try clear c15b0
  try clear c16
  try clear c16b0
  try clear c17
  try clear c17b0
  try clear c18
  try clear c18b0
  try clear c19
  try clear c19b0
  try clear c20
  try clear c20b0
  try clear c21
  try clear c21b0
  try clear c22
  try clear c22b0
  try clear c23
  try clear c23b0
  try clear c24
  try clear c24b0
  try clear c25
  try clear c25b0
  try clear c26
  try clear c26b0
  try clear c27
  try clear c27b0
  try clear c28
  try clear c28b0
  try clear c29
  try clear c29b0
  try clear c30
  try clear c30b0
  try clear c31
  try clear c31b0
  try clear c32
  try clear c32b0
  try clear c33
  try clear c33b0
  try clear c34
  try clear c34b0
  try clear c34b1
  try clear c35
  try clear c35b0
  try clear c35b1
  try clear c36
  try clear c36b0
  try clear c37
  try clear c37b0
  try clear c38
  try clear c38b0
  try clear c38b1
  try clear c39
  try clear c39b0
  try clear c40
  try clear c40b0
  try clear c41
  try clear c41b0
  try clear c41b1
  try clear c42
  try clear c42b0
  try clear c43
  try clear c43b0
  try clear c44
  try clear c44b0
  try clear p44
  try clear q44
  try clear hx44
  try clear c45
  try clear c45b0
  try clear c45b1
  try clear c46
  try clear c46b0
  try clear c47
  try clear c47b0
  try clear c48
  try clear c48b0
  try clear c49
  try clear c49b0
  try clear p49
  try clear q49
  try clear hx49
  try clear c50
  try clear c50b0
  try clear c50b1
  try clear c51
  try clear c51b0
  try clear c52
  try clear c52b0
  try clear c52b1
  try clear c53
  try clear c53b0
  try clear c54
  try clear c54b0
  try clear c54b1
  try clear c55
  try clear c55b0
  try clear c55b1
  try clear c56
  try clear c56b0
  try clear c57
  try clear c57b0
  try clear p57
  try clear q57
  try clear hx57
  try clear c58
  try clear c58b0
  try clear c59
  try clear c59b0
  try clear c59b1
  try clear c59b2
  try clear c60
  try clear c60b0
  try clear c61
  try clear c61b0
  try clear c61b1
  try clear c62
  try clear c62b0
  try clear c62b1
  try clear c63
  try clear c63b0
  try clear c63b1
  try clear c63b2
  try clear p64
  try clear c65
  try clear c68
  try clear hcv77
  try clear c80
  try clear c81
  try clear hcz69_0
  try clear hcz69_1
  try clear hcz69_2
  try clear hcz69_3
  try clear hcz69_4
  try clear hcz71_0
  try clear hcz71_1
  try clear hcz71_2
  try clear hcz71_3
  try clear hcz71_4
  try clear hcz73_0
  try clear hcz73_1
  try clear hcz73_2
  try clear hcz73_3
  try clear hcz73_4
  try clear hcz82_0
  try clear hcz82_1
  try clear hcz82_2
  try clear hcz82_3
  try clear hcz82_4
  try clear hfz69_0
  try clear hfz69_1
  try clear hfz69_2
  try clear hfz69_3
  try clear hfz69_4
  try clear hfz71_0
  try clear hfz71_1
  try clear hfz71_2
  try clear hfz71_3
  try clear hfz71_4
  try clear hfz73_0
  try clear hfz73_1
  try clear hfz73_2
  try clear hfz73_3
  try clear hfz73_4
  try clear hfz82_0
  try clear hfz82_1
  try clear hfz82_2
  try clear hfz82_3
  try clear hfz82_4
  try clear p44
  try clear p49
  try clear p57
  try clear q44
  try clear q49
  try clear q57
  obtain ⟨kq, HA, HJ15, HO_368004, BK367, HB⟩ := hcut
  cases kq with
  | zero => exact absurd HA.out (by simp [laws_FnBatches.j0])
  | succ kj15 =>
   have H := HA.out
   clear HA
   simp only [laws_FnBatches.j0] at H
   replace H := bnd_ H
   obtain ⟨⟨t405, t406⟩, A84, H⟩ := H
   replace H := red_ H
   replace H := bnd_ H
   obtain ⟨⟨t407, t408, t409, t410, t411, t414, t415⟩, A85, H⟩ := H
   replace H := red_ H
   replace H := bnd_ H
   obtain ⟨⟨t417, t418, t419, t420, t421, t424, t425⟩, A86, H⟩ := H
   replace H := red_ H
   replace H := bnd_ H
   obtain ⟨t427, A87, H⟩ := H
   replace H := bnd_ H
   obtain ⟨⟨t428, t429⟩, A88, H⟩ := H
   replace H := red_ H
   replace H := bnd_ H
   obtain ⟨⟨t430, t431⟩, A89, H⟩ := H
   replace H := red_ H
   replace H := ifx_ H
   obtain ⟨c90, H⟩ := H
   have c90b0 : (t415 != t425) = false := by simpa using c90
   (try (have c90b1 : decide (t415 = t425) = true := by simpa using c90))
   (try (have c90b2 : (t415 == t425) = true := by simpa using c90))
   clear c90
   replace H := ifs_ H
   obtain ⟨c91, H⟩ := H
   have c91b0 : (t414 == t424) = true := beq_iff_eq.mpr c91
   have c91b1 : (t414 != t424) = false := bne_eq_false_iff_eq.mpr c91
   clear c91
   replace H := bnd_ H
   obtain ⟨t432, A92, H⟩ := H
   replace H := ifb_ H
   obtain ⟨rfl, H⟩ | ⟨rfl, H⟩ := H
   rotate_left
   ·exact absurd H (by simp)
   replace H := ifx_ H
   obtain ⟨c94, H⟩ := H
   have c94b0 : (t429 != t431) = false := by simpa using c94
   (try (have c94b1 : decide (t429 = t431) = true := by simpa using c94))
   (try (have c94b2 : (t429 == t431) = true := by simpa using c94))
   clear c94
   replace H := ifs_ H
   obtain ⟨c95, H⟩ := H
   have c95b0 : (t428 == t430) = true := beq_iff_eq.mpr c95
   have c95b1 : (t428 != t430) = false := bne_eq_false_iff_eq.mpr c95
   clear c95
   replace H := ifb_ H
   obtain ⟨rfl, H⟩ | ⟨rfl, H⟩ := H
   rotate_left
   ·obtain rfl := Option.some.inj H
    go_wp2_with (first | ((with_reducible refine gate_callee (f := 15) rfl ?_); refine gl_ 196 Try.func15 #[.slice A1 l1.length c1] rfl ma_ ?_; (with_reducible refine (spec_DrawTakeBatch.calls kj15 _ _ l1 t405 t406 _ ?side1 ?side2 A84.out).mono ?_); (case side1 => exact cs_ ((Kd.C_below HR1.out HB.out))); (case side2 => exact HC1.out); rintro e w120 ⟨rfl, hb⟩; refine ⟨_, rfl, ?_⟩; replace HO_368004 := rB_ HO_368004 hb; replace BK367 := bK_ BK367 hb; replace HB := nc_ GE367 hb; (try clear hb); (try clear hb2); (try clear hk); (try clear hi)) | ((with_reducible refine gate_callee (f := 11) rfl ?_); refine gl_ 202 Try.func11 #[.string t405, .int .i64 t406] rfl ma_ ?_; (with_reducible refine (impl_TakeBatch.calls kj15 t405 t406 t407 t408 t409 t410 t411 t414 false _ A85.out).mono ?_); rintro e w121 ⟨v412, rfl, ho0, hb⟩; refine ⟨_, rfl, ?_⟩; have HO413 := Aside0.mk (Kd.R_lower (Kd.R_new' ho0 (Kd.R_lt (kr_ HO_368004.out))) (below_size (hs_ GE367.out))); replace HO_368004 := Aside0.mk (Kd.R_elder' (kr_ HO_368004.out) (Kd.R_base ho0) hb); replace BK367 := bK_ BK367 hb; replace HB := nc_ GE367 hb; (try clear hb); (try clear hb2); (try clear hk); (try clear hi); (try clear ho0)) | ((with_reducible refine gate_dst (N := 26) rfl ?_); (try (refine gate_guard (by rfl) ?_; dsimp only)); refine be_ (N := 26) #[.int .i64 0, .int .i64 0, .int .i64 0, .int .i64 0, .slice none 0 0] 25 ?_; intro gb416 hg w122 hbox hb; replace HO_368004 := rB_ HO_368004 hb; replace HO413 := rB_ HO413 hb; have BK416 := Aside0.mk (hbox); have GW416 := ge1_ hg GE367; have GE416 := ge1_ hg GE367; replace HB := nc_ GE367 hb; have NB367_416 := nl_ BK367 hg; have NB416_367 := ng_ BK367 hg; replace BK367 := bK_ BK367 hb; clear hb hbox hg; have hnb123 := NB416_367.out; have hnc123 := NB367_416.out; obtain ⟨hcz124_0, hcz124_1, hcz124_2, hcz124_3, hcz124_4, hfz124_0, hfz124_1, hfz124_2, hfz124_3, hfz124_4⟩ := cf5_ BK416.out; obtain ⟨Ao125, co125, eo125⟩ := Kd.R_slice HO413.out; subst eo125) | ((with_reducible refine gate_callee (f := 16) rfl ?_); refine gl_ 209 Try.func16 #[.string t405, .int .i64 t406] rfl ma_ ?_; (with_reducible refine (spec_TakeBatch.calls kj15 t405 t406 t417 t418 t419 t420 t421 t424 t425 _ A86.out).mono ?_); rintro e w126 ⟨v422, rfl, ho0, hb⟩; refine ⟨_, rfl, ?_⟩; have HO423 := Aside0.mk (Kd.R_lower (Kd.R_new' (Kd.R_new' ho0 (Kd.R_lt (by (with_reducible repeat (first | apply Kd.R_alloc | apply Kd.R_drewN | apply Kd.R_drew)); exact (Kd.R_mono (Kd.R_far (p := ⟨gb416, 4, none⟩) (Kd.R_far (p := ⟨gb416, 3, none⟩) (Kd.R_far (p := ⟨gb416, 2, none⟩) (Kd.R_far (p := ⟨gb416, 1, none⟩) (Kd.R_far (p := ⟨gb416, 0, none⟩) (Kd.R_types HO_368004.out BK416.out (by decide)) (fun _ hk => hk.2) (.int .i64 t407)) (fun _ hk => hk.2) (.int .i64 t408)) (fun _ hk => hk.2) (.int .i64 t409)) (fun _ hk => hk.2) (.int .i64 t410)) (fun _ hk => hk.2) (.slice Ao125 t411.length co125)) (fun _ h_ => h_.1))))) (Kd.R_lt (by (with_reducible repeat (first | apply Kd.R_alloc | apply Kd.R_drewN | apply Kd.R_drew)); exact (Kd.R_mono (Kd.R_far (p := ⟨gb416, 4, none⟩) (Kd.R_far (p := ⟨gb416, 3, none⟩) (Kd.R_far (p := ⟨gb416, 2, none⟩) (Kd.R_far (p := ⟨gb416, 1, none⟩) (Kd.R_far (p := ⟨gb416, 0, none⟩) (Kd.R_types HO413.out BK416.out (by decide)) (fun _ hk => hk.2) (.int .i64 t407)) (fun _ hk => hk.2) (.int .i64 t408)) (fun _ hk => hk.2) (.int .i64 t409)) (fun _ hk => hk.2) (.int .i64 t410)) (fun _ hk => hk.2) (.slice Ao125 t411.length co125)) (fun _ h_ => h_.1))))) (below_size (hs2_ GE367.out GE416.out))); replace HO_368004 := Aside0.mk (Kd.R_elder' (by (with_reducible repeat (first | apply Kd.R_alloc | apply Kd.R_drewN | apply Kd.R_drew)); exact (Kd.R_mono (Kd.R_far (p := ⟨gb416, 4, none⟩) (Kd.R_far (p := ⟨gb416, 3, none⟩) (Kd.R_far (p := ⟨gb416, 2, none⟩) (Kd.R_far (p := ⟨gb416, 1, none⟩) (Kd.R_far (p := ⟨gb416, 0, none⟩) (Kd.R_types HO_368004.out BK416.out (by decide)) (fun _ hk => hk.2) (.int .i64 t407)) (fun _ hk => hk.2) (.int .i64 t408)) (fun _ hk => hk.2) (.int .i64 t409)) (fun _ hk => hk.2) (.int .i64 t410)) (fun _ hk => hk.2) (.slice Ao125 t411.length co125)) (fun _ h_ => h_.1))) (Kd.R_base ho0) hb); replace HO413 := Aside0.mk (Kd.R_elder' (by (with_reducible repeat (first | apply Kd.R_alloc | apply Kd.R_drewN | apply Kd.R_drew)); exact (Kd.R_mono (Kd.R_far (p := ⟨gb416, 4, none⟩) (Kd.R_far (p := ⟨gb416, 3, none⟩) (Kd.R_far (p := ⟨gb416, 2, none⟩) (Kd.R_far (p := ⟨gb416, 1, none⟩) (Kd.R_far (p := ⟨gb416, 0, none⟩) (Kd.R_types HO413.out BK416.out (by decide)) (fun _ hk => hk.2) (.int .i64 t407)) (fun _ hk => hk.2) (.int .i64 t408)) (fun _ hk => hk.2) (.int .i64 t409)) (fun _ hk => hk.2) (.int .i64 t410)) (fun _ hk => hk.2) (.slice Ao125 t411.length co125)) (fun _ h_ => h_.1))) (Kd.R_base ho0) hb); replace BK367 := Aside0.mk (blk_below (g := gb367) (o := .cells #[.int .i64 t360, .int .i64 t361, .int .i64 t362, .int .i64 t363, .slice Ao20 t364.length co20] 25 (0, 0)) (by (with_reducible repeat (first | refine blk_drewN ?_ _ | refine blk_drew ?_ | refine blk_alloc ?_ _)); refine blk_far ?_ NB367_416.out _; (with_reducible repeat (first | refine blk_drewN ?_ _ | refine blk_drew ?_ | refine blk_alloc ?_ _)); refine blk_far ?_ NB367_416.out _; (with_reducible repeat (first | refine blk_drewN ?_ _ | refine blk_drew ?_ | refine blk_alloc ?_ _)); refine blk_far ?_ NB367_416.out _; (with_reducible repeat (first | refine blk_drewN ?_ _ | refine blk_drew ?_ | refine blk_alloc ?_ _)); refine blk_far ?_ NB367_416.out _; (with_reducible repeat (first | refine blk_drewN ?_ _ | refine blk_drew ?_ | refine blk_alloc ?_ _)); refine blk_far ?_ NB367_416.out _; (with_reducible repeat (first | refine blk_drewN ?_ _ | refine blk_drew ?_ | refine blk_alloc ?_ _)); exact BK367.out) hb); replace BK416 := Aside0.mk (blk_below (g := gb416) (o := .cells #[.int .i64 t407, .int .i64 t408, .int .i64 t409, .int .i64 t410, .slice Ao125 t411.length co125] 25 (0, 0)) (by (with_reducible repeat (first | refine blk_drewN ?_ _ | refine blk_drew ?_ | refine blk_alloc ?_ _)); refine blk_put (cs := #[.int .i64 t407, .int .i64 t408, .int .i64 t409, .int .i64 t410, .slice none 0 0]) ?_ 4 _ rfl; (with_reducible repeat (first | refine blk_drewN ?_ _ | refine blk_drew ?_ | refine blk_alloc ?_ _)); refine blk_put (cs := #[.int .i64 t407, .int .i64 t408, .int .i64 t409, .int .i64 0, .slice none 0 0]) ?_ 3 _ rfl; (with_reducible repeat (first | refine blk_drewN ?_ _ | refine blk_drew ?_ | refine blk_alloc ?_ _)); refine blk_put (cs := #[.int .i64 t407, .int .i64 t408, .int .i64 0, .int .i64 0, .slice none 0 0]) ?_ 2 _ rfl; (with_reducible repeat (first | refine blk_drewN ?_ _ | refine blk_drew ?_ | refine blk_alloc ?_ _)); refine blk_put (cs := #[.int .i64 t407, .int .i64 0, .int .i64 0, .int .i64 0, .slice none 0 0]) ?_ 1 _ rfl; (with_reducible repeat (first | refine blk_drewN ?_ _ | refine blk_drew ?_ | refine blk_alloc ?_ _)); refine blk_put (cs := #[.int .i64 0, .int .i64 0, .int .i64 0, .int .i64 0, .slice none 0 0]) ?_ 0 _ rfl; (with_reducible repeat (first | refine blk_drewN ?_ _ | refine blk_drew ?_ | refine blk_alloc ?_ _)); exact BK416.out) hb); replace HB := nc2_ GE367 GE416 hb; (try clear hb); (try clear hb2); (try clear hk); (try clear hi); (try clear ho0)) | ((with_reducible refine gate_dst (N := 29) rfl ?_); (try (refine gate_guard (by rfl) ?_; dsimp only)); refine be_ (N := 29) #[.int .i64 0, .int .i64 0, .int .i64 0, .int .i64 0, .slice none 0 0] 25 ?_; intro gb426 hg w127 hbox hb; replace HO_368004 := rB_ HO_368004 hb; replace HO413 := rB_ HO413 hb; replace HO423 := rB_ HO423 hb; have BK426 := Aside0.mk (hbox); have GW426 := ge2_ hg GE367 GE416; have GE426 := ge2_ hg GE367 GE416; replace HB := nc2_ GE367 GE416 hb; have NB367_426 := nl_ BK367 hg; have NB426_367 := ng_ BK367 hg; replace BK367 := bK_ BK367 hb; have NB416_426 := nl_ BK416 hg; have NB426_416 := ng_ BK416 hg; replace BK416 := bK_ BK416 hb; clear hb hbox hg; have hnb128 := NB426_367.out; have hnc128 := NB367_426.out; have hnb129 := NB426_416.out; have hnc129 := NB416_426.out; obtain ⟨hcz130_0, hcz130_1, hcz130_2, hcz130_3, hcz130_4, hfz130_0, hfz130_1, hfz130_2, hfz130_3, hfz130_4⟩ := cf5_ BK426.out; obtain ⟨Ao131, co131, eo131⟩ := Kd.R_slice HO423.out; subst eo131) | ((with_reducible refine gate_callee (f := 17) rfl ?_); refine gl_ 214 Try.func17 #[.slice A1 l1.length c1] rfl ma_ ?_; (with_reducible refine (spec_DrawSumOf.calls kj15 _ _ l1 t427 _ ?side1 ?side2 A87.out).mono ?_); (case side1 => exact Kd.C_below HR1.out (hs3_ GE367.out GE416.out GE426.out)); (case side2 => exact HC1.out); rintro e w132 ⟨rfl, hb⟩; refine ⟨_, rfl, ?_⟩; replace HO_368004 := Aside0.mk (Kd.R_below (by (with_reducible repeat (first | apply Kd.R_alloc | apply Kd.R_drewN | apply Kd.R_drew)); exact (Kd.R_mono (Kd.R_far (p := ⟨gb426, 4, none⟩) (Kd.R_far (p := ⟨gb426, 3, none⟩) (Kd.R_far (p := ⟨gb426, 2, none⟩) (Kd.R_far (p := ⟨gb426, 1, none⟩) (Kd.R_far (p := ⟨gb426, 0, none⟩) (Kd.R_types HO_368004.out BK426.out (by decide)) (fun _ hk => hk.2) (.int .i64 t417)) (fun _ hk => hk.2) (.int .i64 t418)) (fun _ hk => hk.2) (.int .i64 t419)) (fun _ hk => hk.2) (.int .i64 t420)) (fun _ hk => hk.2) (.slice Ao131 t421.length co131)) (fun _ h_ => h_.1))) hb); replace HO413 := Aside0.mk (Kd.R_below (by (with_reducible repeat (first | apply Kd.R_alloc | apply Kd.R_drewN | apply Kd.R_drew)); exact (Kd.R_mono (Kd.R_far (p := ⟨gb426, 4, none⟩) (Kd.R_far (p := ⟨gb426, 3, none⟩) (Kd.R_far (p := ⟨gb426, 2, none⟩) (Kd.R_far (p := ⟨gb426, 1, none⟩) (Kd.R_far (p := ⟨gb426, 0, none⟩) (Kd.R_types HO413.out BK426.out (by decide)) (fun _ hk => hk.2) (.int .i64 t417)) (fun _ hk => hk.2) (.int .i64 t418)) (fun _ hk => hk.2) (.int .i64 t419)) (fun _ hk => hk.2) (.int .i64 t420)) (fun _ hk => hk.2) (.slice Ao131 t421.length co131)) (fun _ h_ => h_.1))) hb); replace HO423 := Aside0.mk (Kd.R_below (by (with_reducible repeat (first | apply Kd.R_alloc | apply Kd.R_drewN | apply Kd.R_drew)); exact (Kd.R_mono (Kd.R_far (p := ⟨gb426, 4, none⟩) (Kd.R_far (p := ⟨gb426, 3, none⟩) (Kd.R_far (p := ⟨gb426, 2, none⟩) (Kd.R_far (p := ⟨gb426, 1, none⟩) (Kd.R_far (p := ⟨gb426, 0, none⟩) (Kd.R_types HO423.out BK426.out (by decide)) (fun _ hk => hk.2) (.int .i64 t417)) (fun _ hk => hk.2) (.int .i64 t418)) (fun _ hk => hk.2) (.int .i64 t419)) (fun _ hk => hk.2) (.int .i64 t420)) (fun _ hk => hk.2) (.slice Ao131 t421.length co131)) (fun _ h_ => h_.1))) hb); replace BK367 := Aside0.mk (blk_below (g := gb367) (o := .cells #[.int .i64 t360, .int .i64 t361, .int .i64 t362, .int .i64 t363, .slice Ao20 t364.length co20] 25 (0, 0)) (by (with_reducible repeat (first | refine blk_drewN ?_ _ | refine blk_drew ?_ | refine blk_alloc ?_ _)); refine blk_far ?_ NB367_426.out _; (with_reducible repeat (first | refine blk_drewN ?_ _ | refine blk_drew ?_ | refine blk_alloc ?_ _)); refine blk_far ?_ NB367_426.out _; (with_reducible repeat (first | refine blk_drewN ?_ _ | refine blk_drew ?_ | refine blk_alloc ?_ _)); refine blk_far ?_ NB367_426.out _; (with_reducible repeat (first | refine blk_drewN ?_ _ | refine blk_drew ?_ | refine blk_alloc ?_ _)); refine blk_far ?_ NB367_426.out _; (with_reducible repeat (first | refine blk_drewN ?_ _ | refine blk_drew ?_ | refine blk_alloc ?_ _)); refine blk_far ?_ NB367_426.out _; (with_reducible repeat (first | refine blk_drewN ?_ _ | refine blk_drew ?_ | refine blk_alloc ?_ _)); exact BK367.out) hb); replace BK416 := Aside0.mk (blk_below (g := gb416) (o := .cells #[.int .i64 t407, .int .i64 t408, .int .i64 t409, .int .i64 t410, .slice Ao125 t411.length co125] 25 (0, 0)) (by (with_reducible repeat (first | refine blk_drewN ?_ _ | refine blk_drew ?_ | refine blk_alloc ?_ _)); refine blk_far ?_ NB416_426.out _; (with_reducible repeat (first | refine blk_drewN ?_ _ | refine blk_drew ?_ | refine blk_alloc ?_ _)); refine blk_far ?_ NB416_426.out _; (with_reducible repeat (first | refine blk_drewN ?_ _ | refine blk_drew ?_ | refine blk_alloc ?_ _)); refine blk_far ?_ NB416_426.out _; (with_reducible repeat (first | refine blk_drewN ?_ _ | refine blk_drew ?_ | refine blk_alloc ?_ _)); refine blk_far ?_ NB416_426.out _; (with_reducible repeat (first | refine blk_drewN ?_ _ | refine blk_drew ?_ | refine blk_alloc ?_ _)); refine blk_far ?_ NB416_426.out _; (with_reducible repeat (first | refine blk_drewN ?_ _ | refine blk_drew ?_ | refine blk_alloc ?_ _)); exact BK416.out) hb); replace BK426 := Aside0.mk (blk_below (g := gb426) (o := .cells #[.int .i64 t417, .int .i64 t418, .int .i64 t419, .int .i64 t420, .slice Ao131 t421.length co131] 25 (0, 0)) (by (with_reducible repeat (first | refine blk_drewN ?_ _ | refine blk_drew ?_ | refine blk_alloc ?_ _)); refine blk_put (cs := #[.int .i64 t417, .int .i64 t418, .int .i64 t419, .int .i64 t420, .slice none 0 0]) ?_ 4 _ rfl; (with_reducible repeat (first | refine blk_drewN ?_ _ | refine blk_drew ?_ | refine blk_alloc ?_ _)); refine blk_put (cs := #[.int .i64 t417, .int .i64 t418, .int .i64 t419, .int .i64 0, .slice none 0 0]) ?_ 3 _ rfl; (with_reducible repeat (first | refine blk_drewN ?_ _ | refine blk_drew ?_ | refine blk_alloc ?_ _)); refine blk_put (cs := #[.int .i64 t417, .int .i64 t418, .int .i64 0, .int .i64 0, .slice none 0 0]) ?_ 2 _ rfl; (with_reducible repeat (first | refine blk_drewN ?_ _ | refine blk_drew ?_ | refine blk_alloc ?_ _)); refine blk_put (cs := #[.int .i64 t417, .int .i64 0, .int .i64 0, .int .i64 0, .slice none 0 0]) ?_ 1 _ rfl; (with_reducible repeat (first | refine blk_drewN ?_ _ | refine blk_drew ?_ | refine blk_alloc ?_ _)); refine blk_put (cs := #[.int .i64 0, .int .i64 0, .int .i64 0, .int .i64 0, .slice none 0 0]) ?_ 0 _ rfl; (with_reducible repeat (first | refine blk_drewN ?_ _ | refine blk_drew ?_ | refine blk_alloc ?_ _)); exact BK426.out) hb); replace HB := nc3_ GE367 GE416 GE426 hb; (try clear hb); (try clear hb2); (try clear hk); (try clear hi)) | ((with_reducible refine gate_callee (f := 12) rfl ?_); refine gl_ 217 Try.func12 #[.string t427] rfl ma_ ?_; (with_reducible refine (impl_SumOf.calls kj15 t427 t428 t429 _ A88.out).mono ?_); rintro e w' ⟨rfl, ⟨nd, rfl⟩⟩; refine ⟨_, rfl, ?_⟩) | ((with_reducible refine gate_callee (f := 18) rfl ?_); refine gl_ 222 Try.func18 #[.string t427] rfl ma_ ?_; (with_reducible refine (spec_SumOf.calls kj15 t427 t430 t431 _ A89.out).mono ?_); rintro e w' ⟨rfl, ⟨nd, rfl⟩⟩; refine ⟨_, rfl, ?_⟩; obtain ⟨hcz133_0, hcz133_1, hcz133_2, hcz133_3, hcz133_4, hfz133_0, hfz133_1, hfz133_2, hfz133_3, hfz133_4⟩ := cf5_ BK416.out; obtain ⟨hcz134_0, hcz134_1, hcz134_2, hcz134_3, hcz134_4, hfz134_0, hfz134_1, hfz134_2, hfz134_3, hfz134_4⟩ := cf5_ BK426.out) | (go_at_call 13; (with_reducible refine (laws_sameBatch.calls kj15 t407 t408 t409 t410 _ _ t411 t417 t418 t419 t420 _ _ t421 true _ ?side1 ?side2 ?side3 ?side4 A92.out).mono ?_); (case side1 => exact cs_ ((Kd.R_reads' HO413.out).2.2)); (case side2 => exact (Kd.R_reads' HO413.out).2.1); (case side3 => exact cs_ ((Kd.R_reads' HO423.out).2.2)); (case side4 => exact (Kd.R_reads' HO423.out).2.1); rintro e w135 ⟨rfl, hb⟩; replace HO_368004 := rB_ HO_368004 hb; replace HO413 := rB_ HO413 hb; replace HO423 := rB_ HO423 hb; replace BK367 := bK_ BK367 hb; replace BK416 := bK_ BK416 hb; replace BK426 := bK_ BK426 hb; replace HB := nc3_ GE367 GE416 GE426 hb; (try clear hb); (try clear hb2); (try clear hk); (try clear hi)))
    go_ret
    exact ⟨er_, hs3_ GE367.out GE416.out GE426.out⟩
   replace H := bnd_ H
   obtain ⟨⟨t433, t434⟩, A97, H⟩ := H
   replace H := red_ H
   replace H := ifb_ H
   obtain ⟨rfl, H⟩ | ⟨rfl, H⟩ := H
   rotate_left
   ·exact absurd H (by simp)
   replace H := ifs_ H
   obtain ⟨c99, H⟩ := H
   have c99b0 := eq_true c99
   have c99b1 := decide_eq_true c99
   clear c99
   replace H := ifs_ H
   obtain ⟨c100, H⟩ := H
   have c100b0 := eq_true c100
   have c100b1 := decide_eq_true c100
   clear c100
   replace H := ifs_ H
   obtain ⟨c101, H⟩ := H
   have c101b0 := eq_true c101
   have c101b1 := decide_eq_true c101
   clear c101
   obtain rfl := Option.some.inj H
   go_wp2_with (first | ((with_reducible refine gate_callee (f := 15) rfl ?_); refine gl_ 196 Try.func15 #[.slice A1 l1.length c1] rfl ma_ ?_; (with_reducible refine (spec_DrawTakeBatch.calls kj15 _ _ l1 t405 t406 _ ?side1 ?side2 A84.out).mono ?_); (case side1 => exact cs_ ((Kd.C_below HR1.out HB.out))); (case side2 => exact HC1.out); rintro e w102 ⟨rfl, hb⟩; refine ⟨_, rfl, ?_⟩; replace HO_368004 := rB_ HO_368004 hb; replace BK367 := bK_ BK367 hb; replace HB := nc_ GE367 hb; (try clear hb); (try clear hb2); (try clear hk); (try clear hi)) | ((with_reducible refine gate_callee (f := 11) rfl ?_); refine gl_ 202 Try.func11 #[.string t405, .int .i64 t406] rfl ma_ ?_; (with_reducible refine (impl_TakeBatch.calls kj15 t405 t406 t407 t408 t409 t410 t411 t414 true _ A85.out).mono ?_); rintro e w103 ⟨v412, rfl, ho0, hb⟩; refine ⟨_, rfl, ?_⟩; have HO413 := Aside0.mk (Kd.R_lower (Kd.R_new' ho0 (Kd.R_lt (kr_ HO_368004.out))) (below_size (hs_ GE367.out))); replace HO_368004 := Aside0.mk (Kd.R_elder' (kr_ HO_368004.out) (Kd.R_base ho0) hb); replace BK367 := bK_ BK367 hb; replace HB := nc_ GE367 hb; (try clear hb); (try clear hb2); (try clear hk); (try clear hi); (try clear ho0)) | ((with_reducible refine gate_dst (N := 26) rfl ?_); (try (refine gate_guard (by rfl) ?_; dsimp only)); refine be_ (N := 26) #[.int .i64 0, .int .i64 0, .int .i64 0, .int .i64 0, .slice none 0 0] 25 ?_; intro gb416 hg w104 hbox hb; replace HO_368004 := rB_ HO_368004 hb; replace HO413 := rB_ HO413 hb; have BK416 := Aside0.mk (hbox); have GW416 := ge1_ hg GE367; have GE416 := ge1_ hg GE367; replace HB := nc_ GE367 hb; have NB367_416 := nl_ BK367 hg; have NB416_367 := ng_ BK367 hg; replace BK367 := bK_ BK367 hb; clear hb hbox hg; have hnb105 := NB416_367.out; have hnc105 := NB367_416.out; obtain ⟨hcz106_0, hcz106_1, hcz106_2, hcz106_3, hcz106_4, hfz106_0, hfz106_1, hfz106_2, hfz106_3, hfz106_4⟩ := cf5_ BK416.out; obtain ⟨Ao107, co107, eo107⟩ := Kd.R_slice HO413.out; subst eo107) | ((with_reducible refine gate_callee (f := 16) rfl ?_); refine gl_ 209 Try.func16 #[.string t405, .int .i64 t406] rfl ma_ ?_; (with_reducible refine (spec_TakeBatch.calls kj15 t405 t406 t417 t418 t419 t420 t421 t424 t425 _ A86.out).mono ?_); rintro e w108 ⟨v422, rfl, ho0, hb⟩; refine ⟨_, rfl, ?_⟩; have HO423 := Aside0.mk (Kd.R_lower (Kd.R_new' (Kd.R_new' ho0 (Kd.R_lt (by (with_reducible repeat (first | apply Kd.R_alloc | apply Kd.R_drewN | apply Kd.R_drew)); exact (Kd.R_mono (Kd.R_far (p := ⟨gb416, 4, none⟩) (Kd.R_far (p := ⟨gb416, 3, none⟩) (Kd.R_far (p := ⟨gb416, 2, none⟩) (Kd.R_far (p := ⟨gb416, 1, none⟩) (Kd.R_far (p := ⟨gb416, 0, none⟩) (Kd.R_types HO_368004.out BK416.out (by decide)) (fun _ hk => hk.2) (.int .i64 t407)) (fun _ hk => hk.2) (.int .i64 t408)) (fun _ hk => hk.2) (.int .i64 t409)) (fun _ hk => hk.2) (.int .i64 t410)) (fun _ hk => hk.2) (.slice Ao107 t411.length co107)) (fun _ h_ => h_.1))))) (Kd.R_lt (by (with_reducible repeat (first | apply Kd.R_alloc | apply Kd.R_drewN | apply Kd.R_drew)); exact (Kd.R_mono (Kd.R_far (p := ⟨gb416, 4, none⟩) (Kd.R_far (p := ⟨gb416, 3, none⟩) (Kd.R_far (p := ⟨gb416, 2, none⟩) (Kd.R_far (p := ⟨gb416, 1, none⟩) (Kd.R_far (p := ⟨gb416, 0, none⟩) (Kd.R_types HO413.out BK416.out (by decide)) (fun _ hk => hk.2) (.int .i64 t407)) (fun _ hk => hk.2) (.int .i64 t408)) (fun _ hk => hk.2) (.int .i64 t409)) (fun _ hk => hk.2) (.int .i64 t410)) (fun _ hk => hk.2) (.slice Ao107 t411.length co107)) (fun _ h_ => h_.1))))) (below_size (hs2_ GE367.out GE416.out))); replace HO_368004 := Aside0.mk (Kd.R_elder' (by (with_reducible repeat (first | apply Kd.R_alloc | apply Kd.R_drewN | apply Kd.R_drew)); exact (Kd.R_mono (Kd.R_far (p := ⟨gb416, 4, none⟩) (Kd.R_far (p := ⟨gb416, 3, none⟩) (Kd.R_far (p := ⟨gb416, 2, none⟩) (Kd.R_far (p := ⟨gb416, 1, none⟩) (Kd.R_far (p := ⟨gb416, 0, none⟩) (Kd.R_types HO_368004.out BK416.out (by decide)) (fun _ hk => hk.2) (.int .i64 t407)) (fun _ hk => hk.2) (.int .i64 t408)) (fun _ hk => hk.2) (.int .i64 t409)) (fun _ hk => hk.2) (.int .i64 t410)) (fun _ hk => hk.2) (.slice Ao107 t411.length co107)) (fun _ h_ => h_.1))) (Kd.R_base ho0) hb); replace HO413 := Aside0.mk (Kd.R_elder' (by (with_reducible repeat (first | apply Kd.R_alloc | apply Kd.R_drewN | apply Kd.R_drew)); exact (Kd.R_mono (Kd.R_far (p := ⟨gb416, 4, none⟩) (Kd.R_far (p := ⟨gb416, 3, none⟩) (Kd.R_far (p := ⟨gb416, 2, none⟩) (Kd.R_far (p := ⟨gb416, 1, none⟩) (Kd.R_far (p := ⟨gb416, 0, none⟩) (Kd.R_types HO413.out BK416.out (by decide)) (fun _ hk => hk.2) (.int .i64 t407)) (fun _ hk => hk.2) (.int .i64 t408)) (fun _ hk => hk.2) (.int .i64 t409)) (fun _ hk => hk.2) (.int .i64 t410)) (fun _ hk => hk.2) (.slice Ao107 t411.length co107)) (fun _ h_ => h_.1))) (Kd.R_base ho0) hb); replace BK367 := Aside0.mk (blk_below (g := gb367) (o := .cells #[.int .i64 t360, .int .i64 t361, .int .i64 t362, .int .i64 t363, .slice Ao20 t364.length co20] 25 (0, 0)) (by (with_reducible repeat (first | refine blk_drewN ?_ _ | refine blk_drew ?_ | refine blk_alloc ?_ _)); refine blk_far ?_ NB367_416.out _; (with_reducible repeat (first | refine blk_drewN ?_ _ | refine blk_drew ?_ | refine blk_alloc ?_ _)); refine blk_far ?_ NB367_416.out _; (with_reducible repeat (first | refine blk_drewN ?_ _ | refine blk_drew ?_ | refine blk_alloc ?_ _)); refine blk_far ?_ NB367_416.out _; (with_reducible repeat (first | refine blk_drewN ?_ _ | refine blk_drew ?_ | refine blk_alloc ?_ _)); refine blk_far ?_ NB367_416.out _; (with_reducible repeat (first | refine blk_drewN ?_ _ | refine blk_drew ?_ | refine blk_alloc ?_ _)); refine blk_far ?_ NB367_416.out _; (with_reducible repeat (first | refine blk_drewN ?_ _ | refine blk_drew ?_ | refine blk_alloc ?_ _)); exact BK367.out) hb); replace BK416 := Aside0.mk (blk_below (g := gb416) (o := .cells #[.int .i64 t407, .int .i64 t408, .int .i64 t409, .int .i64 t410, .slice Ao107 t411.length co107] 25 (0, 0)) (by (with_reducible repeat (first | refine blk_drewN ?_ _ | refine blk_drew ?_ | refine blk_alloc ?_ _)); refine blk_put (cs := #[.int .i64 t407, .int .i64 t408, .int .i64 t409, .int .i64 t410, .slice none 0 0]) ?_ 4 _ rfl; (with_reducible repeat (first | refine blk_drewN ?_ _ | refine blk_drew ?_ | refine blk_alloc ?_ _)); refine blk_put (cs := #[.int .i64 t407, .int .i64 t408, .int .i64 t409, .int .i64 0, .slice none 0 0]) ?_ 3 _ rfl; (with_reducible repeat (first | refine blk_drewN ?_ _ | refine blk_drew ?_ | refine blk_alloc ?_ _)); refine blk_put (cs := #[.int .i64 t407, .int .i64 t408, .int .i64 0, .int .i64 0, .slice none 0 0]) ?_ 2 _ rfl; (with_reducible repeat (first | refine blk_drewN ?_ _ | refine blk_drew ?_ | refine blk_alloc ?_ _)); refine blk_put (cs := #[.int .i64 t407, .int .i64 0, .int .i64 0, .int .i64 0, .slice none 0 0]) ?_ 1 _ rfl; (with_reducible repeat (first | refine blk_drewN ?_ _ | refine blk_drew ?_ | refine blk_alloc ?_ _)); refine blk_put (cs := #[.int .i64 0, .int .i64 0, .int .i64 0, .int .i64 0, .slice none 0 0]) ?_ 0 _ rfl; (with_reducible repeat (first | refine blk_drewN ?_ _ | refine blk_drew ?_ | refine blk_alloc ?_ _)); exact BK416.out) hb); replace HB := nc2_ GE367 GE416 hb; (try clear hb); (try clear hb2); (try clear hk); (try clear hi); (try clear ho0)) | ((with_reducible refine gate_dst (N := 29) rfl ?_); (try (refine gate_guard (by rfl) ?_; dsimp only)); refine be_ (N := 29) #[.int .i64 0, .int .i64 0, .int .i64 0, .int .i64 0, .slice none 0 0] 25 ?_; intro gb426 hg w109 hbox hb; replace HO_368004 := rB_ HO_368004 hb; replace HO413 := rB_ HO413 hb; replace HO423 := rB_ HO423 hb; have BK426 := Aside0.mk (hbox); have GW426 := ge2_ hg GE367 GE416; have GE426 := ge2_ hg GE367 GE416; replace HB := nc2_ GE367 GE416 hb; have NB367_426 := nl_ BK367 hg; have NB426_367 := ng_ BK367 hg; replace BK367 := bK_ BK367 hb; have NB416_426 := nl_ BK416 hg; have NB426_416 := ng_ BK416 hg; replace BK416 := bK_ BK416 hb; clear hb hbox hg; have hnb110 := NB426_367.out; have hnc110 := NB367_426.out; have hnb111 := NB426_416.out; have hnc111 := NB416_426.out; obtain ⟨hcz112_0, hcz112_1, hcz112_2, hcz112_3, hcz112_4, hfz112_0, hfz112_1, hfz112_2, hfz112_3, hfz112_4⟩ := cf5_ BK426.out; obtain ⟨Ao113, co113, eo113⟩ := Kd.R_slice HO423.out; subst eo113) | ((with_reducible refine gate_callee (f := 17) rfl ?_); refine gl_ 214 Try.func17 #[.slice A1 l1.length c1] rfl ma_ ?_; (with_reducible refine (spec_DrawSumOf.calls kj15 _ _ l1 t427 _ ?side1 ?side2 A87.out).mono ?_); (case side1 => exact Kd.C_below HR1.out (hs3_ GE367.out GE416.out GE426.out)); (case side2 => exact HC1.out); rintro e w114 ⟨rfl, hb⟩; refine ⟨_, rfl, ?_⟩; replace HO_368004 := Aside0.mk (Kd.R_below (by (with_reducible repeat (first | apply Kd.R_alloc | apply Kd.R_drewN | apply Kd.R_drew)); exact (Kd.R_mono (Kd.R_far (p := ⟨gb426, 4, none⟩) (Kd.R_far (p := ⟨gb426, 3, none⟩) (Kd.R_far (p := ⟨gb426, 2, none⟩) (Kd.R_far (p := ⟨gb426, 1, none⟩) (Kd.R_far (p := ⟨gb426, 0, none⟩) (Kd.R_types HO_368004.out BK426.out (by decide)) (fun _ hk => hk.2) (.int .i64 t417)) (fun _ hk => hk.2) (.int .i64 t418)) (fun _ hk => hk.2) (.int .i64 t419)) (fun _ hk => hk.2) (.int .i64 t420)) (fun _ hk => hk.2) (.slice Ao113 t421.length co113)) (fun _ h_ => h_.1))) hb); replace HO413 := Aside0.mk (Kd.R_below (by (with_reducible repeat (first | apply Kd.R_alloc | apply Kd.R_drewN | apply Kd.R_drew)); exact (Kd.R_mono (Kd.R_far (p := ⟨gb426, 4, none⟩) (Kd.R_far (p := ⟨gb426, 3, none⟩) (Kd.R_far (p := ⟨gb426, 2, none⟩) (Kd.R_far (p := ⟨gb426, 1, none⟩) (Kd.R_far (p := ⟨gb426, 0, none⟩) (Kd.R_types HO413.out BK426.out (by decide)) (fun _ hk => hk.2) (.int .i64 t417)) (fun _ hk => hk.2) (.int .i64 t418)) (fun _ hk => hk.2) (.int .i64 t419)) (fun _ hk => hk.2) (.int .i64 t420)) (fun _ hk => hk.2) (.slice Ao113 t421.length co113)) (fun _ h_ => h_.1))) hb); replace HO423 := Aside0.mk (Kd.R_below (by (with_reducible repeat (first | apply Kd.R_alloc | apply Kd.R_drewN | apply Kd.R_drew)); exact (Kd.R_mono (Kd.R_far (p := ⟨gb426, 4, none⟩) (Kd.R_far (p := ⟨gb426, 3, none⟩) (Kd.R_far (p := ⟨gb426, 2, none⟩) (Kd.R_far (p := ⟨gb426, 1, none⟩) (Kd.R_far (p := ⟨gb426, 0, none⟩) (Kd.R_types HO423.out BK426.out (by decide)) (fun _ hk => hk.2) (.int .i64 t417)) (fun _ hk => hk.2) (.int .i64 t418)) (fun _ hk => hk.2) (.int .i64 t419)) (fun _ hk => hk.2) (.int .i64 t420)) (fun _ hk => hk.2) (.slice Ao113 t421.length co113)) (fun _ h_ => h_.1))) hb); replace BK367 := Aside0.mk (blk_below (g := gb367) (o := .cells #[.int .i64 t360, .int .i64 t361, .int .i64 t362, .int .i64 t363, .slice Ao20 t364.length co20] 25 (0, 0)) (by (with_reducible repeat (first | refine blk_drewN ?_ _ | refine blk_drew ?_ | refine blk_alloc ?_ _)); refine blk_far ?_ NB367_426.out _; (with_reducible repeat (first | refine blk_drewN ?_ _ | refine blk_drew ?_ | refine blk_alloc ?_ _)); refine blk_far ?_ NB367_426.out _; (with_reducible repeat (first | refine blk_drewN ?_ _ | refine blk_drew ?_ | refine blk_alloc ?_ _)); refine blk_far ?_ NB367_426.out _; (with_reducible repeat (first | refine blk_drewN ?_ _ | refine blk_drew ?_ | refine blk_alloc ?_ _)); refine blk_far ?_ NB367_426.out _; (with_reducible repeat (first | refine blk_drewN ?_ _ | refine blk_drew ?_ | refine blk_alloc ?_ _)); refine blk_far ?_ NB367_426.out _; (with_reducible repeat (first | refine blk_drewN ?_ _ | refine blk_drew ?_ | refine blk_alloc ?_ _)); exact BK367.out) hb); replace BK416 := Aside0.mk (blk_below (g := gb416) (o := .cells #[.int .i64 t407, .int .i64 t408, .int .i64 t409, .int .i64 t410, .slice Ao107 t411.length co107] 25 (0, 0)) (by (with_reducible repeat (first | refine blk_drewN ?_ _ | refine blk_drew ?_ | refine blk_alloc ?_ _)); refine blk_far ?_ NB416_426.out _; (with_reducible repeat (first | refine blk_drewN ?_ _ | refine blk_drew ?_ | refine blk_alloc ?_ _)); refine blk_far ?_ NB416_426.out _; (with_reducible repeat (first | refine blk_drewN ?_ _ | refine blk_drew ?_ | refine blk_alloc ?_ _)); refine blk_far ?_ NB416_426.out _; (with_reducible repeat (first | refine blk_drewN ?_ _ | refine blk_drew ?_ | refine blk_alloc ?_ _)); refine blk_far ?_ NB416_426.out _; (with_reducible repeat (first | refine blk_drewN ?_ _ | refine blk_drew ?_ | refine blk_alloc ?_ _)); refine blk_far ?_ NB416_426.out _; (with_reducible repeat (first | refine blk_drewN ?_ _ | refine blk_drew ?_ | refine blk_alloc ?_ _)); exact BK416.out) hb); replace BK426 := Aside0.mk (blk_below (g := gb426) (o := .cells #[.int .i64 t417, .int .i64 t418, .int .i64 t419, .int .i64 t420, .slice Ao113 t421.length co113] 25 (0, 0)) (by (with_reducible repeat (first | refine blk_drewN ?_ _ | refine blk_drew ?_ | refine blk_alloc ?_ _)); refine blk_put (cs := #[.int .i64 t417, .int .i64 t418, .int .i64 t419, .int .i64 t420, .slice none 0 0]) ?_ 4 _ rfl; (with_reducible repeat (first | refine blk_drewN ?_ _ | refine blk_drew ?_ | refine blk_alloc ?_ _)); refine blk_put (cs := #[.int .i64 t417, .int .i64 t418, .int .i64 t419, .int .i64 0, .slice none 0 0]) ?_ 3 _ rfl; (with_reducible repeat (first | refine blk_drewN ?_ _ | refine blk_drew ?_ | refine blk_alloc ?_ _)); refine blk_put (cs := #[.int .i64 t417, .int .i64 t418, .int .i64 0, .int .i64 0, .slice none 0 0]) ?_ 2 _ rfl; (with_reducible repeat (first | refine blk_drewN ?_ _ | refine blk_drew ?_ | refine blk_alloc ?_ _)); refine blk_put (cs := #[.int .i64 t417, .int .i64 0, .int .i64 0, .int .i64 0, .slice none 0 0]) ?_ 1 _ rfl; (with_reducible repeat (first | refine blk_drewN ?_ _ | refine blk_drew ?_ | refine blk_alloc ?_ _)); refine blk_put (cs := #[.int .i64 0, .int .i64 0, .int .i64 0, .int .i64 0, .slice none 0 0]) ?_ 0 _ rfl; (with_reducible repeat (first | refine blk_drewN ?_ _ | refine blk_drew ?_ | refine blk_alloc ?_ _)); exact BK426.out) hb); replace HB := nc3_ GE367 GE416 GE426 hb; (try clear hb); (try clear hb2); (try clear hk); (try clear hi)) | ((with_reducible refine gate_callee (f := 12) rfl ?_); refine gl_ 217 Try.func12 #[.string t427] rfl ma_ ?_; (with_reducible refine (impl_SumOf.calls kj15 t427 t428 t429 _ A88.out).mono ?_); rintro e w' ⟨rfl, ⟨nd, rfl⟩⟩; refine ⟨_, rfl, ?_⟩) | ((with_reducible refine gate_callee (f := 18) rfl ?_); refine gl_ 222 Try.func18 #[.string t427] rfl ma_ ?_; (with_reducible refine (spec_SumOf.calls kj15 t427 t430 t431 _ A89.out).mono ?_); rintro e w' ⟨rfl, ⟨nd, rfl⟩⟩; refine ⟨_, rfl, ?_⟩; obtain ⟨hcz115_0, hcz115_1, hcz115_2, hcz115_3, hcz115_4, hfz115_0, hfz115_1, hfz115_2, hfz115_3, hfz115_4⟩ := cf5_ BK416.out; obtain ⟨hcz116_0, hcz116_1, hcz116_2, hcz116_3, hcz116_4, hfz116_0, hfz116_1, hfz116_2, hfz116_3, hfz116_4⟩ := cf5_ BK426.out) | (go_at_call 13; (with_reducible refine (laws_sameBatch.calls kj15 t407 t408 t409 t410 _ _ t411 t417 t418 t419 t420 _ _ t421 true _ ?side1 ?side2 ?side3 ?side4 A92.out).mono ?_); (case side1 => exact cs_ ((Kd.R_reads' HO413.out).2.2)); (case side2 => exact (Kd.R_reads' HO413.out).2.1); (case side3 => exact cs_ ((Kd.R_reads' HO423.out).2.2)); (case side4 => exact (Kd.R_reads' HO423.out).2.1); rintro e w117 ⟨rfl, hb⟩; replace HO_368004 := rB_ HO_368004 hb; replace HO413 := rB_ HO413 hb; replace HO423 := rB_ HO423 hb; replace BK367 := bK_ BK367 hb; replace BK416 := bK_ BK416 hb; replace BK426 := bK_ BK426 hb; replace HB := nc3_ GE367 GE416 GE426 hb; (try clear hb); (try clear hb2); (try clear hk); (try clear hi); obtain ⟨hcz118_0, hcz118_1, hcz118_2, hcz118_3, hcz118_4, hfz118_0, hfz118_1, hfz118_2, hfz118_3, hfz118_4⟩ := cf5_ BK416.out) | ((with_reducible refine gate_callee (f := 6) rfl ?_); refine gl_ 252 Try.func6 #[.agg #[.int .i64 t407, .int .i64 t408, .int .i64 t409, .int .i64 t410, .slice Ao107 t411.length co107]] rfl ma_ ?_; (with_reducible refine (impl_BatchBytes.calls kj15 t407 t408 t409 t410 _ _ t411 t433 true _ ?side1 ?side2 A97.out).mono ?_); (case side1 => exact cs_ ((Kd.R_reads' HO413.out).2.2)); (case side2 => exact (Kd.R_reads' HO413.out).2.1); rintro e w119 ⟨rfl, hb⟩; refine ⟨_, rfl, ?_⟩; replace HO_368004 := rB_ HO_368004 hb; replace HO413 := rB_ HO413 hb; replace HO423 := rB_ HO423 hb; replace BK367 := bK_ BK367 hb; replace BK416 := bK_ BK416 hb; replace BK426 := bK_ BK426 hb; replace HB := nc3_ GE367 GE416 GE426 hb; (try clear hb); (try clear hb2); (try clear hk); (try clear hi)))
   go_ret
   exact ⟨er_, hs3_ GE367.out GE416.out GE426.out⟩

/-- The one pure statement of laws_FnBatches. -/
def laws_FnBatches.Pure : Prop := ∀ (l0 : List Int) (l1 : List Int), (l0.length ≤ maxLen ∧ ∀ x0 ∈ l0, (Lit.int .u8 x0).wf = true) → (l1.length ≤ maxLen ∧ ∀ x0 ∈ l1, (Lit.int .u8 x0).wf = true) → ∃ k, laws_FnBatches.f k l0 l1 = some true

end Go.Proofs.Ytjjhebkkpeapkaa.QFnBatches
