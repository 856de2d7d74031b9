/- Functions that one statement reaches: of each a plain function, and the proof that calls come to it. Conditions: those that each contract names. Written by a program of this repository. -/
import Derived.Test.YtpdpipfkllfhmaaVFnTorna
import Derived.Test.YtpdpipfkllfhmaaQFnTornx2
import Derived.Test.YtpdpipfkllfhmaaQFnTornx3
namespace Go.Proofs.Ytpdpipfkllfhmaa.QFnTorn
open Go.RowKit Go.Proofs.YtpdpipfkllfhmaaW.PrintWords Go.Proofs.YtpdpipfkllfhmaaW.PrintLast Go.Proofs.YtpdpipfkllfhmaaW.PrintMore
attribute [local go_sem] max2_int min2_int max_two min_two max_three min_three max_four min_four Go.Proofs.YtpdpipfkllfhmaaW.PrintMore2.isSome_setCell   -- for this text's walks alone
set_option linter.unusedVariables false
set_option linter.unusedSimpArgs false

/-! ### spec_l1Take: function 81 -/
def spec_l1Take.l0 : Nat → ByteArray → Int → Int → Int → Int → Int → Int → Int → Int → List ByteArray → Option (Int × Int × Int × Int × List ByteArray × Int)
 | 0, _, _, _, _, _, _, _, _, _, _ => none
 | k + 1, x0, x1, x6, x8, x9, x138000, x138001, x138002, x138003, x138004 => if x9 > 0 then (if x8 ≥ x6 then (some (0, 0, 0, 0, ([] : List ByteArray), 0)) else (if 0 ≤ x8 then (if x8 < (x0.size : Int) then (if (wrap64 (bt x0 x8)) > (wrap64 ((wrap64 (x6 - x8)) - 1)) then (some (0, 0, 0, 0, ([] : List ByteArray), 0)) else (if 0 ≤ (wrap64 (x8 + 1)) then (if (wrap64 (x8 + 1)) ≤ (wrap64 ((wrap64 (x8 + 1)) + (wrap64 (bt x0 x8)))) then (if (wrap64 ((wrap64 (x8 + 1)) + (wrap64 (bt x0 x8)))) ≤ (x0.size : Int) then (if x138004.length < 8796093022208 then (spec_l1Take.l0 k x0 x1 x6 (wrap64 (x8 + (wrap64 (1 + (wrap64 (bt x0 x8)))))) (wrap64 (x9 - 1)) x138000 x138001 x138002 x138003 (x138004 ++ [x0.extract ((wrap64 (x8 + 1)) : Int).toNat ((wrap64 ((wrap64 (x8 + 1)) + (wrap64 (bt x0 x8)))) : Int).toNat])) else (none)) else (none)) else (none)) else (none))) else (none)) else (none))) else ((spec_GoodBatch.f k x138000 x138001 x138002 x138003 x138004).bind fun t141 => (if t141 = true then ((spec_l1Batch.f k x138000 x138001 x138002 x138003 x138004).bind fun t142 => (if 0 ≤ x1 then (if x1 ≤ x6 then (if x6 ≤ (x0.size : Int) then (if t142.toList = (x0.extract (x1 : Int).toNat (x6 : Int).toNat).toList then (some (x138000, x138001, x138002, x138003, x138004, x6)) else (some (0, 0, 0, 0, ([] : List ByteArray), 0))) else (none)) else (none)) else (none))) else (some (0, 0, 0, 0, ([] : List ByteArray), 0))))
def spec_l1Take.f (k : Nat) (a0 : ByteArray) (a1 : Int) : Option (Int × Int × Int × Int × List ByteArray × Int) := if (wrap64 ((a0.size : Int) - a1)) < 14 then (some (0, 0, 0, 0, ([] : List ByteArray), 0)) else (if 0 ≤ a1 then (if a1 ≤ (wrap64 (a1 + 2)) then (if (wrap64 (a1 + 2)) ≤ (a0.size : Int) then ((spec_l1Value.f k (a0.extract (a1 : Int).toNat ((wrap64 (a1 + 2)) : Int).toNat)).bind fun t132 => (if (wrap64 ((wrap64 (a1 + 2)) + t132)) > (a0.size : Int) then (some (0, 0, 0, 0, ([] : List ByteArray), 0)) else (if 0 ≤ (wrap64 (a1 + 2)) then (if (wrap64 (a1 + 2)) ≤ (wrap64 (a1 + 5)) then (if (wrap64 (a1 + 5)) ≤ (a0.size : Int) then ((spec_l1Value.f k (a0.extract ((wrap64 (a1 + 2)) : Int).toNat ((wrap64 (a1 + 5)) : Int).toNat)).bind fun t133 => (if 0 ≤ (wrap64 (a1 + 5)) then (if (wrap64 (a1 + 5)) ≤ (wrap64 (a1 + 7)) then (if (wrap64 (a1 + 7)) ≤ (a0.size : Int) then ((spec_l1Value.f k (a0.extract ((wrap64 (a1 + 5)) : Int).toNat ((wrap64 (a1 + 7)) : Int).toNat)).bind fun t134 => (if 0 ≤ (wrap64 (a1 + 7)) then (if (wrap64 (a1 + 7)) ≤ (wrap64 (a1 + 9)) then (if (wrap64 (a1 + 9)) ≤ (a0.size : Int) then ((spec_l1Value.f k (a0.extract ((wrap64 (a1 + 7)) : Int).toNat ((wrap64 (a1 + 9)) : Int).toNat)).bind fun t135 => (if 0 ≤ (wrap64 (a1 + 9)) then (if (wrap64 (a1 + 9)) ≤ (wrap64 (a1 + 11)) then (if (wrap64 (a1 + 11)) ≤ (a0.size : Int) then ((spec_l1Value.f k (a0.extract ((wrap64 (a1 + 9)) : Int).toNat ((wrap64 (a1 + 11)) : Int).toNat)).bind fun t136 => (if 0 ≤ (wrap64 (a1 + 11)) then (if (wrap64 (a1 + 11)) < (a0.size : Int) then (spec_l1Take.l0 k a0 a1 (wrap64 ((wrap64 (a1 + 2)) + t132)) (wrap64 (a1 + 12)) (wrap64 (bt a0 (wrap64 (a1 + 11)))) t133 t134 t135 t136 ([] : List ByteArray)) else (none)) else (none))) else (none)) else (none)) else (none))) else (none)) else (none)) else (none))) else (none)) else (none)) else (none))) else (none)) else (none)) else (none)))) else (none)) else (none)) else (none))
theorem spec_l1Take.mono_l : ∀ k, (∀ y0 y1 y2 y3 y4 y5 y6 y7 y8 y9, LeO (spec_l1Take.l0 k y0 y1 y2 y3 y4 y5 y6 y7 y8 y9) (spec_l1Take.l0 (k + 1) y0 y1 y2 y3 y4 y5 y6 y7 y8 y9))
 | 0 => fun _ _ _ _ _ _ _ _ _ _ r h => by simp [spec_l1Take.l0] at h
 | k + 1 => by
  have ih0 := spec_l1Take.mono_l k
  ·intro y0 y1 y2 y3 y4 y5 y6 y7 y8 y9
   unfold spec_l1Take.l0
   repeat' first
   | (with_reducible first | apply ih0 | apply spec_GoodBatch.mono | apply spec_l1Batch.mono | apply spec_l1Value.mono | exact LeO.refl _ | exact LeO.none _ | refine LeO.ite ?_ ?_ | refine LeO.bind ?_ (fun _ => ?_))
theorem spec_l1Take.mono : ∀ a0 a1 k, LeO (spec_l1Take.f k a0 a1) (spec_l1Take.f (k + 1) a0 a1) := by
 intro a0 a1 k
 have ih0 := spec_l1Take.mono_l k
 unfold spec_l1Take.f
 repeat' first
   | (with_reducible first | apply ih0 | apply spec_GoodBatch.mono | apply spec_l1Batch.mono | apply spec_l1Value.mono | exact LeO.refl _ | exact LeO.none _ | refine LeO.ite ?_ ?_ | refine LeO.bind ?_ (fun _ => ?_))
def spec_l1Take.T6 : Bool × List (List Nat × List Nat) := (true, [([], []), ([], []), ([1], [1]), ([], []), ([3], [3]), ([0, 2, 4], [0, 2, 4]), ([5], [5]), ([], []), ([], []), ([8], [8]), ([], []), ([10], [10]), ([7, 9, 11], [7, 9, 11]), ([12, 6], [12]), ([], []), ([], []), ([15], [15]), ([], []), ([17], [17]), ([14, 16, 18], [14, 16, 18]), ([19, 13], [19]), ([], []), ([], []), ([22], [22]), ([], []), ([24], [24]), ([21, 23, 25], [21, 23, 25]), ([26, 20], [26]), ([6, 13, 20, 27], [6, 13, 20, 27]), ([], []), ([29, 28, 27, 0, 1, 2, 3, 4, 5, 6, 7, 8, 9, 10, 11, 12, 13, 14, 15, 16, 17, 18, 19, 20, 21, 22, 23, 24, 25, 26, 27, 28, 29], [28, 29])])
def spec_l1Take.B6 : List Nat := [0, 0, 2, 0, 8, 31, 63, 0, 0, 256, 0, 1024, 3968, 8191, 0, 0, 32768, 0, 131072, 507904, 1048575, 0, 0, 4194304, 0, 16777216, 65011712, 134217727, 268435455, 0, 1073741823]
theorem spec_l1Take.tab6 : rtab .any (opsOf Try.f81 6) = spec_l1Take.T6 := by kernel_rfl
theorem spec_l1Take.bits6 : waitsOk spec_l1Take.T6.2 spec_l1Take.B6 = true := by kernel_rfl
def spec_l1Take.T13 : Bool × List (List Nat × List Nat) := (true, [([], []), ([0], [0]), ([], []), ([], []), ([3], [3]), ([], []), ([5], [5]), ([], []), ([], []), ([7, 8], [7, 8]), ([9], [9]), ([6, 10], [6, 10]), ([2, 4, 11], [2, 4, 11]), ([12], [12]), ([1, 13], [1, 13]), ([0, 1, 2, 3, 4, 5, 6, 7, 8, 9, 10, 11, 12, 13, 14], []), ([15, 14, 14, 0, 1, 2, 3, 4, 5, 6, 7, 8, 9, 10, 11, 12, 13, 14], [14, 15])])
def spec_l1Take.B13 : List Nat := [0, 1, 0, 0, 8, 0, 32, 0, 0, 384, 896, 2016, 4092, 8188, 16383, 32767, 65535]
theorem spec_l1Take.tab13 : rtab .any (opsOf Try.f81 13) = spec_l1Take.T13 := by kernel_rfl
theorem spec_l1Take.bits13 : waitsOk spec_l1Take.T13.2 spec_l1Take.B13 = true := by kernel_rfl
def spec_l1Take.T15 : Bool × List (List Nat × List Nat) := (true, [([], []), ([0], [0]), ([1], [1]), ([2, 1], [2]), ([3], [3]), ([4, 3, 3], [3, 4]), ([3], [3]), ([3], [3]), ([3], [3]), ([6, 7, 8, 3], [3, 6, 7, 8]), ([5, 9, 3], [3, 5, 9]), ([3, 10], [3, 10])])
def spec_l1Take.B15 : List Nat := [0, 1, 3, 7, 15, 31, 15, 15, 15, 463, 1023, 2047]
theorem spec_l1Take.tab15 : rtab .any (opsOf Try.f81 15) = spec_l1Take.T15 := by kernel_rfl
theorem spec_l1Take.bits15 : waitsOk spec_l1Take.T15.2 spec_l1Take.B15 = true := by kernel_rfl
set_option maxHeartbeats 8000000 in
set_option maxRecDepth 100000 in
theorem spec_l1Take.calls (k : Nat) (a0 : ByteArray) (a1 : Int) (r1 : Int) (r2 : Int) (r3 : Int) (r4 : Int) (r5 : List ByteArray) (r6 : Int) (w : World) (h : spec_l1Take.f k a0 a1 = some (r1, r2, r3, r4, r5, r6)) :
  Calls Try.prog 81 #[.string a0, .int .i64 a1] w fun e w' => ∃ v4_ : Value, e = .returned (.tuple #[.agg #[.int .i64 r1, .int .i64 r2, .int .i64 r3, .int .i64 r4, v4_], .int .i64 r6]) ∧ Kd.R Kd.string 9 w' w.heap.size (fun _ => True) v4_ r5 ∧ Below w.heap.size w w' := by
 have hu44 := Try.underlying44
 have HB := Aside0.mk (Below.refl w.heap.size w)
 have H : (if (wrap64 ((a0.size : Int) - a1)) < 14 then (some (0, 0, 0, 0, ([] : List ByteArray), 0)) else (if 0 ≤ a1 then (if a1 ≤ (wrap64 (a1 + 2)) then (if (wrap64 (a1 + 2)) ≤ (a0.size : Int) then ((spec_l1Value.f k (a0.extract (a1 : Int).toNat ((wrap64 (a1 + 2)) : Int).toNat)).bind fun t132 => (if (wrap64 ((wrap64 (a1 + 2)) + t132)) > (a0.size : Int) then (some (0, 0, 0, 0, ([] : List ByteArray), 0)) else (if 0 ≤ (wrap64 (a1 + 2)) then (if (wrap64 (a1 + 2)) ≤ (wrap64 (a1 + 5)) then (if (wrap64 (a1 + 5)) ≤ (a0.size : Int) then ((spec_l1Value.f k (a0.extract ((wrap64 (a1 + 2)) : Int).toNat ((wrap64 (a1 + 5)) : Int).toNat)).bind fun t133 => (if 0 ≤ (wrap64 (a1 + 5)) then (if (wrap64 (a1 + 5)) ≤ (wrap64 (a1 + 7)) then (if (wrap64 (a1 + 7)) ≤ (a0.size : Int) then ((spec_l1Value.f k (a0.extract ((wrap64 (a1 + 5)) : Int).toNat ((wrap64 (a1 + 7)) : Int).toNat)).bind fun t134 => (if 0 ≤ (wrap64 (a1 + 7)) then (if (wrap64 (a1 + 7)) ≤ (wrap64 (a1 + 9)) then (if (wrap64 (a1 + 9)) ≤ (a0.size : Int) then ((spec_l1Value.f k (a0.extract ((wrap64 (a1 + 7)) : Int).toNat ((wrap64 (a1 + 9)) : Int).toNat)).bind fun t135 => (if 0 ≤ (wrap64 (a1 + 9)) then (if (wrap64 (a1 + 9)) ≤ (wrap64 (a1 + 11)) then (if (wrap64 (a1 + 11)) ≤ (a0.size : Int) then ((spec_l1Value.f k (a0.extract ((wrap64 (a1 + 9)) : Int).toNat ((wrap64 (a1 + 11)) : Int).toNat)).bind fun t136 => (if 0 ≤ (wrap64 (a1 + 11)) then (if (wrap64 (a1 + 11)) < (a0.size : Int) then (spec_l1Take.l0 k a0 a1 (wrap64 ((wrap64 (a1 + 2)) + t132)) (wrap64 (a1 + 12)) (wrap64 (bt a0 (wrap64 (a1 + 11)))) t133 t134 t135 t136 ([] : List ByteArray)) else (none)) else (none))) else (none)) else (none)) else (none))) else (none)) else (none)) else (none))) else (none)) else (none)) else (none))) else (none)) else (none)) else (none)))) else (none)) else (none)) else (none))) = some (r1, r2, r3, r4, r5, r6) := h
 clear h
 replace H := ite_ H
 obtain ⟨c3, H⟩ | ⟨c3, H⟩ := H
 ·have c3b0 := decide_eq_true c3
  clear c3
  simp only [Option.some.injEq, Prod.mk.injEq] at H
  obtain ⟨rfl, rfl, rfl, rfl, rfl, rfl⟩ := H
  go_enter Try.func81, Try.ntmps81
  go_wp2_with (first | ((with_reducible refine gate_dst (N := 4) rfl ?_); refine bq_ (N := 4) #[.int .i64 0, .int .i64 0, .int .i64 0, .int .i64 0, .slice none 0 0] 44 ?_; intro gb131 hg w4 BK131 hb; have GE131 := ge_ hg; replace HB := nb_ hb; clear hb hg; obtain ⟨hcz5_0, hcz5_1, hcz5_2, hcz5_3, hcz5_4, hfz5_0, hfz5_1, hfz5_2, hfz5_3, hfz5_4⟩ := cf5_ BK131.out))
  refine bodyPost_ret (results_ct rfl _ _ gb131 44 #[.int .i64 0, .int .i64 0, .int .i64 0, .int .i64 0, .slice none 0 0] (0, 0) _ rfl (up_ BK131) Try.underlying44 rfl (by kernel_rfl)) rfl ?_
  exact ⟨_, er_, ni_, hs_ GE131.out⟩
 have c3b0 := decide_eq_false c3
 clear c3
 replace H := ifs_ H
 obtain ⟨c6, H⟩ := H
 have c6b0 := eq_true c6
 have c6b1 := decide_eq_true c6
 clear c6
 replace H := ifs_ H
 obtain ⟨c7, H⟩ := H
 have c7b0 := eq_true c7
 have c7b1 := decide_eq_true c7
 replace H := ifs_ H
 obtain ⟨c8, H⟩ := H
 have c8b0 := eq_true c8
 have c8b1 := decide_eq_true c8
 replace H := bnd_ H
 obtain ⟨t132, A9, H⟩ := H
 replace H := ite_ H
 obtain ⟨c10, H⟩ | ⟨c10, H⟩ := H
 ·have c10b0 := dgt_ c10
  clear c10
  simp only [Option.some.injEq, Prod.mk.injEq] at H
  obtain ⟨rfl, rfl, rfl, rfl, rfl, rfl⟩ := H
  go_enter Try.func81, Try.ntmps81
  go_wp2_with (first | ((with_reducible refine gate_dst (N := 4) rfl ?_); refine bq_ (N := 4) #[.int .i64 0, .int .i64 0, .int .i64 0, .int .i64 0, .slice none 0 0] 44 ?_; intro gb131 hg w11 BK131 hb; have GE131 := ge_ hg; replace HB := nb_ hb; clear hb hg) | ((with_reducible refine gate_callee (f := 97) rfl ?_); refine gl_ 23 Try.func97 #[.string (a0.extract (a1 : Int).toNat ((wrap64 (a1 + 2)) : Int).toNat)] rfl ma_ ?_; (with_reducible refine (spec_l1Value.calls k (a0.extract (a1 : Int).toNat ((wrap64 (a1 + 2)) : Int).toNat) t132 _ A9.out).mono ?_); rintro e w' ⟨rfl, ⟨nd, rfl⟩⟩; refine ⟨_, rfl, ?_⟩; (try (rw [drewN_self w11]; replace BK131 := dK_ nd BK131; replace HB := dH_ nd HB; generalize World.drewN w11 nd = w11 at BK131 HB ⊢)); obtain ⟨hcz12_0, hcz12_1, hcz12_2, hcz12_3, hcz12_4, hfz12_0, hfz12_1, hfz12_2, hfz12_3, hfz12_4⟩ := cf5_ BK131.out))
  refine bodyPost_ret (results_ct rfl _ _ gb131 44 #[.int .i64 0, .int .i64 0, .int .i64 0, .int .i64 0, .slice none 0 0] (0, 0) _ rfl (up_ BK131) Try.underlying44 rfl (by kernel_rfl)) rfl ?_
  exact ⟨_, er_, ni_, hs_ GE131.out⟩
 have c10b0 := dgf_ c10
 clear c10
 obtain ⟨ji13, hji13⟩ : ∃ j_ : Int, (wrap64 (a1 + 2)) = j_ := ⟨_, rfl⟩
 first | rw [hji13] at H | simp only [hji13] at H
 (try rw [hji13] at c7b0)
 (try rw [hji13] at c7b1)
 (try rw [hji13] at c7)
 (try rw [hji13] at c8b0)
 (try rw [hji13] at c8b1)
 (try rw [hji13] at c8)
 (try rw [hji13] at c10b0)
 (try rw [hji13] at A9)
 have hji13w : (IntKind.i64.wrap (a1 + 2)) = ji13 := (i64_w _).trans hji13
 replace H := ifs_ H
 obtain ⟨c14, H⟩ := H
 have c14b0 := eq_true c14
 have c14b1 := decide_eq_true c14
 clear c14
 replace H := ifs_ H
 obtain ⟨c15, H⟩ := H
 have c15b0 := eq_true c15
 have c15b1 := decide_eq_true c15
 replace H := ifs_ H
 obtain ⟨c16, H⟩ := H
 have c16b0 := eq_true c16
 have c16b1 := decide_eq_true c16
 replace H := bnd_ H
 obtain ⟨t133, A17, H⟩ := H
 obtain ⟨ji18, hji18⟩ : ∃ j_ : Int, (wrap64 (a1 + 5)) = j_ := ⟨_, rfl⟩
 first | rw [hji18] at H | simp only [hji18] at H
 (try rw [hji18] at c15b0)
 (try rw [hji18] at c15b1)
 (try rw [hji18] at c15)
 (try rw [hji18] at c16b0)
 (try rw [hji18] at c16b1)
 (try rw [hji18] at c16)
 (try rw [hji18] at A9)
 (try rw [hji18] at A17)
 have hji18w : (IntKind.i64.wrap (a1 + 5)) = ji18 := (i64_w _).trans hji18
 replace H := ifs_ H
 obtain ⟨c19, H⟩ := H
 have c19b0 := eq_true c19
 have c19b1 := decide_eq_true c19
 clear c19
 replace H := ifs_ H
 obtain ⟨c20, H⟩ := H
 have c20b0 := eq_true c20
 have c20b1 := decide_eq_true c20
 replace H := ifs_ H
 obtain ⟨c21, H⟩ := H
 have c21b0 := eq_true c21
 have c21b1 := decide_eq_true c21
 replace H := bnd_ H
 obtain ⟨t134, A22, H⟩ := H
 obtain ⟨ji23, hji23⟩ : ∃ j_ : Int, (wrap64 (a1 + 7)) = j_ := ⟨_, rfl⟩
 first | rw [hji23] at H | simp only [hji23] at H
 (try rw [hji23] at c20b0)
 (try rw [hji23] at c20b1)
 (try rw [hji23] at c20)
 (try rw [hji23] at c21b0)
 (try rw [hji23] at c21b1)
 (try rw [hji23] at c21)
 (try rw [hji23] at A9)
 (try rw [hji23] at A17)
 (try rw [hji23] at A22)
 have hji23w : (IntKind.i64.wrap (a1 + 7)) = ji23 := (i64_w _).trans hji23
 replace H := ifs_ H
 obtain ⟨c24, H⟩ := H
 have c24b0 := eq_true c24
 have c24b1 := decide_eq_true c24
 clear c24
 replace H := ifs_ H
 obtain ⟨c25, H⟩ := H
 have c25b0 := eq_true c25
 have c25b1 := decide_eq_true c25
 replace H := ifs_ H
 obtain ⟨c26, H⟩ := H
 have c26b0 := eq_true c26
 have c26b1 := decide_eq_true c26
 replace H := bnd_ H
 obtain ⟨t135, A27, H⟩ := H
 obtain ⟨ji28, hji28⟩ : ∃ j_ : Int, (wrap64 (a1 + 9)) = j_ := ⟨_, rfl⟩
 first | rw [hji28] at H | simp only [hji28] at H
 (try rw [hji28] at c25b0)
 (try rw [hji28] at c25b1)
 (try rw [hji28] at c25)
 (try rw [hji28] at c26b0)
 (try rw [hji28] at c26b1)
 (try rw [hji28] at c26)
 (try rw [hji28] at A9)
 (try rw [hji28] at A17)
 (try rw [hji28] at A22)
 (try rw [hji28] at A27)
 have hji28w : (IntKind.i64.wrap (a1 + 9)) = ji28 := (i64_w _).trans hji28
 replace H := ifs_ H
 obtain ⟨c29, H⟩ := H
 have c29b0 := eq_true c29
 have c29b1 := decide_eq_true c29
 clear c29
 replace H := ifs_ H
 obtain ⟨c30, H⟩ := H
 have c30b0 := eq_true c30
 have c30b1 := decide_eq_true c30
 replace H := ifs_ H
 obtain ⟨c31, H⟩ := H
 have c31b0 := eq_true c31
 have c31b1 := decide_eq_true c31
 replace H := bnd_ H
 obtain ⟨t136, A32, H⟩ := H
 obtain ⟨ji33, hji33⟩ : ∃ j_ : Int, (wrap64 (a1 + 11)) = j_ := ⟨_, rfl⟩
 first | rw [hji33] at H | simp only [hji33] at H
 (try rw [hji33] at c30b0)
 (try rw [hji33] at c30b1)
 (try rw [hji33] at c30)
 (try rw [hji33] at c31b0)
 (try rw [hji33] at c31b1)
 (try rw [hji33] at c31)
 (try rw [hji33] at A9)
 (try rw [hji33] at A17)
 (try rw [hji33] at A22)
 (try rw [hji33] at A27)
 (try rw [hji33] at A32)
 have hji33w : (IntKind.i64.wrap (a1 + 11)) = ji33 := (i64_w _).trans hji33
 replace H := ifs_ H
 obtain ⟨c34, H⟩ := H
 have c34b0 := decide_eq_true c34
 clear c34
 replace H := ifs_ H
 obtain ⟨c35, H⟩ := H
 have c35b0 := decide_eq_true c35
 clear c35
 have H' := Aside0.mk H
 clear H
 go_enter Try.func81, Try.ntmps81
 try go_wp2_with (first | ((with_reducible refine gate_dst (N := 4) rfl ?_); refine bq_ (N := 4) #[.int .i64 0, .int .i64 0, .int .i64 0, .int .i64 0, .slice none 0 0] 44 ?_; intro gb131 hg w37 BK131 hb; have GE131 := ge_ hg; replace HB := nb_ hb; clear hb hg) | ((with_reducible refine gate_callee (f := 97) rfl ?_); refine gl_ 23 Try.func97 #[.string (a0.extract (a1 : Int).toNat ((ji13) : Int).toNat)] rfl (mb_ hji13) ?_; (with_reducible refine (spec_l1Value.calls k (a0.extract (a1 : Int).toNat ((ji13) : Int).toNat) t132 _ A9.out).mono ?_); rintro e w' ⟨rfl, ⟨nd, rfl⟩⟩; refine ⟨_, rfl, ?_⟩; (try (rw [drewN_self w37]; replace BK131 := dK_ nd BK131; replace HB := dH_ nd HB; generalize World.drewN w37 nd = w37 at BK131 HB ⊢))))
 replace BK131 := qK_ BK131
 replace HB := qH_ HB
 refine start_ (n := 31) (S := fun w' => True) (ds := []) (List.replicate 31 false).toArray (by kernel_rfl) rfl rfl trivial (fun hHeld => ?_); refine with_tabW spec_l1Take.tab6 spec_l1Take.bits6 (fun HT_ HW_ => ?_)
 generalize w37.drew = w38 at BK131 HB hHeld ⊢
 refine pv_ 0 30 ?_
 refine pv_ 1 31 ?_
 refine pv_ 2 32 ?_
 refine pv_ 3 33 ?_
 refine pv_ 4 34 ?_
 refine pv_ 5 35 ?_
 refine pv_ 7 37 ?_
 refine pv_ 8 38 ?_
 refine pv_ 9 39 ?_
 refine pv_ 10 40 ?_
 refine pv_ 11 41 ?_
 refine pv_ 12 42 ?_
 refine pv_ 14 44 ?_
 refine pv_ 15 45 ?_
 refine pv_ 16 46 ?_
 refine pv_ 17 47 ?_
 refine pv_ 18 48 ?_
 refine pv_ 19 49 ?_
 refine pv_ 21 51 ?_
 refine pv_ 22 52 ?_
 refine pv_ 23 53 ?_
 refine pv_ 24 54 ?_
 refine pv_ 25 55 ?_
 refine pv_ 26 56 ?_
 refine join_ (σ := Nat) 1 #[true, true, true, true, true, true, true, true, true, true, true, true, true, true, true, true, true, true, true, true, true, true, true, true, true, true, true, true, true, true, false] (fun s_ => [(36, .int .i64 t133), (43, .int .i64 t134), (50, .int .i64 t135), (57, .int .i64 t136), (7, .pointer (some ⟨s_, 0, none⟩)), (58, .agg #[.int .i64 t133, .int .i64 t134, .int .i64 t135, .int .i64 t136, .slice none 0 0])]) (fun s_ w' => (w'.heap[gb131]? = some (.cells #[.int .i64 0, .int .i64 0, .int .i64 0, .int .i64 0, .slice none 0 0] 44 (0, 0))) ∧ (w'.heap[s_]? = some (.cells #[.int .i64 0, .int .i64 0, .int .i64 0, .int .i64 0, .slice none 0 0] 44 (0, 0))) ∧ (w.heap.size ≤ s_) ∧ (w.heap.size ≤ s_) ∧ (gb131 ≠ s_) ∧ (s_ ≠ gb131) ∧ (Below w.heap.size w w')) ?_ ?_
 rotate_left
 ·intro hJ6_13_20_27_29
  refine join_ (σ := Unit) 2 #[true, true, true, true, true, true, true, true, true, true, true, true, true, true, true, true, true, true, true, true, true, true, true, true, true, true, true, true, true, false, false] (fun s_ => [(36, .int .i64 t133), (43, .int .i64 t134), (50, .int .i64 t135), (57, .int .i64 t136), (58, .agg #[.int .i64 t133, .int .i64 t134, .int .i64 t135, .int .i64 t136, .slice none 0 0])]) (fun s_ w' => (w'.heap[gb131]? = some (.cells #[.int .i64 0, .int .i64 0, .int .i64 0, .int .i64 0, .slice none 0 0] 44 (0, 0))) ∧ (Below w.heap.size w w')) ?_ ?_
  rotate_left
  ·intro hJ6_13_20_27
   refine join_ (σ := Nat) 3 #[true, true, true, true, true, true, true, true, true, true, true, true, true, true, true, true, true, true, true, true, true, true, true, true, true, true, true, false, false, true, false] (fun s_ => [(36, .int .i64 t133), (43, .int .i64 t134), (50, .int .i64 t135), (7, .pointer (some ⟨s_, 0, none⟩))]) (fun s_ w' => (w'.heap[gb131]? = some (.cells #[.int .i64 0, .int .i64 0, .int .i64 0, .int .i64 0, .slice none 0 0] 44 (0, 0))) ∧ (w'.heap[s_]? = some (.cells #[.int .i64 0, .int .i64 0, .int .i64 0, .int .i64 0, .slice none 0 0] 44 (0, 0))) ∧ (w.heap.size ≤ s_) ∧ (w.heap.size ≤ s_) ∧ (gb131 ≠ s_) ∧ (s_ ≠ gb131) ∧ (Below w.heap.size w w')) ?_ ?_
   rotate_left
   ·intro hJ6_13_20_29
    refine join_ (σ := Unit) 4 #[true, true, true, true, true, true, true, true, true, true, true, true, true, true, true, true, true, true, true, true, true, true, true, true, true, true, true, false, false, false, false] (fun s_ => [(36, .int .i64 t133), (43, .int .i64 t134), (50, .int .i64 t135)]) (fun s_ w' => (w'.heap[gb131]? = some (.cells #[.int .i64 0, .int .i64 0, .int .i64 0, .int .i64 0, .slice none 0 0] 44 (0, 0))) ∧ (Below w.heap.size w w')) ?_ ?_
    rotate_left
    ·intro hJ6_13_20
     refine join_ (σ := Nat) 4 #[true, true, true, true, true, true, true, true, true, true, true, true, true, true, true, true, true, true, true, true, false, true, true, true, true, true, true, false, false, true, false] (fun s_ => [(36, .int .i64 t133), (43, .int .i64 t134), (7, .pointer (some ⟨s_, 0, none⟩))]) (fun s_ w' => (w'.heap[gb131]? = some (.cells #[.int .i64 0, .int .i64 0, .int .i64 0, .int .i64 0, .slice none 0 0] 44 (0, 0))) ∧ (w'.heap[s_]? = some (.cells #[.int .i64 0, .int .i64 0, .int .i64 0, .int .i64 0, .slice none 0 0] 44 (0, 0))) ∧ (w.heap.size ≤ s_) ∧ (w.heap.size ≤ s_) ∧ (gb131 ≠ s_) ∧ (s_ ≠ gb131) ∧ (Below w.heap.size w w')) ?_ ?_
     rotate_left
     ·intro hJ6_13_29
      refine join_ (σ := Unit) 5 #[true, true, true, true, true, true, true, true, true, true, true, true, true, true, true, true, true, true, true, true, false, true, true, true, true, true, true, false, false, false, false] (fun s_ => [(36, .int .i64 t133), (43, .int .i64 t134)]) (fun s_ w' => (w'.heap[gb131]? = some (.cells #[.int .i64 0, .int .i64 0, .int .i64 0, .int .i64 0, .slice none 0 0] 44 (0, 0))) ∧ (Below w.heap.size w w')) ?_ ?_
      rotate_left
      ·intro hJ6_13
       refine join_ (σ := Nat) 5 #[true, true, true, true, true, true, true, true, true, true, true, true, true, false, true, true, true, true, true, true, false, true, true, true, true, true, true, false, false, true, false] (fun s_ => [(36, .int .i64 t133), (7, .pointer (some ⟨s_, 0, none⟩))]) (fun s_ w' => (w'.heap[gb131]? = some (.cells #[.int .i64 0, .int .i64 0, .int .i64 0, .int .i64 0, .slice none 0 0] 44 (0, 0))) ∧ (w'.heap[s_]? = some (.cells #[.int .i64 0, .int .i64 0, .int .i64 0, .int .i64 0, .slice none 0 0] 44 (0, 0))) ∧ (w.heap.size ≤ s_) ∧ (w.heap.size ≤ s_) ∧ (gb131 ≠ s_) ∧ (s_ ≠ gb131) ∧ (Below w.heap.size w w')) ?_ ?_
       rotate_left
       ·intro hJ6_29
        refine join_ (σ := Unit) 6 #[true, true, true, true, true, true, true, true, true, true, true, true, true, false, true, true, true, true, true, true, false, true, true, true, true, true, true, false, false, false, false] (fun s_ => [(36, .int .i64 t133)]) (fun s_ w' => (w'.heap[gb131]? = some (.cells #[.int .i64 0, .int .i64 0, .int .i64 0, .int .i64 0, .slice none 0 0] 44 (0, 0))) ∧ (Below w.heap.size w w')) ?_ ?_
        rotate_left
        ·intro hJ6
         refine join_ (σ := Nat) 6 #[true, true, true, true, true, true, false, true, true, true, true, true, true, false, true, true, true, true, true, true, false, true, true, true, true, true, true, false, false, true, false] (fun s_ => [(7, .pointer (some ⟨s_, 0, none⟩))]) (fun s_ w' => (w'.heap[gb131]? = some (.cells #[.int .i64 0, .int .i64 0, .int .i64 0, .int .i64 0, .slice none 0 0] 44 (0, 0))) ∧ (w'.heap[s_]? = some (.cells #[.int .i64 0, .int .i64 0, .int .i64 0, .int .i64 0, .slice none 0 0] 44 (0, 0))) ∧ (w.heap.size ≤ s_) ∧ (w.heap.size ≤ s_) ∧ (gb131 ≠ s_) ∧ (s_ ≠ gb131) ∧ (Below w.heap.size w w')) ?_ ?_
         rotate_left
         ·intro hJ29
          refine two_ (i := 6) (j := 29) (Ni := some 36) (Nj := some 7) #[true, true, true, true, true, true, true, true, true, true, true, true, true, false, true, true, true, true, true, true, false, true, true, true, true, true, true, false, false, false, false] #[true, true, true, true, true, true, false, true, true, true, true, true, true, false, true, true, true, true, true, true, false, true, true, true, true, true, true, false, false, true, false] rfl rfl rfl rfl (two_of HT_.out (by kernel_rfl)) (by decide) (by decide) (fun K hK => ?_) (fun K hK => ?_)
          ·skip
           refine gs_ Try.func97 #[.string (a0.extract ((ji13) : Int).toNat ((ji18) : Int).toNat)] rfl (mc_ hji13 hji18) ?_
           with_reducible refine (spec_l1Value.calls k (a0.extract ((ji13) : Int).toNat ((ji18) : Int).toNat) t133 _ A17.out).mono ?_
           rintro e w' ⟨rfl, ⟨nd, rfl⟩⟩
           refine ⟨_, rfl, ?_⟩
           refine hK.out _ _ trivial (fun hHeld => ?_)
           clear hK K
           refine no_ ?_
           exact nq_ (hJ6 () _ ⟨(kb_ BK131.out), (hs_ GE131.out)⟩)
          ·skip
           refine bs_ (N := 7) #[.int .i64 0, .int .i64 0, .int .i64 0, .int .i64 0, .slice none 0 0] 44 ?_
           intro gb137 hg w39 hbox hb
           have BK137 := Aside0.mk (hbox)
           have GW137 := ge1_ hg GE131
           have GE137 := ge1_ hg GE131
           replace HB := nc_ GE131 hb
           have NB131_137 := nl_ BK131 hg
           have NB137_131 := ng_ BK131 hg
           replace BK131 := bK_ BK131 hb
           clear hb hbox hg
           refine hK.out _ _ trivial (fun hHeld => ?_)
           clear hK K
           refine no_ ?_
           exact nq_ (hJ29 (gb137) _ ⟨(kb_ BK131.out), (kb_ BK137.out), GW137.out, GE137.out, NB131_137.out, NB137_131.out, (hs2_ GE131.out GE137.out)⟩)
         ·skip
          rintro gb137 w40 ⟨h0_, h1_, h2_, h3_, h4_, h5_, h6_⟩
          have n0_ : Aside0 (w40.heap[gb131]? = some (.cells #[.int .i64 0, .int .i64 0, .int .i64 0, .int .i64 0, .slice none 0 0] 44 (0, 0))) := ⟨h0_⟩
          have n1_ : Aside0 (w40.heap[gb137]? = some (.cells #[.int .i64 0, .int .i64 0, .int .i64 0, .int .i64 0, .slice none 0 0] 44 (0, 0))) := ⟨h1_⟩
          have n2_ : Aside0 (w.heap.size ≤ gb137) := ⟨h2_⟩
          have n3_ : Aside0 (w.heap.size ≤ gb137) := ⟨h3_⟩
          have n4_ : Aside0 (gb131 ≠ gb137) := ⟨h4_⟩
          have n5_ : Aside0 (gb137 ≠ gb131) := ⟨h5_⟩
          have n6_ : Aside0 (Below w.heap.size w w40) := ⟨h6_⟩
          clear BK131
          clear HB
          clear h0_ h1_ h2_ h3_ h4_ h5_ h6_
          have BK131 := n0_
          have BK137 := n1_
          have GW137 := n2_
          have GE137 := n3_
          have NB131_137 := n4_
          have NB137_131 := n5_
          have HB := n6_
          clear n0_ n1_ n2_ n3_ n4_ n5_ n6_
          have hHeld := trivial
          refine np_ ?_
          refine on_ 6 36 (fun K hK => ?_)
          refine gs_ Try.func97 #[.string (a0.extract ((ji13) : Int).toNat ((ji18) : Int).toNat)] rfl (mc_ hji13 hji18) ?_
          with_reducible refine (spec_l1Value.calls k (a0.extract ((ji13) : Int).toNat ((ji18) : Int).toNat) t133 _ A17.out).mono ?_
          rintro e w' ⟨rfl, ⟨nd, rfl⟩⟩
          refine ⟨_, rfl, ?_⟩
          refine hK.out _ _ trivial (fun hHeld => ?_)
          clear hK K
          refine no_ ?_
          exact nq_ (hJ6_29 (gb137) _ ⟨(kb_ BK131.out), (kb_ BK137.out), GW137.out, GE137.out, NB131_137.out, NB137_131.out, (hs2_ GE131.out GE137.out)⟩)
        ·skip
         rintro _ w39 ⟨h0_, h1_⟩
         have n0_ : Aside0 (w39.heap[gb131]? = some (.cells #[.int .i64 0, .int .i64 0, .int .i64 0, .int .i64 0, .slice none 0 0] 44 (0, 0))) := ⟨h0_⟩
         have n1_ : Aside0 (Below w.heap.size w w39) := ⟨h1_⟩
         clear BK131
         clear HB
         clear h0_ h1_
         have BK131 := n0_
         have HB := n1_
         clear n0_ n1_
         have hHeld := trivial
         refine np_ ?_
         refine two_ (i := 13) (j := 29) (Ni := some 43) (Nj := some 7) #[true, true, true, true, true, true, true, true, true, true, true, true, true, true, true, true, true, true, true, true, false, true, true, true, true, true, true, false, false, false, false] #[true, true, true, true, true, true, true, true, true, true, true, true, true, false, true, true, true, true, true, true, false, true, true, true, true, true, true, false, false, true, false] rfl rfl rfl rfl (two_of HT_.out (by kernel_rfl)) (by decide) (by decide) (fun K hK => ?_) (fun K hK => ?_)
         ·skip
          refine gs_ Try.func97 #[.string (a0.extract ((ji18) : Int).toNat ((ji23) : Int).toNat)] rfl (mc_ hji18 hji23) ?_
          with_reducible refine (spec_l1Value.calls k (a0.extract ((ji18) : Int).toNat ((ji23) : Int).toNat) t134 _ A22.out).mono ?_
          rintro e w' ⟨rfl, ⟨nd, rfl⟩⟩
          refine ⟨_, rfl, ?_⟩
          refine hK.out _ _ trivial (fun hHeld => ?_)
          clear hK K
          refine no_ ?_
          exact nq_ (hJ6_13 () _ ⟨(kb_ BK131.out), (hs_ GE131.out)⟩)
         ·skip
          refine bs_ (N := 7) #[.int .i64 0, .int .i64 0, .int .i64 0, .int .i64 0, .slice none 0 0] 44 ?_
          intro gb137 hg w40 hbox hb
          have BK137 := Aside0.mk (hbox)
          have GW137 := ge1_ hg GE131
          have GE137 := ge1_ hg GE131
          replace HB := nc_ GE131 hb
          have NB131_137 := nl_ BK131 hg
          have NB137_131 := ng_ BK131 hg
          replace BK131 := bK_ BK131 hb
          clear hb hbox hg
          refine hK.out _ _ trivial (fun hHeld => ?_)
          clear hK K
          refine no_ ?_
          exact nq_ (hJ6_29 (gb137) _ ⟨(kb_ BK131.out), (kb_ BK137.out), GW137.out, GE137.out, NB131_137.out, NB137_131.out, (hs2_ GE131.out GE137.out)⟩)
       ·skip
        rintro gb137 w40 ⟨h0_, h1_, h2_, h3_, h4_, h5_, h6_⟩
        have n0_ : Aside0 (w40.heap[gb131]? = some (.cells #[.int .i64 0, .int .i64 0, .int .i64 0, .int .i64 0, .slice none 0 0] 44 (0, 0))) := ⟨h0_⟩
        have n1_ : Aside0 (w40.heap[gb137]? = some (.cells #[.int .i64 0, .int .i64 0, .int .i64 0, .int .i64 0, .slice none 0 0] 44 (0, 0))) := ⟨h1_⟩
        have n2_ : Aside0 (w.heap.size ≤ gb137) := ⟨h2_⟩
        have n3_ : Aside0 (w.heap.size ≤ gb137) := ⟨h3_⟩
        have n4_ : Aside0 (gb131 ≠ gb137) := ⟨h4_⟩
        have n5_ : Aside0 (gb137 ≠ gb131) := ⟨h5_⟩
        have n6_ : Aside0 (Below w.heap.size w w40) := ⟨h6_⟩
        clear BK131
        clear HB
        clear h0_ h1_ h2_ h3_ h4_ h5_ h6_
        have BK131 := n0_
        have BK137 := n1_
        have GW137 := n2_
        have GE137 := n3_
        have NB131_137 := n4_
        have NB137_131 := n5_
        have HB := n6_
        clear n0_ n1_ n2_ n3_ n4_ n5_ n6_
        have hHeld := trivial
        refine np_ ?_
        refine on_ 13 43 (fun K hK => ?_)
        refine gs_ Try.func97 #[.string (a0.extract ((ji18) : Int).toNat ((ji23) : Int).toNat)] rfl (mc_ hji18 hji23) ?_
        with_reducible refine (spec_l1Value.calls k (a0.extract ((ji18) : Int).toNat ((ji23) : Int).toNat) t134 _ A22.out).mono ?_
        rintro e w' ⟨rfl, ⟨nd, rfl⟩⟩
        refine ⟨_, rfl, ?_⟩
        refine hK.out _ _ trivial (fun hHeld => ?_)
        clear hK K
        refine no_ ?_
        exact nq_ (hJ6_13_29 (gb137) _ ⟨(kb_ BK131.out), (kb_ BK137.out), GW137.out, GE137.out, NB131_137.out, NB137_131.out, (hs2_ GE131.out GE137.out)⟩)
      ·skip
       rintro _ w39 ⟨h0_, h1_⟩
       have n0_ : Aside0 (w39.heap[gb131]? = some (.cells #[.int .i64 0, .int .i64 0, .int .i64 0, .int .i64 0, .slice none 0 0] 44 (0, 0))) := ⟨h0_⟩
       have n1_ : Aside0 (Below w.heap.size w w39) := ⟨h1_⟩
       clear BK131
       clear HB
       clear h0_ h1_
       have BK131 := n0_
       have HB := n1_
       clear n0_ n1_
       have hHeld := trivial
       refine np_ ?_
       refine two_ (i := 20) (j := 29) (Ni := some 50) (Nj := some 7) #[true, true, true, true, true, true, true, true, true, true, true, true, true, true, true, true, true, true, true, true, true, true, true, true, true, true, true, false, false, false, false] #[true, true, true, true, true, true, true, true, true, true, true, true, true, true, true, true, true, true, true, true, false, true, true, true, true, true, true, false, false, true, false] rfl rfl rfl rfl (two_of HT_.out (by kernel_rfl)) (by decide) (by decide) (fun K hK => ?_) (fun K hK => ?_)
       ·skip
        refine gs_ Try.func97 #[.string (a0.extract ((ji23) : Int).toNat ((ji28) : Int).toNat)] rfl (mc_ hji23 hji28) ?_
        with_reducible refine (spec_l1Value.calls k (a0.extract ((ji23) : Int).toNat ((ji28) : Int).toNat) t135 _ A27.out).mono ?_
        rintro e w' ⟨rfl, ⟨nd, rfl⟩⟩
        refine ⟨_, rfl, ?_⟩
        refine hK.out _ _ trivial (fun hHeld => ?_)
        clear hK K
        refine no_ ?_
        exact nq_ (hJ6_13_20 () _ ⟨(kb_ BK131.out), (hs_ GE131.out)⟩)
       ·skip
        refine bs_ (N := 7) #[.int .i64 0, .int .i64 0, .int .i64 0, .int .i64 0, .slice none 0 0] 44 ?_
        intro gb137 hg w40 hbox hb
        have BK137 := Aside0.mk (hbox)
        have GW137 := ge1_ hg GE131
        have GE137 := ge1_ hg GE131
        replace HB := nc_ GE131 hb
        have NB131_137 := nl_ BK131 hg
        have NB137_131 := ng_ BK131 hg
        replace BK131 := bK_ BK131 hb
        clear hb hbox hg
        refine hK.out _ _ trivial (fun hHeld => ?_)
        clear hK K
        refine no_ ?_
        exact nq_ (hJ6_13_29 (gb137) _ ⟨(kb_ BK131.out), (kb_ BK137.out), GW137.out, GE137.out, NB131_137.out, NB137_131.out, (hs2_ GE131.out GE137.out)⟩)
     ·skip
      rintro gb137 w40 ⟨h0_, h1_, h2_, h3_, h4_, h5_, h6_⟩
      have n0_ : Aside0 (w40.heap[gb131]? = some (.cells #[.int .i64 0, .int .i64 0, .int .i64 0, .int .i64 0, .slice none 0 0] 44 (0, 0))) := ⟨h0_⟩
      have n1_ : Aside0 (w40.heap[gb137]? = some (.cells #[.int .i64 0, .int .i64 0, .int .i64 0, .int .i64 0, .slice none 0 0] 44 (0, 0))) := ⟨h1_⟩
      have n2_ : Aside0 (w.heap.size ≤ gb137) := ⟨h2_⟩
      have n3_ : Aside0 (w.heap.size ≤ gb137) := ⟨h3_⟩
      have n4_ : Aside0 (gb131 ≠ gb137) := ⟨h4_⟩
      have n5_ : Aside0 (gb137 ≠ gb131) := ⟨h5_⟩
      have n6_ : Aside0 (Below w.heap.size w w40) := ⟨h6_⟩
      clear BK131
      clear HB
      clear h0_ h1_ h2_ h3_ h4_ h5_ h6_
      have BK131 := n0_
      have BK137 := n1_
      have GW137 := n2_
      have GE137 := n3_
      have NB131_137 := n4_
      have NB137_131 := n5_
      have HB := n6_
      clear n0_ n1_ n2_ n3_ n4_ n5_ n6_
      have hHeld := trivial
      refine np_ ?_
      refine on_ 20 50 (fun K hK => ?_)
      refine gs_ Try.func97 #[.string (a0.extract ((ji23) : Int).toNat ((ji28) : Int).toNat)] rfl (mc_ hji23 hji28) ?_
      with_reducible refine (spec_l1Value.calls k (a0.extract ((ji23) : Int).toNat ((ji28) : Int).toNat) t135 _ A27.out).mono ?_
      rintro e w' ⟨rfl, ⟨nd, rfl⟩⟩
      refine ⟨_, rfl, ?_⟩
      refine hK.out _ _ trivial (fun hHeld => ?_)
      clear hK K
      refine no_ ?_
      exact nq_ (hJ6_13_20_29 (gb137) _ ⟨(kb_ BK131.out), (kb_ BK137.out), GW137.out, GE137.out, NB131_137.out, NB137_131.out, (hs2_ GE131.out GE137.out)⟩)
    ·skip
     rintro _ w39 ⟨h0_, h1_⟩
     have n0_ : Aside0 (w39.heap[gb131]? = some (.cells #[.int .i64 0, .int .i64 0, .int .i64 0, .int .i64 0, .slice none 0 0] 44 (0, 0))) := ⟨h0_⟩
     have n1_ : Aside0 (Below w.heap.size w w39) := ⟨h1_⟩
     clear BK131
     clear HB
     clear h0_ h1_
     have BK131 := n0_
     have HB := n1_
     clear n0_ n1_
     have hHeld := trivial
     refine np_ ?_
     refine two_ (i := 27) (j := 29) (Ni := some 57) (Nj := some 7) #[true, true, true, true, true, true, true, true, true, true, true, true, true, true, true, true, true, true, true, true, true, true, true, true, true, true, true, true, false, false, false] #[true, true, true, true, true, true, true, true, true, true, true, true, true, true, true, true, true, true, true, true, true, true, true, true, true, true, true, false, false, true, false] rfl rfl rfl rfl (two_of HT_.out (by kernel_rfl)) (by decide) (by decide) (fun K hK => ?_) (fun K hK => ?_)
     ·skip
      refine gs_ Try.func97 #[.string (a0.extract ((ji28) : Int).toNat ((ji33) : Int).toNat)] rfl (mc_ hji28 hji33) ?_
      with_reducible refine (spec_l1Value.calls k (a0.extract ((ji28) : Int).toNat ((ji33) : Int).toNat) t136 _ A32.out).mono ?_
      rintro e w' ⟨rfl, ⟨nd, rfl⟩⟩
      refine ⟨_, rfl, ?_⟩
      refine hK.out _ _ trivial (fun hHeld => ?_)
      clear hK K
      refine no_ ?_
      refine pv_ 28 58 ?_
      exact nq_ (hJ6_13_20_27 () _ ⟨(kb_ BK131.out), (hs_ GE131.out)⟩)
     ·skip
      refine bs_ (N := 7) #[.int .i64 0, .int .i64 0, .int .i64 0, .int .i64 0, .slice none 0 0] 44 ?_
      intro gb137 hg w40 hbox hb
      have BK137 := Aside0.mk (hbox)
      have GW137 := ge1_ hg GE131
      have GE137 := ge1_ hg GE131
      replace HB := nc_ GE131 hb
      have NB131_137 := nl_ BK131 hg
      have NB137_131 := ng_ BK131 hg
      replace BK131 := bK_ BK131 hb
      clear hb hbox hg
      refine hK.out _ _ trivial (fun hHeld => ?_)
      clear hK K
      refine no_ ?_
      exact nq_ (hJ6_13_20_29 (gb137) _ ⟨(kb_ BK131.out), (kb_ BK137.out), GW137.out, GE137.out, NB131_137.out, NB137_131.out, (hs2_ GE131.out GE137.out)⟩)
   ·skip
    rintro gb137 w40 ⟨h0_, h1_, h2_, h3_, h4_, h5_, h6_⟩
    have n0_ : Aside0 (w40.heap[gb131]? = some (.cells #[.int .i64 0, .int .i64 0, .int .i64 0, .int .i64 0, .slice none 0 0] 44 (0, 0))) := ⟨h0_⟩
    have n1_ : Aside0 (w40.heap[gb137]? = some (.cells #[.int .i64 0, .int .i64 0, .int .i64 0, .int .i64 0, .slice none 0 0] 44 (0, 0))) := ⟨h1_⟩
    have n2_ : Aside0 (w.heap.size ≤ gb137) := ⟨h2_⟩
    have n3_ : Aside0 (w.heap.size ≤ gb137) := ⟨h3_⟩
    have n4_ : Aside0 (gb131 ≠ gb137) := ⟨h4_⟩
    have n5_ : Aside0 (gb137 ≠ gb131) := ⟨h5_⟩
    have n6_ : Aside0 (Below w.heap.size w w40) := ⟨h6_⟩
    clear BK131
    clear HB
    clear h0_ h1_ h2_ h3_ h4_ h5_ h6_
    have BK131 := n0_
    have BK137 := n1_
    have GW137 := n2_
    have GE137 := n3_
    have NB131_137 := n4_
    have NB137_131 := n5_
    have HB := n6_
    clear n0_ n1_ n2_ n3_ n4_ n5_ n6_
    have hHeld := trivial
    refine np_ ?_
    refine on_ 27 57 (fun K hK => ?_)
    refine gs_ Try.func97 #[.string (a0.extract ((ji28) : Int).toNat ((ji33) : Int).toNat)] rfl (mc_ hji28 hji33) ?_
    with_reducible refine (spec_l1Value.calls k (a0.extract ((ji28) : Int).toNat ((ji33) : Int).toNat) t136 _ A32.out).mono ?_
    rintro e w' ⟨rfl, ⟨nd, rfl⟩⟩
    refine ⟨_, rfl, ?_⟩
    refine hK.out _ _ trivial (fun hHeld => ?_)
    clear hK K
    refine no_ ?_
    refine pv_ 28 58 ?_
    exact nq_ (hJ6_13_20_27_29 (gb137) _ ⟨(kb_ BK131.out), (kb_ BK137.out), GW137.out, GE137.out, NB131_137.out, NB137_131.out, (hs2_ GE131.out GE137.out)⟩)
  ·skip
   rintro _ w39 ⟨h0_, h1_⟩
   have n0_ : Aside0 (w39.heap[gb131]? = some (.cells #[.int .i64 0, .int .i64 0, .int .i64 0, .int .i64 0, .slice none 0 0] 44 (0, 0))) := ⟨h0_⟩
   have n1_ : Aside0 (Below w.heap.size w w39) := ⟨h1_⟩
   clear BK131
   clear HB
   clear h0_ h1_
   have BK131 := n0_
   have HB := n1_
   clear n0_ n1_
   have hHeld := trivial
   refine np_ ?_
   refine on_ 29 7 (fun K hK => ?_)
   refine bs_ (N := 7) #[.int .i64 0, .int .i64 0, .int .i64 0, .int .i64 0, .slice none 0 0] 44 ?_
   intro gb137 hg w40 hbox hb
   have BK137 := Aside0.mk (hbox)
   have GW137 := ge1_ hg GE131
   have GE137 := ge1_ hg GE131
   replace HB := nc_ GE131 hb
   have NB131_137 := nl_ BK131 hg
   have NB137_131 := ng_ BK131 hg
   replace BK131 := bK_ BK131 hb
   clear hb hbox hg
   refine hK.out _ _ trivial (fun hHeld => ?_)
   clear hK K
   refine no_ ?_
   exact nq_ (hJ6_13_20_27_29 (gb137) _ ⟨(kb_ BK131.out), (kb_ BK137.out), GW137.out, GE137.out, NB131_137.out, NB137_131.out, (hs2_ GE131.out GE137.out)⟩)
 rintro gb137 w40 ⟨h0_, h1_, h2_, h3_, h4_, h5_, h6_⟩
 have n0_ : Aside0 (w40.heap[gb131]? = some (.cells #[.int .i64 0, .int .i64 0, .int .i64 0, .int .i64 0, .slice none 0 0] 44 (0, 0))) := ⟨h0_⟩
 have n1_ : Aside0 (w40.heap[gb137]? = some (.cells #[.int .i64 0, .int .i64 0, .int .i64 0, .int .i64 0, .slice none 0 0] 44 (0, 0))) := ⟨h1_⟩
 have n2_ : Aside0 (w.heap.size ≤ gb137) := ⟨h2_⟩
 have n3_ : Aside0 (w.heap.size ≤ gb137) := ⟨h3_⟩
 have n4_ : Aside0 (gb131 ≠ gb137) := ⟨h4_⟩
 have n5_ : Aside0 (gb137 ≠ gb131) := ⟨h5_⟩
 have n6_ : Aside0 (Below w.heap.size w w40) := ⟨h6_⟩
 clear BK131
 clear HB
 clear h0_ h1_ h2_ h3_ h4_ h5_ h6_
 have BK131 := n0_
 have BK137 := n1_
 have GW137 := n2_
 have GE137 := n3_
 have NB131_137 := n4_
 have NB137_131 := n5_
 have HB := n6_
 clear n0_ n1_ n2_ n3_ n4_ n5_ n6_
 have hHeld := trivial
 refine np_ ?_
 refine one_ (i := 30) (N := none) #[true, true, true, true, true, true, true, true, true, true, true, true, true, true, true, true, true, true, true, true, true, true, true, true, true, true, true, true, true, true, true] rfl rfl (one_of HT_.out (by kernel_rfl)) (by decide) (fun K hK => ?_)
 obtain ⟨hs41, hfs41⟩ := cf1_ BK137.out
 have hns41_0 := NB131_137.out
 have hms41_0 := NB137_131.out
 have hs42 : w40.cell? ⟨gb137, 1, none⟩ = some (.int .i64 0) := bt_ BK137 1
 have hfs42 := blk_frozen BK137.out 1
 have hns42_0 := NB131_137.out
 have hms42_0 := NB137_131.out
 have hs43 : w40.cell? ⟨gb137, 2, none⟩ = some (.int .i64 0) := bt_ BK137 2
 have hfs43 := blk_frozen BK137.out 2
 have hns43_0 := NB131_137.out
 have hms43_0 := NB137_131.out
 have hs44 : w40.cell? ⟨gb137, 3, none⟩ = some (.int .i64 0) := bt_ BK137 3
 have hfs44 := blk_frozen BK137.out 3
 have hns44_0 := NB131_137.out
 have hms44_0 := NB137_131.out
 have hs45 : w40.cell? ⟨gb137, 4, none⟩ = some (.slice none 0 0) := bt_ BK137 4
 have hfs45 := blk_frozen BK137.out 4
 have hns45_0 := NB131_137.out
 have hms45_0 := NB137_131.out
 refine skip_ (w1 := ?_) (by rfl) rfl ?_ ?_
 rotate_left
 ·go_simp
  rfl
 refine hK.out _ _ trivial (fun hHeld => ?_)
 clear hK K
 refine done_ (done_of HT_.out (by kernel_rfl)) ?_
 have p36 : 0 ≤ ((ji33) : Int) := oa_
 have q36 : (ji33) < (a0.size : Int) := oa_
 have hx36 := bt_at a0 (ji33)
 replace p36 := eq_true p36
 replace q36 := eq_true q36
 try go_wp2
 go_loopg [8, 9] k (fun kq v8 v9 w' => ∃ (x8_1 : Int) (x9_1 : Int) (x132000_1 : Int) (x132001_1 : Int) (x132002_1 : Int) (x132003_1 : Int) (x138004_1 : List ByteArray) (u138004 : Value), v8 = .int .i64 x8_1 ∧ v9 = .int .i64 x9_1 ∧ Aside0 (spec_l1Take.l0 kq a0 a1 (wrap64 ((ji13) + t132)) x8_1 x9_1 t133 t134 t135 t136 x138004_1 = some (r1, r2, r3, r4, r5, r6)) ∧ Aside0 (kq ≤ k) ∧ Aside0 (Kd.R Kd.string 9 w' w.heap.size (fun _ => True) u138004 x138004_1) ∧ Aside0 (w'.heap[gb131]? = some (.cells #[.int .i64 x132000_1, .int .i64 x132001_1, .int .i64 x132002_1, .int .i64 x132003_1, (.slice none 0 0)] 44 (0, 0))) ∧ Aside0 (w'.heap[gb137]? = some (.cells #[.int .i64 t133, .int .i64 t134, .int .i64 t135, .int .i64 t136, u138004] 44 (0, 0))) ∧ Aside0 (Below w.heap.size w w'))
 case atStart => exact ⟨(wrap64 (a1 + 12)), (wrap64 (bt a0 (ji33))), (0), (0), (0), (0), (([] : List ByteArray)), (.slice none 0 0), sr_, (by first | rfl | (simp; done) | (simp only [← hji33] <;> (first | rfl | simp)) | (simp [*]; done)), H', ⟨Nat.le_refl _⟩, ⟨ni_⟩, ⟨uf_ BK131 NB131_137.out⟩, ⟨up_ BK137⟩, ⟨hs2_ GE131.out GE137.out⟩⟩
 case round =>
  clear H'
  try clear p36
  try clear q36
  try clear hx36
  try clear p36
  try clear q36
  obtain ⟨x8_1, x9_1, x132000_1, x132001_1, x132002_1, x132003_1, x138004_1, u138004, rfl, rfl, HA, HK1, HO_138004, BK131, BK137, HB⟩ := hrel
  cases gk with
  | zero => exact absurd HA.out (by simp [spec_l1Take.l0])
  | succ k1 =>
   have H := HA.out
   clear HA
   simp only [spec_l1Take.l0] at H
   replace H := ite_ H
   obtain ⟨c46, H⟩ | ⟨c46, H⟩ := H
   ·have c46b0 := dgt_ c46
    clear c46
    replace H := ite_ H
    obtain ⟨c47, H⟩ | ⟨c47, H⟩ := H
    ·have c47b0 := dge_ c47
     clear c47
     simp only [Option.some.injEq, Prod.mk.injEq] at H
     obtain ⟨rfl, rfl, rfl, rfl, rfl, rfl⟩ := H
     have hnb48 := NB131_137.out
     have hnc48 := NB137_131.out
     obtain ⟨hcz49_0, hcz49_1, hcz49_2, hcz49_3, hcz49_4, hfz49_0, hfz49_1, hfz49_2, hfz49_3, hfz49_4⟩ := cf5_ BK131.out
     go_wp2
     refine bodyPost_ret (results_ct rfl _ _ gb131 44 #[.int .i64 0, .int .i64 0, .int .i64 0, .int .i64 0, .slice none 0 0] (0, 0) _ rfl (up_ BK131) Try.underlying44 rfl (by kernel_rfl)) rfl ?_
     exact ⟨_, by first | rfl | (simp [errW_none, errW_some] <;> rfl) | (simp only [← hji13, ← hji18, ← hji23, ← hji28, ← hji33]; first | rfl | (simp [errW_none, errW_some] <;> rfl)) | (simp [*, errW_none, errW_some] <;> rfl), ni_, hs2_ GE131.out GE137.out⟩
    have c47b0 := dne_ c47
    clear c47
    replace H := ifs_ H
    obtain ⟨c50, H⟩ := H
    have c50b0 := decide_eq_true c50
    clear c50
    replace H := ifs_ H
    obtain ⟨c51, H⟩ := H
    have c51b0 := decide_eq_true c51
    clear c51
    replace H := ite_ H
    obtain ⟨c53, H⟩ | ⟨c53, H⟩ := H
    ·have c53b0 := dgt_ c53
     clear c53
     simp only [Option.some.injEq, Prod.mk.injEq] at H
     obtain ⟨rfl, rfl, rfl, rfl, rfl, rfl⟩ := H
     have p52 : 0 ≤ (x8_1 : Int) := oa_
     have q52 : x8_1 < (a0.size : Int) := oa_
     have hx52 := bt_at a0 x8_1
     replace p52 := eq_true p52
     replace q52 := eq_true q52
     have hnb54 := NB131_137.out
     have hnc54 := NB137_131.out
     obtain ⟨hcz55_0, hcz55_1, hcz55_2, hcz55_3, hcz55_4, hfz55_0, hfz55_1, hfz55_2, hfz55_3, hfz55_4⟩ := cf5_ BK131.out
     go_wp2
     refine bodyPost_ret (results_ct rfl _ _ gb131 44 #[.int .i64 0, .int .i64 0, .int .i64 0, .int .i64 0, .slice none 0 0] (0, 0) _ rfl (up_ BK131) Try.underlying44 rfl (by kernel_rfl)) rfl ?_
     exact ⟨_, by first | rfl | (simp [errW_none, errW_some] <;> rfl) | (simp only [← hji13, ← hji18, ← hji23, ← hji28, ← hji33]; first | rfl | (simp [errW_none, errW_some] <;> rfl)) | (simp [*, errW_none, errW_some] <;> rfl), ni_, hs2_ GE131.out GE137.out⟩
    have c53b0 := dgf_ c53
    clear c53
    obtain ⟨ji57, hji57⟩ : ∃ j_ : Int, (wrap64 (x8_1 + 1)) = j_ := ⟨_, rfl⟩
    first | rw [hji57] at H | simp only [hji57] at H
    have hji57w : (IntKind.i64.wrap (x8_1 + 1)) = ji57 := (i64_w _).trans hji57
    replace H := ifs_ H
    obtain ⟨c58, H⟩ := H
    have c58b0 := eq_true c58
    have c58b1 := decide_eq_true c58
    clear c58
    replace H := ifs_ H
    obtain ⟨c59, H⟩ := H
    have c59b0 := eq_true c59
    have c59b1 := decide_eq_true c59
    replace H := ifs_ H
    obtain ⟨c60, H⟩ := H
    have c60b0 := eq_true c60
    have c60b1 := decide_eq_true c60
    replace H := ifs_ H
    obtain ⟨c61, H⟩ := H
    have LMc61 := Aside0.mk c61
    clear c61
    obtain ⟨y138, hy138⟩ : ∃ y_ : List ByteArray, y_ = (x138004_1 ++ [a0.extract ((ji57) : Int).toNat ((wrap64 ((ji57) + (wrap64 (bt a0 x8_1)))) : Int).toNat]) := ⟨_, rfl⟩
    replace H : (spec_l1Take.l0 k1 a0 a1 (wrap64 ((ji13) + t132)) (wrap64 (x8_1 + (wrap64 (1 + (wrap64 (bt a0 x8_1)))))) (wrap64 (x9_1 - 1)) t133 t134 t135 t136 y138) = some (r1, r2, r3, r4, r5, r6) := by first | (rw [hy138]; with_reducible exact H) | (have H2_ := (Option.bind_some _ _).symm.trans H; rw [hy138]; with_reducible exact H2_) | (have H2_ := (Option.bind_some _ _).symm.trans H; with_reducible exact H2_) | with_reducible exact H | (rw [hy138]; exact H) | exact H
    have Ny138 := Aside0.mk hy138
    clear hy138
    have H' := Aside0.mk H
    clear H
    have p52 : 0 ≤ (x8_1 : Int) := oa_
    have q52 : x8_1 < (a0.size : Int) := oa_
    have hx52 := bt_at a0 x8_1
    replace p52 := eq_true p52
    replace q52 := eq_true q52
    try go_wp2
    replace HO_138004 := qR_ HO_138004
    replace BK131 := qK_ BK131
    replace BK137 := qK_ BK137
    replace HB := qH_ HB
    have p56 : 0 ≤ (x8_1 : Int) := oa_
    have q56 : x8_1 < (a0.size : Int) := oa_
    have hx56 := bt_at a0 x8_1
    replace p56 := eq_true p56
    replace q56 := eq_true q56
    refine start_ (n := 17) (S := fun w' => w'.cell? ⟨gb137, 0, none⟩ = some (.int .i64 t133) ∧ w'.cell? ⟨gb137, 1, none⟩ = some (.int .i64 t134) ∧ w'.cell? ⟨gb137, 2, none⟩ = some (.int .i64 t135) ∧ w'.cell? ⟨gb137, 3, none⟩ = some (.int .i64 t136) ∧ w'.cell? ⟨gb137, 4, none⟩ = some (u138004)) (ds := [16]) (List.replicate 17 false).toArray (by kernel_rfl) rfl rfl ⟨bt_ BK137 0, bt_ BK137 1, bt_ BK137 2, bt_ BK137 3, bt_ BK137 4⟩ (fun hHeld => ?_); refine with_tabW spec_l1Take.tab13 spec_l1Take.bits13 (fun HT_ HW_ => ?_)
    generalize wr.drew = w63 at HO_138004 BK131 BK137 HB hHeld ⊢
    refine pv_ 0 85 ?_
    refine pv_ 2 87 ?_
    refine pv_ 3 88 ?_
    refine pv_ 4 89 ?_
    refine pv_ 5 90 ?_
    refine pv_ 6 91 ?_
    refine pv_ 7 92 ?_
    refine pv_ 8 93 ?_
    refine tk_ 1 86 ?_
    refine tk_ 9 94 ?_
    refine pv_ 10 95 ?_
    refine pv_ 11 96 ?_
    refine pv_ 12 97 ?_
    refine on_ 13 98 (fun K hK => ?_)
    refine value_ (w1 := ?_) (v := ?_) (by rfl) rfl ?_ ?_
    rotate_left 2
    ·go_simp
     constructor
     ·rfl
     ·rfl
    refine hK.out _ _ ⟨(blk_cell (blk_alloc BK137.out _) 0).trans rfl, (blk_cell (blk_alloc BK137.out _) 1).trans rfl, (blk_cell (blk_alloc BK137.out _) 2).trans rfl, (blk_cell (blk_alloc BK137.out _) 3).trans rfl, (blk_cell (blk_alloc BK137.out _) 4).trans rfl⟩ (fun hHeld => ?_)
    clear hK K
    refine no_ ?_
    refine on_ 14 99 (fun K hK => ?_)
    refine Kd.R_append_step Kd.string (w0 := w) w.heap.size (by rfl) (.tmp 86) (.tmp 98) 38 9 (.string ⟨#[]⟩) 16 rfl Try.underlying38 info9 rfl (by decide) (by omega) u138004 x138004_1 (a0.extract ((ji57) : Int).toNat ((wrap64 ((ji57) + (wrap64 (bt a0 x8_1)))) : Int).toNat) [.string (a0.extract ((ji57) : Int).toNat ((wrap64 ((ji57) + (wrap64 (bt a0 x8_1)))) : Int).toNat)] (fun _ => True) (fun _ => False) rfl rfl ?aP (fun _ hk => hk.elim) ?aF ?aO ?aB ?aS ?aL ?_
    (case aP => exact rfl)
    (case aB => exact (hs2_ GE131.out GE137.out))
    (case aF => exact (fun _ _ => trivial))
    (case aO => exact (kr_ HO_138004.out))
    (case aS => exact (below_size (hs2_ GE131.out GE137.out)))
    (case aL => have := LMc61.out; omega)
    intro v139 w64 ho hb hg hat
    rw [← Ny138.out] at ho
    replace BK131 := Aside0.mk (blk_grown (g := gb131) (o := .cells #[.int .i64 x132000_1, .int .i64 x132001_1, .int .i64 x132002_1, .int .i64 x132003_1, .slice none 0 0] 44 (0, 0)) (kb_ BK131.out) hg (Kd.R_ne HO_138004.out BK131.out (by decide)))
    replace BK137 := Aside0.mk (blk_grown (g := gb137) (o := .cells #[.int .i64 t133, .int .i64 t134, .int .i64 t135, .int .i64 t136, u138004] 44 (0, 0)) (kb_ BK137.out) hg (Kd.R_ne HO_138004.out BK137.out (by decide)))
    replace HB := Aside0.mk (hb)
    have HO140 := Aside0.mk (ho)
    clear HO_138004
    clear ho hb hg hat
    obtain ⟨Ao65, co65, eo65⟩ := Kd.R_slice HO140.out
    (first | subst eo65 | (injection eo65 with f1_ f2_ f3_; have f4_ := f1_.symm; have f5_ := f3_.symm; clear f1_ f2_ f3_; subst f4_; subst f5_))
    refine hK.out _ _ ⟨bt_ BK137 0, bt_ BK137 1, bt_ BK137 2, bt_ BK137 3, bt_ BK137 4⟩ (fun hHeld => ?_)
    clear hK K
    refine no_ ?_
    refine pv_ 15 100 ?_
    refine last_ (i := 16) (N := none) #[true, true, true, true, true, true, true, true, true, true, true, true, true, true, true, true, true] rfl rfl (one_of HT_.out (by kernel_rfl)) (by decide) (fun K hK => ?_)
    have hs66 : w64.cell? ⟨gb137, 4, none⟩ = some (u138004) := bt_ BK137 4
    have hfs66 := blk_frozen BK137.out 4
    have hns66_0 := NB131_137.out
    have hms66_0 := NB137_131.out
    refine skip_ (w1 := ?_) (by rfl) rfl ?_ ?_
    rotate_left
    ·go_simp
     rfl
    refine hK.out _ _ ?_
    clear hK K
    refine done_ (done_of HT_.out (by kernel_rfl)) ?_
    have p62 : 0 ≤ (x8_1 : Int) := oa_
    have q62 : x8_1 < (a0.size : Int) := oa_
    have hx62 := bt_at a0 x8_1
    replace p62 := eq_true p62
    replace q62 := eq_true q62
    try go_wp2
    go_roundg k1
    case measure => have := HK1.out; omega
    case rel => exact ⟨(wrap64 (x8_1 + (wrap64 (1 + (wrap64 (bt a0 x8_1)))))), (wrap64 (x9_1 - 1)), (x132000_1), (x132001_1), (x132002_1), (x132003_1), (y138), (.slice Ao65 y138.length co65), sr_, sr_, H', ⟨by have := HK1.out; omega⟩, ⟨rF_ (Kd.R_mono (Kd.R_far (p := ⟨gb137, 4, none⟩) (Kd.R_types HO140.out BK137.out (by decide)) (fun _ hk => hk.2) (.slice Ao65 y138.length co65)) (fun _ hk => trivial))⟩, ⟨uf_ BK131 NB131_137.out⟩, ⟨up_ BK137⟩, ⟨hs2_ GE131.out GE137.out⟩⟩
   have c46b0 := dgf_ c46
   clear c46
   replace H := bnd_ H
   obtain ⟨t141, A67, H⟩ := H
   replace H := ifb_ H
   obtain ⟨rfl, H⟩ | ⟨rfl, H⟩ := H
   rotate_left
   ·simp only [Option.some.injEq, Prod.mk.injEq] at H
    obtain ⟨rfl, rfl, rfl, rfl, rfl, rfl⟩ := H
    try go_wp2
    replace HO_138004 := qR_ HO_138004
    replace BK131 := qK_ BK131
    replace BK137 := qK_ BK137
    replace HB := qH_ HB
    obtain ⟨Ao88, co88, eo88⟩ := Kd.R_slice HO_138004.out
    (first | subst eo88 | (injection eo88 with f1_ f2_ f3_; have f4_ := f1_.symm; have f5_ := f3_.symm; clear f1_ f2_ f3_; subst f4_; subst f5_))
    refine start_ (n := 12) (S := fun w' => w'.cell? ⟨gb137, 0, none⟩ = some (.int .i64 t133) ∧ w'.cell? ⟨gb137, 1, none⟩ = some (.int .i64 t134) ∧ w'.cell? ⟨gb137, 2, none⟩ = some (.int .i64 t135) ∧ w'.cell? ⟨gb137, 3, none⟩ = some (.int .i64 t136) ∧ w'.cell? ⟨gb137, 4, none⟩ = some (.slice Ao88 x138004_1.length co88)) (ds := []) (List.replicate 12 false).toArray (by kernel_rfl) rfl rfl ⟨bt_ BK137 0, bt_ BK137 1, bt_ BK137 2, bt_ BK137 3, bt_ BK137 4⟩ (fun hHeld => ?_); refine with_tabW spec_l1Take.tab15 spec_l1Take.bits15 (fun HT_ HW_ => ?_)
    generalize wr.drew = w87 at HO_138004 BK131 BK137 HB hHeld ⊢
    refine tk_ 0 108 ?_
    refine on_ 1 109 (fun K hK => ?_)
    refine gs_ Try.func59 #[.agg #[.int .i64 t133, .int .i64 t134, .int .i64 t135, .int .i64 t136, .slice Ao88 x138004_1.length co88]] rfl ma_ ?_
    with_reducible refine (spec_GoodBatch.calls k1 t133 t134 t135 t136 _ _ x138004_1 false _ ?side1 ?side2 A67.out).mono ?_
    (case side1 => exact cs_ ((Kd.R_reads' HO_138004.out).2.2))
    (case side2 => exact (Kd.R_reads' HO_138004.out).2.1)
    rintro e w89 ⟨rfl, hb⟩
    refine ⟨_, rfl, ?_⟩
    replace HO_138004 := rB_ HO_138004 hb
    replace BK131 := bK_ BK131 hb
    replace BK137 := bK_ BK137 hb
    replace HB := nc2_ GE131 GE137 hb
    (try clear hb)
    (try clear hb2)
    (try clear hk)
    (try clear hi)
    refine hK.out _ _ ⟨bt_ BK137 0, bt_ BK137 1, bt_ BK137 2, bt_ BK137 3, bt_ BK137 4⟩ (fun hHeld => ?_)
    clear hK K
    refine no_ ?_
    refine pv_ 2 110 ?_
    refine pv_ 3 111 ?_
    refine po_ 4 112 ?_
    refine po_ 5 113 ?_
    refine po_ 6 114 ?_
    refine po_ 7 115 ?_
    refine po_ 8 116 ?_
    refine po_ 9 117 ?_
    refine po_ 10 118 ?_
    refine pv_ 11 119 ?_
    refine done_ (done_of HT_.out (by kernel_rfl)) ?_
    have hnb90 := NB131_137.out
    have hnc90 := NB137_131.out
    obtain ⟨hcz91_0, hcz91_1, hcz91_2, hcz91_3, hcz91_4, hfz91_0, hfz91_1, hfz91_2, hfz91_3, hfz91_4⟩ := cf5_ BK131.out
    try go_wp2
    refine bodyPost_ret (results_ct rfl _ _ gb131 44 #[.int .i64 0, .int .i64 0, .int .i64 0, .int .i64 0, .slice none 0 0] (0, 0) _ rfl (up_ BK131) Try.underlying44 rfl (by kernel_rfl)) rfl ?_
    exact ⟨_, by first | rfl | (simp [errW_none, errW_some] <;> rfl) | (simp only [← hji13, ← hji18, ← hji23, ← hji28, ← hji33]; first | rfl | (simp [errW_none, errW_some] <;> rfl)) | (simp [*, errW_none, errW_some] <;> rfl), ni_, hs2_ GE131.out GE137.out⟩
   replace H := bnd_ H
   obtain ⟨t142, A69, H⟩ := H
   replace H := ifs_ H
   obtain ⟨c70, H⟩ := H
   have c70b0 := eq_true c70
   have c70b1 := decide_eq_true c70
   clear c70
   replace H := ifs_ H
   obtain ⟨c71, H⟩ := H
   have c71b0 := eq_true c71
   have c71b1 := decide_eq_true c71
   replace H := ifs_ H
   obtain ⟨c72, H⟩ := H
   have c72b0 := eq_true c72
   have c72b1 := decide_eq_true c72
   replace H := ite_ H
   obtain ⟨c73, H⟩ | ⟨c73, H⟩ := H
   rotate_left
   ·have c73b0 : (t142.toList == (a0.extract (a1 : Int).toNat ((wrap64 ((ji13) + t132)) : Int).toNat).toList) = false := beq_eq_false_iff_ne.mpr c73
    have c73b1 : (t142.toList != (a0.extract (a1 : Int).toNat ((wrap64 ((ji13) + t132)) : Int).toNat).toList) = true := bne_iff_ne.mpr c73
    simp only [Option.some.injEq, Prod.mk.injEq] at H
    obtain ⟨rfl, rfl, rfl, rfl, rfl, rfl⟩ := H
    try go_wp2
    replace HO_138004 := qR_ HO_138004
    replace BK131 := qK_ BK131
    replace BK137 := qK_ BK137
    replace HB := qH_ HB
    obtain ⟨Ao82, co82, eo82⟩ := Kd.R_slice HO_138004.out
    (first | subst eo82 | (injection eo82 with f1_ f2_ f3_; have f4_ := f1_.symm; have f5_ := f3_.symm; clear f1_ f2_ f3_; subst f4_; subst f5_))
    refine start_ (n := 12) (S := fun w' => w'.cell? ⟨gb137, 0, none⟩ = some (.int .i64 t133) ∧ w'.cell? ⟨gb137, 1, none⟩ = some (.int .i64 t134) ∧ w'.cell? ⟨gb137, 2, none⟩ = some (.int .i64 t135) ∧ w'.cell? ⟨gb137, 3, none⟩ = some (.int .i64 t136) ∧ w'.cell? ⟨gb137, 4, none⟩ = some (.slice Ao82 x138004_1.length co82)) (ds := []) (List.replicate 12 false).toArray (by kernel_rfl) rfl rfl ⟨bt_ BK137 0, bt_ BK137 1, bt_ BK137 2, bt_ BK137 3, bt_ BK137 4⟩ (fun hHeld => ?_); refine with_tabW spec_l1Take.tab15 spec_l1Take.bits15 (fun HT_ HW_ => ?_)
    generalize wr.drew = w81 at HO_138004 BK131 BK137 HB hHeld ⊢
    refine tk_ 0 108 ?_
    refine on_ 1 109 (fun K hK => ?_)
    refine gs_ Try.func59 #[.agg #[.int .i64 t133, .int .i64 t134, .int .i64 t135, .int .i64 t136, .slice Ao82 x138004_1.length co82]] rfl ma_ ?_
    with_reducible refine (spec_GoodBatch.calls k1 t133 t134 t135 t136 _ _ x138004_1 true _ ?side1 ?side2 A67.out).mono ?_
    (case side1 => exact cs_ ((Kd.R_reads' HO_138004.out).2.2))
    (case side2 => exact (Kd.R_reads' HO_138004.out).2.1)
    rintro e w83 ⟨rfl, hb⟩
    refine ⟨_, rfl, ?_⟩
    replace HO_138004 := rB_ HO_138004 hb
    replace BK131 := bK_ BK131 hb
    replace BK137 := bK_ BK137 hb
    replace HB := nc2_ GE131 GE137 hb
    (try clear hb)
    (try clear hb2)
    (try clear hk)
    (try clear hi)
    refine hK.out _ _ ⟨bt_ BK137 0, bt_ BK137 1, bt_ BK137 2, bt_ BK137 3, bt_ BK137 4⟩ (fun hHeld => ?_)
    clear hK K
    refine no_ ?_
    refine pv_ 2 110 ?_
    refine pv_ 3 111 ?_
    refine pv_ 6 114 ?_
    refine pv_ 7 115 ?_
    refine pv_ 8 116 ?_
    refine pv_ 9 117 ?_
    refine tk_ 4 112 ?_
    refine on_ 5 113 (fun K hK => ?_)
    refine gs_ Try.func61 #[.agg #[.int .i64 t133, .int .i64 t134, .int .i64 t135, .int .i64 t136, .slice Ao82 x138004_1.length co82]] rfl ma_ ?_
    with_reducible refine (spec_l1Batch.calls k1 t133 t134 t135 t136 _ _ x138004_1 t142 _ ?side1 ?side2 A69.out).mono ?_
    (case side1 => exact cs_ ((Kd.R_reads' HO_138004.out).2.2))
    (case side2 => exact (Kd.R_reads' HO_138004.out).2.1)
    rintro e w84 ⟨rfl, hb⟩
    refine ⟨_, rfl, ?_⟩
    replace HO_138004 := rB_ HO_138004 hb
    replace BK131 := bK_ BK131 hb
    replace BK137 := bK_ BK137 hb
    replace HB := nc2_ GE131 GE137 hb
    (try clear hb)
    (try clear hb2)
    (try clear hk)
    (try clear hi)
    refine hK.out _ _ ⟨bt_ BK137 0, bt_ BK137 1, bt_ BK137 2, bt_ BK137 3, bt_ BK137 4⟩ (fun hHeld => ?_)
    clear hK K
    refine no_ ?_
    refine pv_ 10 118 ?_
    refine pv_ 11 119 ?_
    refine done_ (done_of HT_.out (by kernel_rfl)) ?_
    have hnb85 := NB131_137.out
    have hnc85 := NB137_131.out
    obtain ⟨hcz86_0, hcz86_1, hcz86_2, hcz86_3, hcz86_4, hfz86_0, hfz86_1, hfz86_2, hfz86_3, hfz86_4⟩ := cf5_ BK131.out
    try go_wp2
    refine bodyPost_ret (results_ct rfl _ _ gb131 44 #[.int .i64 0, .int .i64 0, .int .i64 0, .int .i64 0, .slice none 0 0] (0, 0) _ rfl (up_ BK131) Try.underlying44 rfl (by kernel_rfl)) rfl ?_
    exact ⟨_, by first | rfl | (simp [errW_none, errW_some] <;> rfl) | (simp only [← hji13, ← hji18, ← hji23, ← hji28, ← hji33]; first | rfl | (simp [errW_none, errW_some] <;> rfl)) | (simp [*, errW_none, errW_some] <;> rfl), ni_, hs2_ GE131.out GE137.out⟩
   have c73b0 : (t142.toList == (a0.extract (a1 : Int).toNat ((wrap64 ((ji13) + t132)) : Int).toNat).toList) = true := beq_iff_eq.mpr c73
   have c73b1 : (t142.toList != (a0.extract (a1 : Int).toNat ((wrap64 ((ji13) + t132)) : Int).toNat).toList) = false := bne_eq_false_iff_eq.mpr c73
   clear c73
   simp only [Option.some.injEq, Prod.mk.injEq] at H
   obtain ⟨rfl, rfl, rfl, rfl, rfl, rfl⟩ := H
   try go_wp2
   replace HO_138004 := qR_ HO_138004
   replace BK131 := qK_ BK131
   replace BK137 := qK_ BK137
   replace HB := qH_ HB
   obtain ⟨Ao75, co75, eo75⟩ := Kd.R_slice HO_138004.out
   (first | subst eo75 | (injection eo75 with f1_ f2_ f3_; have f4_ := f1_.symm; have f5_ := f3_.symm; clear f1_ f2_ f3_; subst f4_; subst f5_))
   refine start_ (n := 12) (S := fun w' => w'.cell? ⟨gb137, 0, none⟩ = some (.int .i64 t133) ∧ w'.cell? ⟨gb137, 1, none⟩ = some (.int .i64 t134) ∧ w'.cell? ⟨gb137, 2, none⟩ = some (.int .i64 t135) ∧ w'.cell? ⟨gb137, 3, none⟩ = some (.int .i64 t136) ∧ w'.cell? ⟨gb137, 4, none⟩ = some (.slice Ao75 x138004_1.length co75)) (ds := []) (List.replicate 12 false).toArray (by kernel_rfl) rfl rfl ⟨bt_ BK137 0, bt_ BK137 1, bt_ BK137 2, bt_ BK137 3, bt_ BK137 4⟩ (fun hHeld => ?_); refine with_tabW spec_l1Take.tab15 spec_l1Take.bits15 (fun HT_ HW_ => ?_)
   generalize wr.drew = w74 at HO_138004 BK131 BK137 HB hHeld ⊢
   refine tk_ 0 108 ?_
   refine on_ 1 109 (fun K hK => ?_)
   refine gs_ Try.func59 #[.agg #[.int .i64 t133, .int .i64 t134, .int .i64 t135, .int .i64 t136, .slice Ao75 x138004_1.length co75]] rfl ma_ ?_
   with_reducible refine (spec_GoodBatch.calls k1 t133 t134 t135 t136 _ _ x138004_1 true _ ?side1 ?side2 A67.out).mono ?_
   (case side1 => exact cs_ ((Kd.R_reads' HO_138004.out).2.2))
   (case side2 => exact (Kd.R_reads' HO_138004.out).2.1)
   rintro e w76 ⟨rfl, hb⟩
   refine ⟨_, rfl, ?_⟩
   replace HO_138004 := rB_ HO_138004 hb
   replace BK131 := bK_ BK131 hb
   replace BK137 := bK_ BK137 hb
   replace HB := nc2_ GE131 GE137 hb
   (try clear hb)
   (try clear hb2)
   (try clear hk)
   (try clear hi)
   refine hK.out _ _ ⟨bt_ BK137 0, bt_ BK137 1, bt_ BK137 2, bt_ BK137 3, bt_ BK137 4⟩ (fun hHeld => ?_)
   clear hK K
   refine no_ ?_
   refine pv_ 2 110 ?_
   refine pv_ 3 111 ?_
   refine pv_ 6 114 ?_
   refine pv_ 7 115 ?_
   refine pv_ 8 116 ?_
   refine pv_ 9 117 ?_
   refine tk_ 4 112 ?_
   refine on_ 5 113 (fun K hK => ?_)
   refine gs_ Try.func61 #[.agg #[.int .i64 t133, .int .i64 t134, .int .i64 t135, .int .i64 t136, .slice Ao75 x138004_1.length co75]] rfl ma_ ?_
   with_reducible refine (spec_l1Batch.calls k1 t133 t134 t135 t136 _ _ x138004_1 t142 _ ?side1 ?side2 A69.out).mono ?_
   (case side1 => exact cs_ ((Kd.R_reads' HO_138004.out).2.2))
   (case side2 => exact (Kd.R_reads' HO_138004.out).2.1)
   rintro e w77 ⟨rfl, hb⟩
   refine ⟨_, rfl, ?_⟩
   replace HO_138004 := rB_ HO_138004 hb
   replace BK131 := bK_ BK131 hb
   replace BK137 := bK_ BK137 hb
   replace HB := nc2_ GE131 GE137 hb
   (try clear hb)
   (try clear hb2)
   (try clear hk)
   (try clear hi)
   refine hK.out _ _ ⟨bt_ BK137 0, bt_ BK137 1, bt_ BK137 2, bt_ BK137 3, bt_ BK137 4⟩ (fun hHeld => ?_)
   clear hK K
   refine no_ ?_
   refine pv_ 10 118 ?_
   refine pv_ 11 119 ?_
   refine done_ (done_of HT_.out (by kernel_rfl)) ?_
   have hnb78 := NB137_131.out
   have hnc78 := NB131_137.out
   obtain ⟨hcz79_0, hcz79_1, hcz79_2, hcz79_3, hcz79_4, hfz79_0, hfz79_1, hfz79_2, hfz79_3, hfz79_4⟩ := cf5_ BK137.out
   obtain ⟨hcz80_0, hcz80_1, hcz80_2, hcz80_3, hcz80_4, hfz80_0, hfz80_1, hfz80_2, hfz80_3, hfz80_4⟩ := cf5_ BK131.out
   try go_wp2
   refine bodyPost_ret (results_ct rfl _ _ gb131 44 #[.int .i64 t133, .int .i64 t134, .int .i64 t135, .int .i64 t136, .slice Ao75 x138004_1.length co75] (0, 0) _ rfl (up_ BK131) Try.underlying44 rfl (by kernel_rfl)) rfl ?_
   exact ⟨_, by first | rfl | (simp [errW_none, errW_some] <;> rfl) | (simp only [← hji13, ← hji18, ← hji23, ← hji28, ← hji33]; first | rfl | (simp [errW_none, errW_some] <;> rfl)) | (simp [*, errW_none, errW_some] <;> rfl), Kd.R_mono (rF_ (Kd.R_types HO_138004.out BK131.out (by decide))) (fun _ hk => trivial), hs2_ GE131.out GE137.out⟩
end Go.Proofs.Ytpdpipfkllfhmaa.QFnTorn
