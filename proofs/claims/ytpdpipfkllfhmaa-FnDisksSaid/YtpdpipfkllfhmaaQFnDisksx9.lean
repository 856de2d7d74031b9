/- Functions that one statement reaches: of each a plain function, and the proof that calls come to it. Conditions: those that each contract names. Written by a program of this repository. -/
import Derived.Test.YtpdpipfkllfhmaaVFnDisksa
import Derived.Test.YtpdpipfkllfhmaaQFnDisksx3
import Derived.Test.YtpdpipfkllfhmaaQFnDisksx8
namespace Go.Proofs.Ytpdpipfkllfhmaa.QFnDisks
open Go.RowKit Go.Proofs.YtpdpipfkllfhmaaW.PrintWords Go.Proofs.YtpdpipfkllfhmaaW.PrintLast Go.Proofs.YtpdpipfkllfhmaaW.PrintMore
attribute [local go_sem] max2_int min2_int max_two min_two max_three min_three max_four min_four Go.Proofs.YtpdpipfkllfhmaaW.PrintMore2.isSome_setCell   -- for this text's walks alone
set_option linter.unusedVariables false
set_option linter.unusedSimpArgs false

/-! ### spec_l1Take: function 81 -/
def spec_l1Take.l0 : Nat → ByteArray → Int → Int → Int → Int → Int → Int → Int → Int → List ByteArray → Option (Int × Int × Int × Int × List ByteArray × Int)
 | 0, _, _, _, _, _, _, _, _, _, _ => none
 | k + 1, x0, x1, x6, x8, x9, x226000, x226001, x226002, x226003, x226004 => if x9 > 0 then (if x8 ≥ x6 then (some (0, 0, 0, 0, ([] : List ByteArray), 0)) else (if 0 ≤ x8 then (if x8 < (x0.size : Int) then (if (wrap64 (bt x0 x8)) > (wrap64 ((wrap64 (x6 - x8)) - 1)) then (some (0, 0, 0, 0, ([] : List ByteArray), 0)) else (if 0 ≤ (wrap64 (x8 + 1)) then (if (wrap64 (x8 + 1)) ≤ (wrap64 ((wrap64 (x8 + 1)) + (wrap64 (bt x0 x8)))) then (if (wrap64 ((wrap64 (x8 + 1)) + (wrap64 (bt x0 x8)))) ≤ (x0.size : Int) then (if x226004.length < 8796093022208 then (spec_l1Take.l0 k x0 x1 x6 (wrap64 (x8 + (wrap64 (1 + (wrap64 (bt x0 x8)))))) (wrap64 (x9 - 1)) x226000 x226001 x226002 x226003 (x226004 ++ [x0.extract ((wrap64 (x8 + 1)) : Int).toNat ((wrap64 ((wrap64 (x8 + 1)) + (wrap64 (bt x0 x8)))) : Int).toNat])) else (none)) else (none)) else (none)) else (none))) else (none)) else (none))) else ((spec_GoodBatch.f k x226000 x226001 x226002 x226003 x226004).bind fun t229 => (if t229 = true then ((spec_l1Batch.f k x226000 x226001 x226002 x226003 x226004).bind fun t230 => (if 0 ≤ x1 then (if x1 ≤ x6 then (if x6 ≤ (x0.size : Int) then (if t230.toList = (x0.extract (x1 : Int).toNat (x6 : Int).toNat).toList then (some (x226000, x226001, x226002, x226003, x226004, x6)) else (some (0, 0, 0, 0, ([] : List ByteArray), 0))) else (none)) else (none)) else (none))) else (some (0, 0, 0, 0, ([] : List ByteArray), 0))))
def spec_l1Take.f (k : Nat) (a0 : ByteArray) (a1 : Int) : Option (Int × Int × Int × Int × List ByteArray × Int) := if (wrap64 ((a0.size : Int) - a1)) < 14 then (some (0, 0, 0, 0, ([] : List ByteArray), 0)) else (if 0 ≤ a1 then (if a1 ≤ (wrap64 (a1 + 2)) then (if (wrap64 (a1 + 2)) ≤ (a0.size : Int) then ((spec_l1Value.f k (a0.extract (a1 : Int).toNat ((wrap64 (a1 + 2)) : Int).toNat)).bind fun t220 => (if (wrap64 ((wrap64 (a1 + 2)) + t220)) > (a0.size : Int) then (some (0, 0, 0, 0, ([] : List ByteArray), 0)) else (if 0 ≤ (wrap64 (a1 + 2)) then (if (wrap64 (a1 + 2)) ≤ (wrap64 (a1 + 5)) then (if (wrap64 (a1 + 5)) ≤ (a0.size : Int) then ((spec_l1Value.f k (a0.extract ((wrap64 (a1 + 2)) : Int).toNat ((wrap64 (a1 + 5)) : Int).toNat)).bind fun t221 => (if 0 ≤ (wrap64 (a1 + 5)) then (if (wrap64 (a1 + 5)) ≤ (wrap64 (a1 + 7)) then (if (wrap64 (a1 + 7)) ≤ (a0.size : Int) then ((spec_l1Value.f k (a0.extract ((wrap64 (a1 + 5)) : Int).toNat ((wrap64 (a1 + 7)) : Int).toNat)).bind fun t222 => (if 0 ≤ (wrap64 (a1 + 7)) then (if (wrap64 (a1 + 7)) ≤ (wrap64 (a1 + 9)) then (if (wrap64 (a1 + 9)) ≤ (a0.size : Int) then ((spec_l1Value.f k (a0.extract ((wrap64 (a1 + 7)) : Int).toNat ((wrap64 (a1 + 9)) : Int).toNat)).bind fun t223 => (if 0 ≤ (wrap64 (a1 + 9)) then (if (wrap64 (a1 + 9)) ≤ (wrap64 (a1 + 11)) then (if (wrap64 (a1 + 11)) ≤ (a0.size : Int) then ((spec_l1Value.f k (a0.extract ((wrap64 (a1 + 9)) : Int).toNat ((wrap64 (a1 + 11)) : Int).toNat)).bind fun t224 => (if 0 ≤ (wrap64 (a1 + 11)) then (if (wrap64 (a1 + 11)) < (a0.size : Int) then (spec_l1Take.l0 k a0 a1 (wrap64 ((wrap64 (a1 + 2)) + t220)) (wrap64 (a1 + 12)) (wrap64 (bt a0 (wrap64 (a1 + 11)))) t221 t222 t223 t224 ([] : List ByteArray)) else (none)) else (none))) else (none)) else (none)) else (none))) else (none)) else (none)) else (none))) else (none)) else (none)) else (none))) else (none)) else (none)) else (none)))) else (none)) else (none)) else (none))
theorem spec_l1Take.mono_l : ∀ k, (∀ y0 y1 y2 y3 y4 y5 y6 y7 y8 y9, LeO (spec_l1Take.l0 k y0 y1 y2 y3 y4 y5 y6 y7 y8 y9) (spec_l1Take.l0 (k + 1) y0 y1 y2 y3 y4 y5 y6 y7 y8 y9))
 | 0 => fun _ _ _ _ _ _ _ _ _ _ r h => by simp [spec_l1Take.l0] at h
 | k + 1 => by
  have ih0 := spec_l1Take.mono_l k
  ·intro y0 y1 y2 y3 y4 y5 y6 y7 y8 y9
   unfold spec_l1Take.l0
   repeat' first
   | (with_reducible first | apply ih0 | apply spec_GoodBatch.mono | apply spec_l1Batch.mono | apply spec_l1Value.mono | exact LeO.refl _ | exact LeO.none _ | refine LeO.ite ?_ ?_ | refine LeO.bind ?_ (fun _ => ?_))
theorem spec_l1Take.mono : ∀ a0 a1 k, LeO (spec_l1Take.f k a0 a1) (spec_l1Take.f (k + 1) a0 a1) := by
 intro a0 a1 k
 have ih0 := spec_l1Take.mono_l k
 unfold spec_l1Take.f
 repeat' first
   | (with_reducible first | apply ih0 | apply spec_GoodBatch.mono | apply spec_l1Batch.mono | apply spec_l1Value.mono | exact LeO.refl _ | exact LeO.none _ | refine LeO.ite ?_ ?_ | refine LeO.bind ?_ (fun _ => ?_))
def spec_l1Take.T6 : Bool × List (List Nat × List Nat) := (true, [([], []), ([], []), ([1], [1]), ([], []), ([3], [3]), ([0, 2, 4], [0, 2, 4]), ([5], [5]), ([], []), ([], []), ([8], [8]), ([], []), ([10], [10]), ([7, 9, 11], [7, 9, 11]), ([12, 6], [12]), ([], []), ([], []), ([15], [15]), ([], []), ([17], [17]), ([14, 16, 18], [14, 16, 18]), ([19, 13], [19]), ([], []), ([], []), ([22], [22]), ([], []), ([24], [24]), ([21, 23, 25], [21, 23, 25]), ([26, 20], [26]), ([6, 13, 20, 27], [6, 13, 20, 27]), ([], []), ([29, 28, 27, 0, 1, 2, 3, 4, 5, 6, 7, 8, 9, 10, 11, 12, 13, 14, 15, 16, 17, 18, 19, 20, 21, 22, 23, 24, 25, 26, 27, 28, 29], [28, 29])])
def spec_l1Take.B6 : List Nat := [0, 0, 2, 0, 8, 31, 63, 0, 0, 256, 0, 1024, 3968, 8191, 0, 0, 32768, 0, 131072, 507904, 1048575, 0, 0, 4194304, 0, 16777216, 65011712, 134217727, 268435455, 0, 1073741823]
theorem spec_l1Take.tab6 : rtab .any (opsOf Try.f81 6) = spec_l1Take.T6 := by kernel_rfl
theorem spec_l1Take.bits6 : waitsOk spec_l1Take.T6.2 spec_l1Take.B6 = true := by kernel_rfl
def spec_l1Take.T13 : Bool × List (List Nat × List Nat) := (true, [([], []), ([0], [0]), ([], []), ([], []), ([3], [3]), ([], []), ([5], [5]), ([], []), ([], []), ([7, 8], [7, 8]), ([9], [9]), ([6, 10], [6, 10]), ([2, 4, 11], [2, 4, 11]), ([12], [12]), ([1, 13], [1, 13]), ([0, 1, 2, 3, 4, 5, 6, 7, 8, 9, 10, 11, 12, 13, 14], []), ([15, 14, 14, 0, 1, 2, 3, 4, 5, 6, 7, 8, 9, 10, 11, 12, 13, 14], [14, 15])])
def spec_l1Take.B13 : List Nat := [0, 1, 0, 0, 8, 0, 32, 0, 0, 384, 896, 2016, 4092, 8188, 16383, 32767, 65535]
theorem spec_l1Take.tab13 : rtab .any (opsOf Try.f81 13) = spec_l1Take.T13 := by kernel_rfl
theorem spec_l1Take.bits13 : waitsOk spec_l1Take.T13.2 spec_l1Take.B13 = true := by kernel_rfl
def spec_l1Take.T15 : Bool × List (List Nat × List Nat) := (true, [([], []), ([0], [0]), ([1], [1]), ([2, 1], [2]), ([3], [3]), ([4, 3, 3], [3, 4]), ([3], [3]), ([3], [3]), ([3], [3]), ([6, 7, 8, 3], [3, 6, 7, 8]), ([5, 9, 3], [3, 5, 9]), ([3, 10], [3, 10])])
def spec_l1Take.B15 : List Nat := [0, 1, 3, 7, 15, 31, 15, 15, 15, 463, 1023, 2047]
theorem spec_l1Take.tab15 : rtab .any (opsOf Try.f81 15) = spec_l1Take.T15 := by kernel_rfl
theorem spec_l1Take.bits15 : waitsOk spec_l1Take.T15.2 spec_l1Take.B15 = true := by kernel_rfl
set_option maxHeartbeats 8000000 in
set_option maxRecDepth 100000 in
theorem spec_l1Take.calls (k : Nat) (a0 : ByteArray) (a1 : Int) (r1 : Int) (r2 : Int) (r3 : Int) (r4 : Int) (r5 : List ByteArray) (r6 : Int) (w : World) (h : spec_l1Take.f k a0 a1 = some (r1, r2, r3, r4, r5, r6)) :
  Calls Try.prog 81 #[.string a0, .int .i64 a1] w fun e w' => ∃ v4_ : Value, e = .returned (.tuple #[.agg #[.int .i64 r1, .int .i64 r2, .int .i64 r3, .int .i64 r4, v4_], .int .i64 r6]) ∧ Kd.R Kd.string 9 w' w.heap.size (fun _ => True) v4_ r5 ∧ Below w.heap.size w w' := by
 have hu44 := Try.underlying44
 have HB := Aside0.mk (Below.refl w.heap.size w)
 have H : (if (wrap64 ((a0.size : Int) - a1)) < 14 then (some (0, 0, 0, 0, ([] : List ByteArray), 0)) else (if 0 ≤ a1 then (if a1 ≤ (wrap64 (a1 + 2)) then (if (wrap64 (a1 + 2)) ≤ (a0.size : Int) then ((spec_l1Value.f k (a0.extract (a1 : Int).toNat ((wrap64 (a1 + 2)) : Int).toNat)).bind fun wA => (if (wrap64 ((wrap64 (a1 + 2)) + wA)) > (a0.size : Int) then (some (0, 0, 0, 0, ([] : List ByteArray), 0)) else (if 0 ≤ (wrap64 (a1 + 2)) then (if (wrap64 (a1 + 2)) ≤ (wrap64 (a1 + 5)) then (if (wrap64 (a1 + 5)) ≤ (a0.size : Int) then ((spec_l1Value.f k (a0.extract ((wrap64 (a1 + 2)) : Int).toNat ((wrap64 (a1 + 5)) : Int).toNat)).bind fun kA => (if 0 ≤ (wrap64 (a1 + 5)) then (if (wrap64 (a1 + 5)) ≤ (wrap64 (a1 + 7)) then (if (wrap64 (a1 + 7)) ≤ (a0.size : Int) then ((spec_l1Value.f k (a0.extract ((wrap64 (a1 + 5)) : Int).toNat ((wrap64 (a1 + 7)) : Int).toNat)).bind fun lA => (if 0 ≤ (wrap64 (a1 + 7)) then (if (wrap64 (a1 + 7)) ≤ (wrap64 (a1 + 9)) then (if (wrap64 (a1 + 9)) ≤ (a0.size : Int) then ((spec_l1Value.f k (a0.extract ((wrap64 (a1 + 7)) : Int).toNat ((wrap64 (a1 + 9)) : Int).toNat)).bind fun mA => (if 0 ≤ (wrap64 (a1 + 9)) then (if (wrap64 (a1 + 9)) ≤ (wrap64 (a1 + 11)) then (if (wrap64 (a1 + 11)) ≤ (a0.size : Int) then ((spec_l1Value.f k (a0.extract ((wrap64 (a1 + 9)) : Int).toNat ((wrap64 (a1 + 11)) : Int).toNat)).bind fun oA => (if 0 ≤ (wrap64 (a1 + 11)) then (if (wrap64 (a1 + 11)) < (a0.size : Int) then (spec_l1Take.l0 k a0 a1 (wrap64 ((wrap64 (a1 + 2)) + wA)) (wrap64 (a1 + 12)) (wrap64 (bt a0 (wrap64 (a1 + 11)))) kA lA mA oA ([] : List ByteArray)) else (none)) else (none))) else (none)) else (none)) else (none))) else (none)) else (none)) else (none))) else (none)) else (none)) else (none))) else (none)) else (none)) else (none)))) else (none)) else (none)) else (none))) = some (r1, r2, r3, r4, r5, r6) := h
 clear h
 replace H := ite_ H
 obtain ⟨c3, H⟩ | ⟨c3, H⟩ := H
 ·have uF := decide_eq_true c3
  clear c3
  simp only [Option.some.injEq, Prod.mk.injEq] at H
  obtain ⟨rfl, rfl, rfl, rfl, rfl, rfl⟩ := H
  go_enter Try.func81, Try.ntmps81
  go_wp2_with (first | ((with_reducible refine gate_dst (N := 4) rfl ?_); refine bq_ (N := 4) #[.int .i64 0, .int .i64 0, .int .i64 0, .int .i64 0, .slice none 0 0] 44 ?_; intro gA hg w4 bA hb; have hA := ge_ hg; replace HB := nb_ hb; clear hb hg; obtain ⟨vF, wF, xF, yF, zF, aG, bG, cG, dG, eG⟩ := cf5_ bA.out))
  refine bodyPost_ret (results_ct rfl _ _ gA 44 #[.int .i64 0, .int .i64 0, .int .i64 0, .int .i64 0, .slice none 0 0] (0, 0) _ rfl (up_ bA) Try.underlying44 rfl (by kernel_rfl)) rfl ?_
  exact ⟨_, er_, ni_, hs_ hA.out⟩
 have uF := decide_eq_false c3
 clear c3
 replace H := ifs_ H
 obtain ⟨c6, H⟩ := H
 have zI := eq_true c6
 have aJ := decide_eq_true c6
 clear c6
 replace H := ifs_ H
 obtain ⟨c7, H⟩ := H
 have fG := eq_true c7
 have gG := decide_eq_true c7
 replace H := ifs_ H
 obtain ⟨c8, H⟩ := H
 have hG := eq_true c8
 have iG := decide_eq_true c8
 replace H := bnd_ H
 obtain ⟨wA, A9, H⟩ := H
 replace H := ite_ H
 obtain ⟨lB, H⟩ | ⟨lB, H⟩ := H
 ·have fB := dgt_ lB
  clear lB
  simp only [Option.some.injEq, Prod.mk.injEq] at H
  obtain ⟨rfl, rfl, rfl, rfl, rfl, rfl⟩ := H
  go_enter Try.func81, Try.ntmps81
  go_wp2_with (first | ((with_reducible refine gate_dst (N := 4) rfl ?_); refine bq_ (N := 4) #[.int .i64 0, .int .i64 0, .int .i64 0, .int .i64 0, .slice none 0 0] 44 ?_; intro gA hg jG bA hb; have hA := ge_ hg; replace HB := nb_ hb; clear hb hg) | ((with_reducible refine gate_callee (f := 97) rfl ?_); refine gl_ 23 Try.func97 #[.string (a0.extract (a1 : Int).toNat ((wrap64 (a1 + 2)) : Int).toNat)] rfl ma_ ?_; (with_reducible refine (spec_l1Value.calls k (a0.extract (a1 : Int).toNat ((wrap64 (a1 + 2)) : Int).toNat) wA _ A9.out).mono ?_); rintro e w' ⟨rfl, ⟨nd, rfl⟩⟩; refine ⟨_, rfl, ?_⟩; (try (rw [drewN_self jG]; replace bA := dK_ nd bA; replace HB := dH_ nd HB; generalize World.drewN jG nd = jG at bA HB ⊢)); obtain ⟨xC, yC, zC, aD, bD, cD, dD, eD, fD, gD⟩ := cf5_ bA.out))
  refine bodyPost_ret (results_ct rfl _ _ gA 44 #[.int .i64 0, .int .i64 0, .int .i64 0, .int .i64 0, .slice none 0 0] (0, 0) _ rfl (up_ bA) Try.underlying44 rfl (by kernel_rfl)) rfl ?_
  exact ⟨_, er_, ni_, hs_ hA.out⟩
 have fB := dgf_ lB
 clear lB
 obtain ⟨ji13, hji13⟩ : ∃ j_ : Int, (wrap64 (a1 + 2)) = j_ := ⟨_, rfl⟩
 first | rw [hji13] at H | simp only [hji13] at H
 (try rw [hji13] at fG)
 (try rw [hji13] at gG)
 (try rw [hji13] at c7)
 (try rw [hji13] at hG)
 (try rw [hji13] at iG)
 (try rw [hji13] at c8)
 (try rw [hji13] at fB)
 (try rw [hji13] at A9)
 have hji13w : (IntKind.i64.wrap (a1 + 2)) = ji13 := (i64_w _).trans hji13
 replace H := ifs_ H
 obtain ⟨kG, H⟩ := H
 have cH := eq_true kG
 have dH := decide_eq_true kG
 clear kG
 replace H := ifs_ H
 obtain ⟨lG, H⟩ := H
 have mB := eq_true lG
 have nB := decide_eq_true lG
 replace H := ifs_ H
 obtain ⟨mG, H⟩ := H
 have oB := eq_true mG
 have pB := decide_eq_true mG
 replace H := bnd_ H
 obtain ⟨kA, jB, H⟩ := H
 obtain ⟨ji18, hji18⟩ : ∃ j_ : Int, (wrap64 (a1 + 5)) = j_ := ⟨_, rfl⟩
 first | rw [hji18] at H | simp only [hji18] at H
 (try rw [hji18] at mB)
 (try rw [hji18] at nB)
 (try rw [hji18] at lG)
 (try rw [hji18] at oB)
 (try rw [hji18] at pB)
 (try rw [hji18] at mG)
 (try rw [hji18] at A9)
 (try rw [hji18] at jB)
 have hji18w : (IntKind.i64.wrap (a1 + 5)) = ji18 := (i64_w _).trans hji18
 replace H := ifs_ H
 obtain ⟨nG, H⟩ := H
 have eH := eq_true nG
 have fH := decide_eq_true nG
 clear nG
 replace H := ifs_ H
 obtain ⟨oG, H⟩ := H
 have qB := eq_true oG
 have rB := decide_eq_true oG
 replace H := ifs_ H
 obtain ⟨pG, H⟩ := H
 have sB := eq_true pG
 have tB := decide_eq_true pG
 replace H := bnd_ H
 obtain ⟨lA, uB, H⟩ := H
 obtain ⟨ji23, hji23⟩ : ∃ j_ : Int, (wrap64 (a1 + 7)) = j_ := ⟨_, rfl⟩
 first | rw [hji23] at H | simp only [hji23] at H
 (try rw [hji23] at qB)
 (try rw [hji23] at rB)
 (try rw [hji23] at oG)
 (try rw [hji23] at sB)
 (try rw [hji23] at tB)
 (try rw [hji23] at pG)
 (try rw [hji23] at A9)
 (try rw [hji23] at jB)
 (try rw [hji23] at uB)
 have hji23w : (IntKind.i64.wrap (a1 + 7)) = ji23 := (i64_w _).trans hji23
 replace H := ifs_ H
 obtain ⟨qG, H⟩ := H
 have gH := eq_true qG
 have hH := decide_eq_true qG
 clear qG
 replace H := ifs_ H
 obtain ⟨rG, H⟩ := H
 have vB := eq_true rG
 have wB := decide_eq_true rG
 replace H := ifs_ H
 obtain ⟨sG, H⟩ := H
 have xB := eq_true sG
 have yB := decide_eq_true sG
 replace H := bnd_ H
 obtain ⟨mA, hD, H⟩ := H
 obtain ⟨ji28, hji28⟩ : ∃ j_ : Int, (wrap64 (a1 + 9)) = j_ := ⟨_, rfl⟩
 first | rw [hji28] at H | simp only [hji28] at H
 (try rw [hji28] at vB)
 (try rw [hji28] at wB)
 (try rw [hji28] at rG)
 (try rw [hji28] at xB)
 (try rw [hji28] at yB)
 (try rw [hji28] at sG)
 (try rw [hji28] at A9)
 (try rw [hji28] at jB)
 (try rw [hji28] at uB)
 (try rw [hji28] at hD)
 have hji28w : (IntKind.i64.wrap (a1 + 9)) = ji28 := (i64_w _).trans hji28
 replace H := ifs_ H
 obtain ⟨tG, H⟩ := H
 have iH := eq_true tG
 have jH := decide_eq_true tG
 clear tG
 replace H := ifs_ H
 obtain ⟨uG, H⟩ := H
 have zB := eq_true uG
 have aC := decide_eq_true uG
 replace H := ifs_ H
 obtain ⟨vG, H⟩ := H
 have bC := eq_true vG
 have cC := decide_eq_true vG
 replace H := bnd_ H
 obtain ⟨oA, wG, H⟩ := H
 obtain ⟨ji33, hji33⟩ : ∃ j_ : Int, (wrap64 (a1 + 11)) = j_ := ⟨_, rfl⟩
 first | rw [hji33] at H | simp only [hji33] at H
 (try rw [hji33] at zB)
 (try rw [hji33] at aC)
 (try rw [hji33] at uG)
 (try rw [hji33] at bC)
 (try rw [hji33] at cC)
 (try rw [hji33] at vG)
 (try rw [hji33] at A9)
 (try rw [hji33] at jB)
 (try rw [hji33] at uB)
 (try rw [hji33] at hD)
 (try rw [hji33] at wG)
 have hji33w : (IntKind.i64.wrap (a1 + 11)) = ji33 := (i64_w _).trans hji33
 replace H := ifs_ H
 obtain ⟨kH, H⟩ := H
 have lH := decide_eq_true kH
 clear kH
 replace H := ifs_ H
 obtain ⟨mH, H⟩ := H
 have nH := decide_eq_true mH
 clear mH
 have H' := Aside0.mk H
 clear H
 go_enter Try.func81, Try.ntmps81
 try go_wp2_with (first | ((with_reducible refine gate_dst (N := 4) rfl ?_); refine bq_ (N := 4) #[.int .i64 0, .int .i64 0, .int .i64 0, .int .i64 0, .slice none 0 0] 44 ?_; intro gA hg iD bA hb; have hA := ge_ hg; replace HB := nb_ hb; clear hb hg) | ((with_reducible refine gate_callee (f := 97) rfl ?_); refine gl_ 23 Try.func97 #[.string (a0.extract (a1 : Int).toNat ((ji13) : Int).toNat)] rfl (mb_ hji13) ?_; (with_reducible refine (spec_l1Value.calls k (a0.extract (a1 : Int).toNat ((ji13) : Int).toNat) wA _ A9.out).mono ?_); rintro e w' ⟨rfl, ⟨nd, rfl⟩⟩; refine ⟨_, rfl, ?_⟩; (try (rw [drewN_self iD]; replace bA := dK_ nd bA; replace HB := dH_ nd HB; generalize World.drewN iD nd = iD at bA HB ⊢))))
 replace bA := qK_ bA
 replace HB := qH_ HB
 refine start_ (n := 31) (S := fun w' => True) (ds := []) (List.replicate 31 false).toArray (by kernel_rfl) rfl rfl trivial (fun hHeld => ?_); refine with_tabW spec_l1Take.tab6 spec_l1Take.bits6 (fun HT_ HW_ => ?_)
 generalize iD.drew = gJ at bA HB hHeld ⊢
 refine pv_ 0 30 ?_
 refine pv_ 1 31 ?_
 refine pv_ 2 32 ?_
 refine pv_ 3 33 ?_
 refine pv_ 4 34 ?_
 refine pv_ 5 35 ?_
 refine pv_ 7 37 ?_
 refine pv_ 8 38 ?_
 refine pv_ 9 39 ?_
 refine pv_ 10 40 ?_
 refine pv_ 11 41 ?_
 refine pv_ 12 42 ?_
 refine pv_ 14 44 ?_
 refine pv_ 15 45 ?_
 refine pv_ 16 46 ?_
 refine pv_ 17 47 ?_
 refine pv_ 18 48 ?_
 refine pv_ 19 49 ?_
 refine pv_ 21 51 ?_
 refine pv_ 22 52 ?_
 refine pv_ 23 53 ?_
 refine pv_ 24 54 ?_
 refine pv_ 25 55 ?_
 refine pv_ 26 56 ?_
 refine join_ (σ := Nat) 1 #[true, true, true, true, true, true, true, true, true, true, true, true, true, true, true, true, true, true, true, true, true, true, true, true, true, true, true, true, true, true, false] (fun s_ => [(36, .int .i64 kA), (43, .int .i64 lA), (50, .int .i64 mA), (57, .int .i64 oA), (7, .pointer (some ⟨s_, 0, none⟩)), (58, .agg #[.int .i64 kA, .int .i64 lA, .int .i64 mA, .int .i64 oA, .slice none 0 0])]) (fun s_ w' => (w'.heap[gA]? = some (.cells #[.int .i64 0, .int .i64 0, .int .i64 0, .int .i64 0, .slice none 0 0] 44 (0, 0))) ∧ (w'.heap[s_]? = some (.cells #[.int .i64 0, .int .i64 0, .int .i64 0, .int .i64 0, .slice none 0 0] 44 (0, 0))) ∧ (w.heap.size ≤ s_) ∧ (w.heap.size ≤ s_) ∧ (gA ≠ s_) ∧ (s_ ≠ gA) ∧ (Below w.heap.size w w')) ?_ ?_
 rotate_left
 ·intro hJ6_13_20_27_29
  refine join_ (σ := Unit) 2 #[true, true, true, true, true, true, true, true, true, true, true, true, true, true, true, true, true, true, true, true, true, true, true, true, true, true, true, true, true, false, false] (fun s_ => [(36, .int .i64 kA), (43, .int .i64 lA), (50, .int .i64 mA), (57, .int .i64 oA), (58, .agg #[.int .i64 kA, .int .i64 lA, .int .i64 mA, .int .i64 oA, .slice none 0 0])]) (fun s_ w' => (w'.heap[gA]? = some (.cells #[.int .i64 0, .int .i64 0, .int .i64 0, .int .i64 0, .slice none 0 0] 44 (0, 0))) ∧ (Below w.heap.size w w')) ?_ ?_
  rotate_left
  ·intro hJ6_13_20_27
   refine join_ (σ := Nat) 3 #[true, true, true, true, true, true, true, true, true, true, true, true, true, true, true, true, true, true, true, true, true, true, true, true, true, true, true, false, false, true, false] (fun s_ => [(36, .int .i64 kA), (43, .int .i64 lA), (50, .int .i64 mA), (7, .pointer (some ⟨s_, 0, none⟩))]) (fun s_ w' => (w'.heap[gA]? = some (.cells #[.int .i64 0, .int .i64 0, .int .i64 0, .int .i64 0, .slice none 0 0] 44 (0, 0))) ∧ (w'.heap[s_]? = some (.cells #[.int .i64 0, .int .i64 0, .int .i64 0, .int .i64 0, .slice none 0 0] 44 (0, 0))) ∧ (w.heap.size ≤ s_) ∧ (w.heap.size ≤ s_) ∧ (gA ≠ s_) ∧ (s_ ≠ gA) ∧ (Below w.heap.size w w')) ?_ ?_
   rotate_left
   ·intro hJ6_13_20_29
    refine join_ (σ := Unit) 4 #[true, true, true, true, true, true, true, true, true, true, true, true, true, true, true, true, true, true, true, true, true, true, true, true, true, true, true, false, false, false, false] (fun s_ => [(36, .int .i64 kA), (43, .int .i64 lA), (50, .int .i64 mA)]) (fun s_ w' => (w'.heap[gA]? = some (.cells #[.int .i64 0, .int .i64 0, .int .i64 0, .int .i64 0, .slice none 0 0] 44 (0, 0))) ∧ (Below w.heap.size w w')) ?_ ?_
    rotate_left
    ·intro hJ6_13_20
     refine join_ (σ := Nat) 4 #[true, true, true, true, true, true, true, true, true, true, true, true, true, true, true, true, true, true, true, true, false, true, true, true, true, true, true, false, false, true, false] (fun s_ => [(36, .int .i64 kA), (43, .int .i64 lA), (7, .pointer (some ⟨s_, 0, none⟩))]) (fun s_ w' => (w'.heap[gA]? = some (.cells #[.int .i64 0, .int .i64 0, .int .i64 0, .int .i64 0, .slice none 0 0] 44 (0, 0))) ∧ (w'.heap[s_]? = some (.cells #[.int .i64 0, .int .i64 0, .int .i64 0, .int .i64 0, .slice none 0 0] 44 (0, 0))) ∧ (w.heap.size ≤ s_) ∧ (w.heap.size ≤ s_) ∧ (gA ≠ s_) ∧ (s_ ≠ gA) ∧ (Below w.heap.size w w')) ?_ ?_
     rotate_left
     ·intro hJ6_13_29
      refine join_ (σ := Unit) 5 #[true, true, true, true, true, true, true, true, true, true, true, true, true, true, true, true, true, true, true, true, false, true, true, true, true, true, true, false, false, false, false] (fun s_ => [(36, .int .i64 kA), (43, .int .i64 lA)]) (fun s_ w' => (w'.heap[gA]? = some (.cells #[.int .i64 0, .int .i64 0, .int .i64 0, .int .i64 0, .slice none 0 0] 44 (0, 0))) ∧ (Below w.heap.size w w')) ?_ ?_
      rotate_left
      ·intro hJ6_13
       refine join_ (σ := Nat) 5 #[true, true, true, true, true, true, true, true, true, true, true, true, true, false, true, true, true, true, true, true, false, true, true, true, true, true, true, false, false, true, false] (fun s_ => [(36, .int .i64 kA), (7, .pointer (some ⟨s_, 0, none⟩))]) (fun s_ w' => (w'.heap[gA]? = some (.cells #[.int .i64 0, .int .i64 0, .int .i64 0, .int .i64 0, .slice none 0 0] 44 (0, 0))) ∧ (w'.heap[s_]? = some (.cells #[.int .i64 0, .int .i64 0, .int .i64 0, .int .i64 0, .slice none 0 0] 44 (0, 0))) ∧ (w.heap.size ≤ s_) ∧ (w.heap.size ≤ s_) ∧ (gA ≠ s_) ∧ (s_ ≠ gA) ∧ (Below w.heap.size w w')) ?_ ?_
       rotate_left
       ·intro hJ6_29
        refine join_ (σ := Unit) 6 #[true, true, true, true, true, true, true, true, true, true, true, true, true, false, true, true, true, true, true, true, false, true, true, true, true, true, true, false, false, false, false] (fun s_ => [(36, .int .i64 kA)]) (fun s_ w' => (w'.heap[gA]? = some (.cells #[.int .i64 0, .int .i64 0, .int .i64 0, .int .i64 0, .slice none 0 0] 44 (0, 0))) ∧ (Below w.heap.size w w')) ?_ ?_
        rotate_left
        ·intro hJ6
         refine join_ (σ := Nat) 6 #[true, true, true, true, true, true, false, true, true, true, true, true, true, false, true, true, true, true, true, true, false, true, true, true, true, true, true, false, false, true, false] (fun s_ => [(7, .pointer (some ⟨s_, 0, none⟩))]) (fun s_ w' => (w'.heap[gA]? = some (.cells #[.int .i64 0, .int .i64 0, .int .i64 0, .int .i64 0, .slice none 0 0] 44 (0, 0))) ∧ (w'.heap[s_]? = some (.cells #[.int .i64 0, .int .i64 0, .int .i64 0, .int .i64 0, .slice none 0 0] 44 (0, 0))) ∧ (w.heap.size ≤ s_) ∧ (w.heap.size ≤ s_) ∧ (gA ≠ s_) ∧ (s_ ≠ gA) ∧ (Below w.heap.size w w')) ?_ ?_
         rotate_left
         ·intro hJ29
          refine two_ (i := 6) (j := 29) (Ni := some 36) (Nj := some 7) #[true, true, true, true, true, true, true, true, true, true, true, true, true, false, true, true, true, true, true, true, false, true, true, true, true, true, true, false, false, false, false] #[true, true, true, true, true, true, false, true, true, true, true, true, true, false, true, true, true, true, true, true, false, true, true, true, true, true, true, false, false, true, false] rfl rfl rfl rfl (two_of HT_.out (by kernel_rfl)) (by decide) (by decide) (fun K hK => ?_) (fun K hK => ?_)
          ·skip
           refine gs_ Try.func97 #[.string (a0.extract ((ji13) : Int).toNat ((ji18) : Int).toNat)] rfl (mc_ hji13 hji18) ?_
           with_reducible refine (spec_l1Value.calls k (a0.extract ((ji13) : Int).toNat ((ji18) : Int).toNat) kA _ jB.out).mono ?_
           rintro e w' ⟨rfl, ⟨nd, rfl⟩⟩
           refine ⟨_, rfl, ?_⟩
           refine hK.out _ _ trivial (fun hHeld => ?_)
           clear hK K
           refine no_ ?_
           exact nq_ (hJ6 () _ ⟨(kb_ bA.out), (hs_ hA.out)⟩)
          ·skip
           refine bs_ (N := 7) #[.int .i64 0, .int .i64 0, .int .i64 0, .int .i64 0, .slice none 0 0] 44 ?_
           intro eA hg zA hbox hb
           have aA := Aside0.mk (hbox)
           have nA := ge1_ hg hA
           have jA := ge1_ hg hA
           replace HB := nc_ hA hb
           have dA := nl_ bA hg
           have fA := ng_ bA hg
           replace bA := bK_ bA hb
           clear hb hbox hg
           refine hK.out _ _ trivial (fun hHeld => ?_)
           clear hK K
           refine no_ ?_
           exact nq_ (hJ29 (eA) _ ⟨(kb_ bA.out), (kb_ aA.out), nA.out, jA.out, dA.out, fA.out, (hs2_ hA.out jA.out)⟩)
         ·skip
          rintro eA vA ⟨h0_, h1_, h2_, h3_, h4_, h5_, h6_⟩
          have n0_ : Aside0 (vA.heap[gA]? = some (.cells #[.int .i64 0, .int .i64 0, .int .i64 0, .int .i64 0, .slice none 0 0] 44 (0, 0))) := ⟨h0_⟩
          have n1_ : Aside0 (vA.heap[eA]? = some (.cells #[.int .i64 0, .int .i64 0, .int .i64 0, .int .i64 0, .slice none 0 0] 44 (0, 0))) := ⟨h1_⟩
          have n2_ : Aside0 (w.heap.size ≤ eA) := ⟨h2_⟩
          have n3_ : Aside0 (w.heap.size ≤ eA) := ⟨h3_⟩
          have n4_ : Aside0 (gA ≠ eA) := ⟨h4_⟩
          have n5_ : Aside0 (eA ≠ gA) := ⟨h5_⟩
          have n6_ : Aside0 (Below w.heap.size w vA) := ⟨h6_⟩
          clear bA
          clear HB
          clear h0_ h1_ h2_ h3_ h4_ h5_ h6_
          have bA := n0_
          have aA := n1_
          have nA := n2_
          have jA := n3_
          have dA := n4_
          have fA := n5_
          have HB := n6_
          clear n0_ n1_ n2_ n3_ n4_ n5_ n6_
          have hHeld := trivial
          refine np_ ?_
          refine on_ 6 36 (fun K hK => ?_)
          refine gs_ Try.func97 #[.string (a0.extract ((ji13) : Int).toNat ((ji18) : Int).toNat)] rfl (mc_ hji13 hji18) ?_
          with_reducible refine (spec_l1Value.calls k (a0.extract ((ji13) : Int).toNat ((ji18) : Int).toNat) kA _ jB.out).mono ?_
          rintro e w' ⟨rfl, ⟨nd, rfl⟩⟩
          refine ⟨_, rfl, ?_⟩
          refine hK.out _ _ trivial (fun hHeld => ?_)
          clear hK K
          refine no_ ?_
          exact nq_ (hJ6_29 (eA) _ ⟨(kb_ bA.out), (kb_ aA.out), nA.out, jA.out, dA.out, fA.out, (hs2_ hA.out jA.out)⟩)
        ·skip
         rintro _ zA ⟨h0_, h1_⟩
         have n0_ : Aside0 (zA.heap[gA]? = some (.cells #[.int .i64 0, .int .i64 0, .int .i64 0, .int .i64 0, .slice none 0 0] 44 (0, 0))) := ⟨h0_⟩
         have n1_ : Aside0 (Below w.heap.size w zA) := ⟨h1_⟩
         clear bA
         clear HB
         clear h0_ h1_
         have bA := n0_
         have HB := n1_
         clear n0_ n1_
         have hHeld := trivial
         refine np_ ?_
         refine two_ (i := 13) (j := 29) (Ni := some 43) (Nj := some 7) #[true, true, true, true, true, true, true, true, true, true, true, true, true, true, true, true, true, true, true, true, false, true, true, true, true, true, true, false, false, false, false] #[true, true, true, true, true, true, true, true, true, true, true, true, true, false, true, true, true, true, true, true, false, true, true, true, true, true, true, false, false, true, false] rfl rfl rfl rfl (two_of HT_.out (by kernel_rfl)) (by decide) (by decide) (fun K hK => ?_) (fun K hK => ?_)
         ·skip
          refine gs_ Try.func97 #[.string (a0.extract ((ji18) : Int).toNat ((ji23) : Int).toNat)] rfl (mc_ hji18 hji23) ?_
          with_reducible refine (spec_l1Value.calls k (a0.extract ((ji18) : Int).toNat ((ji23) : Int).toNat) lA _ uB.out).mono ?_
          rintro e w' ⟨rfl, ⟨nd, rfl⟩⟩
          refine ⟨_, rfl, ?_⟩
          refine hK.out _ _ trivial (fun hHeld => ?_)
          clear hK K
          refine no_ ?_
          exact nq_ (hJ6_13 () _ ⟨(kb_ bA.out), (hs_ hA.out)⟩)
         ·skip
          refine bs_ (N := 7) #[.int .i64 0, .int .i64 0, .int .i64 0, .int .i64 0, .slice none 0 0] 44 ?_
          intro eA hg vA hbox hb
          have aA := Aside0.mk (hbox)
          have nA := ge1_ hg hA
          have jA := ge1_ hg hA
          replace HB := nc_ hA hb
          have dA := nl_ bA hg
          have fA := ng_ bA hg
          replace bA := bK_ bA hb
          clear hb hbox hg
          refine hK.out _ _ trivial (fun hHeld => ?_)
          clear hK K
          refine no_ ?_
          exact nq_ (hJ6_29 (eA) _ ⟨(kb_ bA.out), (kb_ aA.out), nA.out, jA.out, dA.out, fA.out, (hs2_ hA.out jA.out)⟩)
       ·skip
        rintro eA vA ⟨h0_, h1_, h2_, h3_, h4_, h5_, h6_⟩
        have n0_ : Aside0 (vA.heap[gA]? = some (.cells #[.int .i64 0, .int .i64 0, .int .i64 0, .int .i64 0, .slice none 0 0] 44 (0, 0))) := ⟨h0_⟩
        have n1_ : Aside0 (vA.heap[eA]? = some (.cells #[.int .i64 0, .int .i64 0, .int .i64 0, .int .i64 0, .slice none 0 0] 44 (0, 0))) := ⟨h1_⟩
        have n2_ : Aside0 (w.heap.size ≤ eA) := ⟨h2_⟩
        have n3_ : Aside0 (w.heap.size ≤ eA) := ⟨h3_⟩
        have n4_ : Aside0 (gA ≠ eA) := ⟨h4_⟩
        have n5_ : Aside0 (eA ≠ gA) := ⟨h5_⟩
        have n6_ : Aside0 (Below w.heap.size w vA) := ⟨h6_⟩
        clear bA
        clear HB
        clear h0_ h1_ h2_ h3_ h4_ h5_ h6_
        have bA := n0_
        have aA := n1_
        have nA := n2_
        have jA := n3_
        have dA := n4_
        have fA := n5_
        have HB := n6_
        clear n0_ n1_ n2_ n3_ n4_ n5_ n6_
        have hHeld := trivial
        refine np_ ?_
        refine on_ 13 43 (fun K hK => ?_)
        refine gs_ Try.func97 #[.string (a0.extract ((ji18) : Int).toNat ((ji23) : Int).toNat)] rfl (mc_ hji18 hji23) ?_
        with_reducible refine (spec_l1Value.calls k (a0.extract ((ji18) : Int).toNat ((ji23) : Int).toNat) lA _ uB.out).mono ?_
        rintro e w' ⟨rfl, ⟨nd, rfl⟩⟩
        refine ⟨_, rfl, ?_⟩
        refine hK.out _ _ trivial (fun hHeld => ?_)
        clear hK K
        refine no_ ?_
        exact nq_ (hJ6_13_29 (eA) _ ⟨(kb_ bA.out), (kb_ aA.out), nA.out, jA.out, dA.out, fA.out, (hs2_ hA.out jA.out)⟩)
      ·skip
       rintro _ zA ⟨h0_, h1_⟩
       have n0_ : Aside0 (zA.heap[gA]? = some (.cells #[.int .i64 0, .int .i64 0, .int .i64 0, .int .i64 0, .slice none 0 0] 44 (0, 0))) := ⟨h0_⟩
       have n1_ : Aside0 (Below w.heap.size w zA) := ⟨h1_⟩
       clear bA
       clear HB
       clear h0_ h1_
       have bA := n0_
       have HB := n1_
       clear n0_ n1_
       have hHeld := trivial
       refine np_ ?_
       refine two_ (i := 20) (j := 29) (Ni := some 50) (Nj := some 7) #[true, true, true, true, true, true, true, true, true, true, true, true, true, true, true, true, true, true, true, true, true, true, true, true, true, true, true, false, false, false, false] #[true, true, true, true, true, true, true, true, true, true, true, true, true, true, true, true, true, true, true, true, false, true, true, true, true, true, true, false, false, true, false] rfl rfl rfl rfl (two_of HT_.out (by kernel_rfl)) (by decide) (by decide) (fun K hK => ?_) (fun K hK => ?_)
       ·skip
        refine gs_ Try.func97 #[.string (a0.extract ((ji23) : Int).toNat ((ji28) : Int).toNat)] rfl (mc_ hji23 hji28) ?_
        with_reducible refine (spec_l1Value.calls k (a0.extract ((ji23) : Int).toNat ((ji28) : Int).toNat) mA _ hD.out).mono ?_
        rintro e w' ⟨rfl, ⟨nd, rfl⟩⟩
        refine ⟨_, rfl, ?_⟩
        refine hK.out _ _ trivial (fun hHeld => ?_)
        clear hK K
        refine no_ ?_
        exact nq_ (hJ6_13_20 () _ ⟨(kb_ bA.out), (hs_ hA.out)⟩)
       ·skip
        refine bs_ (N := 7) #[.int .i64 0, .int .i64 0, .int .i64 0, .int .i64 0, .slice none 0 0] 44 ?_
        intro eA hg vA hbox hb
        have aA := Aside0.mk (hbox)
        have nA := ge1_ hg hA
        have jA := ge1_ hg hA
        replace HB := nc_ hA hb
        have dA := nl_ bA hg
        have fA := ng_ bA hg
        replace bA := bK_ bA hb
        clear hb hbox hg
        refine hK.out _ _ trivial (fun hHeld => ?_)
        clear hK K
        refine no_ ?_
        exact nq_ (hJ6_13_29 (eA) _ ⟨(kb_ bA.out), (kb_ aA.out), nA.out, jA.out, dA.out, fA.out, (hs2_ hA.out jA.out)⟩)
     ·skip
      rintro eA vA ⟨h0_, h1_, h2_, h3_, h4_, h5_, h6_⟩
      have n0_ : Aside0 (vA.heap[gA]? = some (.cells #[.int .i64 0, .int .i64 0, .int .i64 0, .int .i64 0, .slice none 0 0] 44 (0, 0))) := ⟨h0_⟩
      have n1_ : Aside0 (vA.heap[eA]? = some (.cells #[.int .i64 0, .int .i64 0, .int .i64 0, .int .i64 0, .slice none 0 0] 44 (0, 0))) := ⟨h1_⟩
      have n2_ : Aside0 (w.heap.size ≤ eA) := ⟨h2_⟩
      have n3_ : Aside0 (w.heap.size ≤ eA) := ⟨h3_⟩
      have n4_ : Aside0 (gA ≠ eA) := ⟨h4_⟩
      have n5_ : Aside0 (eA ≠ gA) := ⟨h5_⟩
      have n6_ : Aside0 (Below w.heap.size w vA) := ⟨h6_⟩
      clear bA
      clear HB
      clear h0_ h1_ h2_ h3_ h4_ h5_ h6_
      have bA := n0_
      have aA := n1_
      have nA := n2_
      have jA := n3_
      have dA := n4_
      have fA := n5_
      have HB := n6_
      clear n0_ n1_ n2_ n3_ n4_ n5_ n6_
      have hHeld := trivial
      refine np_ ?_
      refine on_ 20 50 (fun K hK => ?_)
      refine gs_ Try.func97 #[.string (a0.extract ((ji23) : Int).toNat ((ji28) : Int).toNat)] rfl (mc_ hji23 hji28) ?_
      with_reducible refine (spec_l1Value.calls k (a0.extract ((ji23) : Int).toNat ((ji28) : Int).toNat) mA _ hD.out).mono ?_
      rintro e w' ⟨rfl, ⟨nd, rfl⟩⟩
      refine ⟨_, rfl, ?_⟩
      refine hK.out _ _ trivial (fun hHeld => ?_)
      clear hK K
      refine no_ ?_
      exact nq_ (hJ6_13_20_29 (eA) _ ⟨(kb_ bA.out), (kb_ aA.out), nA.out, jA.out, dA.out, fA.out, (hs2_ hA.out jA.out)⟩)
    ·skip
     rintro _ zA ⟨h0_, h1_⟩
     have n0_ : Aside0 (zA.heap[gA]? = some (.cells #[.int .i64 0, .int .i64 0, .int .i64 0, .int .i64 0, .slice none 0 0] 44 (0, 0))) := ⟨h0_⟩
     have n1_ : Aside0 (Below w.heap.size w zA) := ⟨h1_⟩
     clear bA
     clear HB
     clear h0_ h1_
     have bA := n0_
     have HB := n1_
     clear n0_ n1_
     have hHeld := trivial
     refine np_ ?_
     refine two_ (i := 27) (j := 29) (Ni := some 57) (Nj := some 7) #[true, true, true, true, true, true, true, true, true, true, true, true, true, true, true, true, true, true, true, true, true, true, true, true, true, true, true, true, false, false, false] #[true, true, true, true, true, true, true, true, true, true, true, true, true, true, true, true, true, true, true, true, true, true, true, true, true, true, true, false, false, true, false] rfl rfl rfl rfl (two_of HT_.out (by kernel_rfl)) (by decide) (by decide) (fun K hK => ?_) (fun K hK => ?_)
     ·skip
      refine gs_ Try.func97 #[.string (a0.extract ((ji28) : Int).toNat ((ji33) : Int).toNat)] rfl (mc_ hji28 hji33) ?_
      with_reducible refine (spec_l1Value.calls k (a0.extract ((ji28) : Int).toNat ((ji33) : Int).toNat) oA _ wG.out).mono ?_
      rintro e w' ⟨rfl, ⟨nd, rfl⟩⟩
      refine ⟨_, rfl, ?_⟩
      refine hK.out _ _ trivial (fun hHeld => ?_)
      clear hK K
      refine no_ ?_
      refine pv_ 28 58 ?_
      exact nq_ (hJ6_13_20_27 () _ ⟨(kb_ bA.out), (hs_ hA.out)⟩)
     ·skip
      refine bs_ (N := 7) #[.int .i64 0, .int .i64 0, .int .i64 0, .int .i64 0, .slice none 0 0] 44 ?_
      intro eA hg vA hbox hb
      have aA := Aside0.mk (hbox)
      have nA := ge1_ hg hA
      have jA := ge1_ hg hA
      replace HB := nc_ hA hb
      have dA := nl_ bA hg
      have fA := ng_ bA hg
      replace bA := bK_ bA hb
      clear hb hbox hg
      refine hK.out _ _ trivial (fun hHeld => ?_)
      clear hK K
      refine no_ ?_
      exact nq_ (hJ6_13_20_29 (eA) _ ⟨(kb_ bA.out), (kb_ aA.out), nA.out, jA.out, dA.out, fA.out, (hs2_ hA.out jA.out)⟩)
   ·skip
    rintro eA vA ⟨h0_, h1_, h2_, h3_, h4_, h5_, h6_⟩
    have n0_ : Aside0 (vA.heap[gA]? = some (.cells #[.int .i64 0, .int .i64 0, .int .i64 0, .int .i64 0, .slice none 0 0] 44 (0, 0))) := ⟨h0_⟩
    have n1_ : Aside0 (vA.heap[eA]? = some (.cells #[.int .i64 0, .int .i64 0, .int .i64 0, .int .i64 0, .slice none 0 0] 44 (0, 0))) := ⟨h1_⟩
    have n2_ : Aside0 (w.heap.size ≤ eA) := ⟨h2_⟩
    have n3_ : Aside0 (w.heap.size ≤ eA) := ⟨h3_⟩
    have n4_ : Aside0 (gA ≠ eA) := ⟨h4_⟩
    have n5_ : Aside0 (eA ≠ gA) := ⟨h5_⟩
    have n6_ : Aside0 (Below w.heap.size w vA) := ⟨h6_⟩
    clear bA
    clear HB
    clear h0_ h1_ h2_ h3_ h4_ h5_ h6_
    have bA := n0_
    have aA := n1_
    have nA := n2_
    have jA := n3_
    have dA := n4_
    have fA := n5_
    have HB := n6_
    clear n0_ n1_ n2_ n3_ n4_ n5_ n6_
    have hHeld := trivial
    refine np_ ?_
    refine on_ 27 57 (fun K hK => ?_)
    refine gs_ Try.func97 #[.string (a0.extract ((ji28) : Int).toNat ((ji33) : Int).toNat)] rfl (mc_ hji28 hji33) ?_
    with_reducible refine (spec_l1Value.calls k (a0.extract ((ji28) : Int).toNat ((ji33) : Int).toNat) oA _ wG.out).mono ?_
    rintro e w' ⟨rfl, ⟨nd, rfl⟩⟩
    refine ⟨_, rfl, ?_⟩
    refine hK.out _ _ trivial (fun hHeld => ?_)
    clear hK K
    refine no_ ?_
    refine pv_ 28 58 ?_
    exact nq_ (hJ6_13_20_27_29 (eA) _ ⟨(kb_ bA.out), (kb_ aA.out), nA.out, jA.out, dA.out, fA.out, (hs2_ hA.out jA.out)⟩)
  ·skip
   rintro _ zA ⟨h0_, h1_⟩
   have n0_ : Aside0 (zA.heap[gA]? = some (.cells #[.int .i64 0, .int .i64 0, .int .i64 0, .int .i64 0, .slice none 0 0] 44 (0, 0))) := ⟨h0_⟩
   have n1_ : Aside0 (Below w.heap.size w zA) := ⟨h1_⟩
   clear bA
   clear HB
   clear h0_ h1_
   have bA := n0_
   have HB := n1_
   clear n0_ n1_
   have hHeld := trivial
   refine np_ ?_
   refine on_ 29 7 (fun K hK => ?_)
   refine bs_ (N := 7) #[.int .i64 0, .int .i64 0, .int .i64 0, .int .i64 0, .slice none 0 0] 44 ?_
   intro eA hg vA hbox hb
   have aA := Aside0.mk (hbox)
   have nA := ge1_ hg hA
   have jA := ge1_ hg hA
   replace HB := nc_ hA hb
   have dA := nl_ bA hg
   have fA := ng_ bA hg
   replace bA := bK_ bA hb
   clear hb hbox hg
   refine hK.out _ _ trivial (fun hHeld => ?_)
   clear hK K
   refine no_ ?_
   exact nq_ (hJ6_13_20_27_29 (eA) _ ⟨(kb_ bA.out), (kb_ aA.out), nA.out, jA.out, dA.out, fA.out, (hs2_ hA.out jA.out)⟩)
 rintro eA vA ⟨h0_, h1_, h2_, h3_, h4_, h5_, h6_⟩
 have n0_ : Aside0 (vA.heap[gA]? = some (.cells #[.int .i64 0, .int .i64 0, .int .i64 0, .int .i64 0, .slice none 0 0] 44 (0, 0))) := ⟨h0_⟩
 have n1_ : Aside0 (vA.heap[eA]? = some (.cells #[.int .i64 0, .int .i64 0, .int .i64 0, .int .i64 0, .slice none 0 0] 44 (0, 0))) := ⟨h1_⟩
 have n2_ : Aside0 (w.heap.size ≤ eA) := ⟨h2_⟩
 have n3_ : Aside0 (w.heap.size ≤ eA) := ⟨h3_⟩
 have n4_ : Aside0 (gA ≠ eA) := ⟨h4_⟩
 have n5_ : Aside0 (eA ≠ gA) := ⟨h5_⟩
 have n6_ : Aside0 (Below w.heap.size w vA) := ⟨h6_⟩
 clear bA
 clear HB
 clear h0_ h1_ h2_ h3_ h4_ h5_ h6_
 have bA := n0_
 have aA := n1_
 have nA := n2_
 have jA := n3_
 have dA := n4_
 have fA := n5_
 have HB := n6_
 clear n0_ n1_ n2_ n3_ n4_ n5_ n6_
 have hHeld := trivial
 refine np_ ?_
 refine one_ (i := 30) (N := none) #[true, true, true, true, true, true, true, true, true, true, true, true, true, true, true, true, true, true, true, true, true, true, true, true, true, true, true, true, true, true, true] rfl rfl (one_of HT_.out (by kernel_rfl)) (by decide) (fun K hK => ?_)
 obtain ⟨hs41, hfs41⟩ := cf1_ aA.out
 have hns41_0 := dA.out
 have hms41_0 := fA.out
 have hs42 : vA.cell? ⟨eA, 1, none⟩ = some (.int .i64 0) := bt_ aA 1
 have hfs42 := blk_frozen aA.out 1
 have hns42_0 := dA.out
 have hms42_0 := fA.out
 have hs43 : vA.cell? ⟨eA, 2, none⟩ = some (.int .i64 0) := bt_ aA 2
 have hfs43 := blk_frozen aA.out 2
 have hns43_0 := dA.out
 have hms43_0 := fA.out
 have hs44 : vA.cell? ⟨eA, 3, none⟩ = some (.int .i64 0) := bt_ aA 3
 have hfs44 := blk_frozen aA.out 3
 have hns44_0 := dA.out
 have hms44_0 := fA.out
 have hs45 : vA.cell? ⟨eA, 4, none⟩ = some (.slice none 0 0) := bt_ aA 4
 have hfs45 := blk_frozen aA.out 4
 have hns45_0 := dA.out
 have hms45_0 := fA.out
 refine skip_ (w1 := ?_) (by rfl) rfl ?_ ?_
 rotate_left
 ·go_simp
  rfl
 refine hK.out _ _ trivial (fun hHeld => ?_)
 clear hK K
 refine done_ (done_of HT_.out (by kernel_rfl)) ?_
 have jD : 0 ≤ ((ji33) : Int) := oa_
 have kD : (ji33) < (a0.size : Int) := oa_
 have xG := bt_at a0 (ji33)
 replace jD := eq_true jD
 replace kD := eq_true kD
 try go_wp2
 go_loopg [8, 9] k (fun kq v8 v9 w' => ∃ (pA : Int) (bB : Int) (rA : Int) (sA : Int) (tA : Int) (uA : Int) (iA : List ByteArray) (qA : Value), v8 = .int .i64 pA ∧ v9 = .int .i64 bB ∧ Aside0 (spec_l1Take.l0 kq a0 a1 (wrap64 ((ji13) + wA)) pA bB kA lA mA oA iA = some (r1, r2, r3, r4, r5, r6)) ∧ Aside0 (kq ≤ k) ∧ Aside0 (Kd.R Kd.string 9 w' w.heap.size (fun _ => True) qA iA) ∧ Aside0 (w'.heap[gA]? = some (.cells #[.int .i64 rA, .int .i64 sA, .int .i64 tA, .int .i64 uA, (.slice none 0 0)] 44 (0, 0))) ∧ Aside0 (w'.heap[eA]? = some (.cells #[.int .i64 kA, .int .i64 lA, .int .i64 mA, .int .i64 oA, qA] 44 (0, 0))) ∧ Aside0 (Below w.heap.size w w'))
 case atStart => exact ⟨(wrap64 (a1 + 12)), (wrap64 (bt a0 (ji33))), (0), (0), (0), (0), (([] : List ByteArray)), (.slice none 0 0), sr_, (by first | rfl | (simp; done) | (simp only [← hji33] <;> (first | rfl | simp)) | (simp [*]; done)), H', ⟨Nat.le_refl _⟩, ⟨ni_⟩, ⟨uf_ bA dA.out⟩, ⟨up_ aA⟩, ⟨hs2_ hA.out jA.out⟩⟩
 case round =>
  clear H'
  try clear jD
  try clear kD
  try clear xG
  try clear jD
  try clear kD
  obtain ⟨pA, bB, rA, sA, tA, uA, iA, qA, rfl, rfl, HA, oH, cA, bA, aA, HB⟩ := hrel
  cases gk with
  | zero => exact absurd HA.out (by simp [spec_l1Take.l0])
  | succ k1 =>
   have H := HA.out
   clear HA
   simp only [spec_l1Take.l0] at H
   replace H := ite_ H
   obtain ⟨dC, H⟩ | ⟨dC, H⟩ := H
   ·have eC := dgt_ dC
    clear dC
    replace H := ite_ H
    obtain ⟨fC, H⟩ | ⟨fC, H⟩ := H
    ·have gC := dge_ fC
     clear fC
     simp only [Option.some.injEq, Prod.mk.injEq] at H
     obtain ⟨rfl, rfl, rfl, rfl, rfl, rfl⟩ := H
     have pH := dA.out
     have qH := fA.out
     obtain ⟨lD, mD, nD, oD, pD, qD, rD, sD, tD, uD⟩ := cf5_ bA.out
     go_wp2
     refine bodyPost_ret (results_ct rfl _ _ gA 44 #[.int .i64 0, .int .i64 0, .int .i64 0, .int .i64 0, .slice none 0 0] (0, 0) _ rfl (up_ bA) Try.underlying44 rfl (by kernel_rfl)) rfl ?_
     exact ⟨_, by first | rfl | (simp [errW_none, errW_some] <;> rfl) | (simp only [← hji13, ← hji18, ← hji23, ← hji28, ← hji33]; first | rfl | (simp [errW_none, errW_some] <;> rfl)) | (simp [*, errW_none, errW_some] <;> rfl), ni_, hs2_ hA.out jA.out⟩
    have gC := dne_ fC
    clear fC
    replace H := ifs_ H
    obtain ⟨rH, H⟩ := H
    have sH := decide_eq_true rH
    clear rH
    replace H := ifs_ H
    obtain ⟨tH, H⟩ := H
    have uH := decide_eq_true tH
    clear tH
    replace H := ite_ H
    obtain ⟨hC, H⟩ | ⟨hC, H⟩ := H
    ·have iC := dgt_ hC
     clear hC
     simp only [Option.some.injEq, Prod.mk.injEq] at H
     obtain ⟨rfl, rfl, rfl, rfl, rfl, rfl⟩ := H
     have jC : 0 ≤ (pA : Int) := oa_
     have kC : pA < (a0.size : Int) := oa_
     have yG := bt_at a0 pA
     replace jC := eq_true jC
     replace kC := eq_true kC
     have vH := dA.out
     have wH := fA.out
     obtain ⟨vD, wD, xD, yD, zD, aE, bE, cE, dE, eE⟩ := cf5_ bA.out
     go_wp2
     refine bodyPost_ret (results_ct rfl _ _ gA 44 #[.int .i64 0, .int .i64 0, .int .i64 0, .int .i64 0, .slice none 0 0] (0, 0) _ rfl (up_ bA) Try.underlying44 rfl (by kernel_rfl)) rfl ?_
     exact ⟨_, by first | rfl | (simp [errW_none, errW_some] <;> rfl) | (simp only [← hji13, ← hji18, ← hji23, ← hji28, ← hji33]; first | rfl | (simp [errW_none, errW_some] <;> rfl)) | (simp [*, errW_none, errW_some] <;> rfl), ni_, hs2_ hA.out jA.out⟩
    have iC := dgf_ hC
    clear hC
    obtain ⟨ji57, hji57⟩ : ∃ j_ : Int, (wrap64 (pA + 1)) = j_ := ⟨_, rfl⟩
    first | rw [hji57] at H | simp only [hji57] at H
    have hji57w : (IntKind.i64.wrap (pA + 1)) = ji57 := (i64_w _).trans hji57
    replace H := ifs_ H
    obtain ⟨zG, H⟩ := H
    have xH := eq_true zG
    have yH := decide_eq_true zG
    clear zG
    replace H := ifs_ H
    obtain ⟨zH, H⟩ := H
    have aI := eq_true zH
    have bI := decide_eq_true zH
    replace H := ifs_ H
    obtain ⟨cI, H⟩ := H
    have dI := eq_true cI
    have eI := decide_eq_true cI
    replace H := ifs_ H
    obtain ⟨fI, H⟩ := H
    have lC := Aside0.mk fI
    clear fI
    obtain ⟨cB, xA⟩ : ∃ y_ : List ByteArray, y_ = (iA ++ [a0.extract ((ji57) : Int).toNat ((wrap64 ((ji57) + (wrap64 (bt a0 pA)))) : Int).toNat]) := ⟨_, rfl⟩
    replace H : (spec_l1Take.l0 k1 a0 a1 (wrap64 ((ji13) + wA)) (wrap64 (pA + (wrap64 (1 + (wrap64 (bt a0 pA)))))) (wrap64 (bB - 1)) kA lA mA oA cB) = some (r1, r2, r3, r4, r5, r6) := by first | (rw [xA]; with_reducible exact H) | (have H2_ := (Option.bind_some _ _).symm.trans H; rw [xA]; with_reducible exact H2_) | (have H2_ := (Option.bind_some _ _).symm.trans H; with_reducible exact H2_) | with_reducible exact H | (rw [xA]; exact H) | exact H
    have mC := Aside0.mk xA
    clear xA
    have H' := Aside0.mk H
    clear H
    have jC : 0 ≤ (pA : Int) := oa_
    have kC : pA < (a0.size : Int) := oa_
    have yG := bt_at a0 pA
    replace jC := eq_true jC
    replace kC := eq_true kC
    try go_wp2
    replace cA := qR_ cA
    replace bA := qK_ bA
    replace aA := qK_ aA
    replace HB := qH_ HB
    have gI : 0 ≤ (pA : Int) := oa_
    have hI : pA < (a0.size : Int) := oa_
    have bJ := bt_at a0 pA
    replace gI := eq_true gI
    replace hI := eq_true hI
    refine start_ (n := 17) (S := fun w' => w'.cell? ⟨eA, 0, none⟩ = some (.int .i64 kA) ∧ w'.cell? ⟨eA, 1, none⟩ = some (.int .i64 lA) ∧ w'.cell? ⟨eA, 2, none⟩ = some (.int .i64 mA) ∧ w'.cell? ⟨eA, 3, none⟩ = some (.int .i64 oA) ∧ w'.cell? ⟨eA, 4, none⟩ = some (qA)) (ds := [16]) (List.replicate 17 false).toArray (by kernel_rfl) rfl rfl ⟨bt_ aA 0, bt_ aA 1, bt_ aA 2, bt_ aA 3, bt_ aA 4⟩ (fun hHeld => ?_); refine with_tabW spec_l1Take.tab13 spec_l1Take.bits13 (fun HT_ HW_ => ?_)
    generalize wr.drew = hJ at cA bA aA HB hHeld ⊢
    refine pv_ 0 85 ?_
    refine pv_ 2 87 ?_
    refine pv_ 3 88 ?_
    refine pv_ 4 89 ?_
    refine pv_ 5 90 ?_
    refine pv_ 6 91 ?_
    refine pv_ 7 92 ?_
    refine pv_ 8 93 ?_
    refine tk_ 1 86 ?_
    refine tk_ 9 94 ?_
    refine pv_ 10 95 ?_
    refine pv_ 11 96 ?_
    refine pv_ 12 97 ?_
    refine on_ 13 98 (fun K hK => ?_)
    refine value_ (w1 := ?_) (v := ?_) (by rfl) rfl ?_ ?_
    rotate_left 2
    ·go_simp
     constructor
     ·rfl
     ·rfl
    refine hK.out _ _ ⟨(blk_cell (blk_alloc aA.out _) 0).trans rfl, (blk_cell (blk_alloc aA.out _) 1).trans rfl, (blk_cell (blk_alloc aA.out _) 2).trans rfl, (blk_cell (blk_alloc aA.out _) 3).trans rfl, (blk_cell (blk_alloc aA.out _) 4).trans rfl⟩ (fun hHeld => ?_)
    clear hK K
    refine no_ ?_
    refine on_ 14 99 (fun K hK => ?_)
    refine Kd.R_append_step Kd.string (w0 := w) w.heap.size (by rfl) (.tmp 86) (.tmp 98) 38 9 (.string ⟨#[]⟩) 16 rfl Try.underlying38 info9 rfl (by decide) (by omega) qA iA (a0.extract ((ji57) : Int).toNat ((wrap64 ((ji57) + (wrap64 (bt a0 pA)))) : Int).toNat) [.string (a0.extract ((ji57) : Int).toNat ((wrap64 ((ji57) + (wrap64 (bt a0 pA)))) : Int).toNat)] (fun _ => True) (fun _ => False) rfl rfl ?aP (fun _ hk => hk.elim) ?aF ?aO ?aB ?aS ?aL ?_
    (case aP => exact rfl)
    (case aB => exact (hs2_ hA.out jA.out))
    (case aF => exact (fun _ _ => trivial))
    (case aO => exact (kr_ cA.out))
    (case aS => exact (below_size (hs2_ hA.out jA.out)))
    (case aL => have := lC.out; omega)
    intro cJ dJ ho hb hg hat
    rw [← mC.out] at ho
    replace bA := Aside0.mk (blk_grown (g := gA) (o := .cells #[.int .i64 rA, .int .i64 sA, .int .i64 tA, .int .i64 uA, .slice none 0 0] 44 (0, 0)) (kb_ bA.out) hg (Kd.R_ne cA.out bA.out (by decide)))
    replace aA := Aside0.mk (blk_grown (g := eA) (o := .cells #[.int .i64 kA, .int .i64 lA, .int .i64 mA, .int .i64 oA, qA] 44 (0, 0)) (kb_ aA.out) hg (Kd.R_ne cA.out aA.out (by decide)))
    replace HB := Aside0.mk (hb)
    have gB := Aside0.mk (ho)
    clear cA
    clear ho hb hg hat
    obtain ⟨nC, oC, pC⟩ := Kd.R_slice gB.out
    (first | subst pC | (injection pC with f1_ f2_ f3_; have f4_ := f1_.symm; have f5_ := f3_.symm; clear f1_ f2_ f3_; subst f4_; subst f5_))
    refine hK.out _ _ ⟨bt_ aA 0, bt_ aA 1, bt_ aA 2, bt_ aA 3, bt_ aA 4⟩ (fun hHeld => ?_)
    clear hK K
    refine no_ ?_
    refine pv_ 15 100 ?_
    refine last_ (i := 16) (N := none) #[true, true, true, true, true, true, true, true, true, true, true, true, true, true, true, true, true] rfl rfl (one_of HT_.out (by kernel_rfl)) (by decide) (fun K hK => ?_)
    have hs66 : dJ.cell? ⟨eA, 4, none⟩ = some (qA) := bt_ aA 4
    have hfs66 := blk_frozen aA.out 4
    have hns66_0 := dA.out
    have hms66_0 := fA.out
    refine skip_ (w1 := ?_) (by rfl) rfl ?_ ?_
    rotate_left
    ·go_simp
     rfl
    refine hK.out _ _ ?_
    clear hK K
    refine done_ (done_of HT_.out (by kernel_rfl)) ?_
    have iI : 0 ≤ (pA : Int) := oa_
    have jI : pA < (a0.size : Int) := oa_
    have eJ := bt_at a0 pA
    replace iI := eq_true iI
    replace jI := eq_true jI
    try go_wp2
    go_roundg k1
    case measure => have := oH.out; omega
    case rel => exact ⟨(wrap64 (pA + (wrap64 (1 + (wrap64 (bt a0 pA)))))), (wrap64 (bB - 1)), (rA), (sA), (tA), (uA), (cB), (.slice nC cB.length oC), sr_, sr_, H', ⟨by have := oH.out; omega⟩, ⟨rF_ (Kd.R_mono (Kd.R_far (p := ⟨eA, 4, none⟩) (Kd.R_types gB.out aA.out (by decide)) (fun _ hk => hk.2) (.slice nC cB.length oC)) (fun _ hk => trivial))⟩, ⟨uf_ bA dA.out⟩, ⟨up_ aA⟩, ⟨hs2_ hA.out jA.out⟩⟩
   have eC := dgf_ dC
   clear dC
   replace H := bnd_ H
   obtain ⟨fJ, aH, H⟩ := H
   replace H := ifb_ H
   obtain ⟨rfl, H⟩ | ⟨rfl, H⟩ := H
   rotate_left
   ·simp only [Option.some.injEq, Prod.mk.injEq] at H
    obtain ⟨rfl, rfl, rfl, rfl, rfl, rfl⟩ := H
    try go_wp2
    replace cA := qR_ cA
    replace bA := qK_ bA
    replace aA := qK_ aA
    replace HB := qH_ HB
    obtain ⟨qC, rC, sC⟩ := Kd.R_slice cA.out
    (first | subst sC | (injection sC with f1_ f2_ f3_; have f4_ := f1_.symm; have f5_ := f3_.symm; clear f1_ f2_ f3_; subst f4_; subst f5_))
    refine start_ (n := 12) (S := fun w' => w'.cell? ⟨eA, 0, none⟩ = some (.int .i64 kA) ∧ w'.cell? ⟨eA, 1, none⟩ = some (.int .i64 lA) ∧ w'.cell? ⟨eA, 2, none⟩ = some (.int .i64 mA) ∧ w'.cell? ⟨eA, 3, none⟩ = some (.int .i64 oA) ∧ w'.cell? ⟨eA, 4, none⟩ = some (.slice qC iA.length rC)) (ds := []) (List.replicate 12 false).toArray (by kernel_rfl) rfl rfl ⟨bt_ aA 0, bt_ aA 1, bt_ aA 2, bt_ aA 3, bt_ aA 4⟩ (fun hHeld => ?_); refine with_tabW spec_l1Take.tab15 spec_l1Take.bits15 (fun HT_ HW_ => ?_)
    generalize wr.drew = iJ at cA bA aA HB hHeld ⊢
    refine tk_ 0 108 ?_
    refine on_ 1 109 (fun K hK => ?_)
    refine gs_ Try.func59 #[.agg #[.int .i64 kA, .int .i64 lA, .int .i64 mA, .int .i64 oA, .slice qC iA.length rC]] rfl ma_ ?_
    with_reducible refine (spec_GoodBatch.calls k1 kA lA mA oA _ _ iA false _ ?side1 ?side2 aH.out).mono ?_
    (case side1 => exact cs_ ((Kd.R_reads' cA.out).2.2))
    (case side2 => exact (Kd.R_reads' cA.out).2.1)
    rintro e jJ ⟨rfl, hb⟩
    refine ⟨_, rfl, ?_⟩
    replace cA := rB_ cA hb
    replace bA := bK_ bA hb
    replace aA := bK_ aA hb
    replace HB := nc2_ hA jA hb
    (try clear hb)
    (try clear hb2)
    (try clear hk)
    (try clear hi)
    refine hK.out _ _ ⟨bt_ aA 0, bt_ aA 1, bt_ aA 2, bt_ aA 3, bt_ aA 4⟩ (fun hHeld => ?_)
    clear hK K
    refine no_ ?_
    refine pv_ 2 110 ?_
    refine pv_ 3 111 ?_
    refine po_ 4 112 ?_
    refine po_ 5 113 ?_
    refine po_ 6 114 ?_
    refine po_ 7 115 ?_
    refine po_ 8 116 ?_
    refine po_ 9 117 ?_
    refine po_ 10 118 ?_
    refine pv_ 11 119 ?_
    refine done_ (done_of HT_.out (by kernel_rfl)) ?_
    have kI := dA.out
    have lI := fA.out
    obtain ⟨fE, gE, hE, iE, jE, kE, lE, mE, nE, oE⟩ := cf5_ bA.out
    try go_wp2
    refine bodyPost_ret (results_ct rfl _ _ gA 44 #[.int .i64 0, .int .i64 0, .int .i64 0, .int .i64 0, .slice none 0 0] (0, 0) _ rfl (up_ bA) Try.underlying44 rfl (by kernel_rfl)) rfl ?_
    exact ⟨_, by first | rfl | (simp [errW_none, errW_some] <;> rfl) | (simp only [← hji13, ← hji18, ← hji23, ← hji28, ← hji33]; first | rfl | (simp [errW_none, errW_some] <;> rfl)) | (simp [*, errW_none, errW_some] <;> rfl), ni_, hs2_ hA.out jA.out⟩
   replace H := bnd_ H
   obtain ⟨yA, mI, H⟩ := H
   replace H := ifs_ H
   obtain ⟨bH, H⟩ := H
   have nI := eq_true bH
   have oI := decide_eq_true bH
   clear bH
   replace H := ifs_ H
   obtain ⟨pI, H⟩ := H
   have qI := eq_true pI
   have rI := decide_eq_true pI
   replace H := ifs_ H
   obtain ⟨sI, H⟩ := H
   have tI := eq_true sI
   have uI := decide_eq_true sI
   replace H := ite_ H
   obtain ⟨kB, H⟩ | ⟨kB, H⟩ := H
   rotate_left
   ·have tC : (yA.toList == (a0.extract (a1 : Int).toNat ((wrap64 ((ji13) + wA)) : Int).toNat).toList) = false := beq_eq_false_iff_ne.mpr kB
    have uC : (yA.toList != (a0.extract (a1 : Int).toNat ((wrap64 ((ji13) + wA)) : Int).toNat).toList) = true := bne_iff_ne.mpr kB
    simp only [Option.some.injEq, Prod.mk.injEq] at H
    obtain ⟨rfl, rfl, rfl, rfl, rfl, rfl⟩ := H
    try go_wp2
    replace cA := qR_ cA
    replace bA := qK_ bA
    replace aA := qK_ aA
    replace HB := qH_ HB
    obtain ⟨hB, iB, vC⟩ := Kd.R_slice cA.out
    (first | subst vC | (injection vC with f1_ f2_ f3_; have f4_ := f1_.symm; have f5_ := f3_.symm; clear f1_ f2_ f3_; subst f4_; subst f5_))
    refine start_ (n := 12) (S := fun w' => w'.cell? ⟨eA, 0, none⟩ = some (.int .i64 kA) ∧ w'.cell? ⟨eA, 1, none⟩ = some (.int .i64 lA) ∧ w'.cell? ⟨eA, 2, none⟩ = some (.int .i64 mA) ∧ w'.cell? ⟨eA, 3, none⟩ = some (.int .i64 oA) ∧ w'.cell? ⟨eA, 4, none⟩ = some (.slice hB iA.length iB)) (ds := []) (List.replicate 12 false).toArray (by kernel_rfl) rfl rfl ⟨bt_ aA 0, bt_ aA 1, bt_ aA 2, bt_ aA 3, bt_ aA 4⟩ (fun hHeld => ?_); refine with_tabW spec_l1Take.tab15 spec_l1Take.bits15 (fun HT_ HW_ => ?_)
    generalize wr.drew = kJ at cA bA aA HB hHeld ⊢
    refine tk_ 0 108 ?_
    refine on_ 1 109 (fun K hK => ?_)
    refine gs_ Try.func59 #[.agg #[.int .i64 kA, .int .i64 lA, .int .i64 mA, .int .i64 oA, .slice hB iA.length iB]] rfl ma_ ?_
    with_reducible refine (spec_GoodBatch.calls k1 kA lA mA oA _ _ iA true _ ?side1 ?side2 aH.out).mono ?_
    (case side1 => exact cs_ ((Kd.R_reads' cA.out).2.2))
    (case side2 => exact (Kd.R_reads' cA.out).2.1)
    rintro e lJ ⟨rfl, hb⟩
    refine ⟨_, rfl, ?_⟩
    replace cA := rB_ cA hb
    replace bA := bK_ bA hb
    replace aA := bK_ aA hb
    replace HB := nc2_ hA jA hb
    (try clear hb)
    (try clear hb2)
    (try clear hk)
    (try clear hi)
    refine hK.out _ _ ⟨bt_ aA 0, bt_ aA 1, bt_ aA 2, bt_ aA 3, bt_ aA 4⟩ (fun hHeld => ?_)
    clear hK K
    refine no_ ?_
    refine pv_ 2 110 ?_
    refine pv_ 3 111 ?_
    refine pv_ 6 114 ?_
    refine pv_ 7 115 ?_
    refine pv_ 8 116 ?_
    refine pv_ 9 117 ?_
    refine tk_ 4 112 ?_
    refine on_ 5 113 (fun K hK => ?_)
    refine gs_ Try.func61 #[.agg #[.int .i64 kA, .int .i64 lA, .int .i64 mA, .int .i64 oA, .slice hB iA.length iB]] rfl ma_ ?_
    with_reducible refine (spec_l1Batch.calls k1 kA lA mA oA _ _ iA yA _ ?side1 ?side2 mI.out).mono ?_
    (case side1 => exact cs_ ((Kd.R_reads' cA.out).2.2))
    (case side2 => exact (Kd.R_reads' cA.out).2.1)
    rintro e mJ ⟨rfl, hb⟩
    refine ⟨_, rfl, ?_⟩
    replace cA := rB_ cA hb
    replace bA := bK_ bA hb
    replace aA := bK_ aA hb
    replace HB := nc2_ hA jA hb
    (try clear hb)
    (try clear hb2)
    (try clear hk)
    (try clear hi)
    refine hK.out _ _ ⟨bt_ aA 0, bt_ aA 1, bt_ aA 2, bt_ aA 3, bt_ aA 4⟩ (fun hHeld => ?_)
    clear hK K
    refine no_ ?_
    refine pv_ 10 118 ?_
    refine pv_ 11 119 ?_
    refine done_ (done_of HT_.out (by kernel_rfl)) ?_
    have vI := dA.out
    have wI := fA.out
    obtain ⟨pE, qE, rE, sE, tE, uE, vE, wE, xE, yE⟩ := cf5_ bA.out
    try go_wp2
    refine bodyPost_ret (results_ct rfl _ _ gA 44 #[.int .i64 0, .int .i64 0, .int .i64 0, .int .i64 0, .slice none 0 0] (0, 0) _ rfl (up_ bA) Try.underlying44 rfl (by kernel_rfl)) rfl ?_
    exact ⟨_, by first | rfl | (simp [errW_none, errW_some] <;> rfl) | (simp only [← hji13, ← hji18, ← hji23, ← hji28, ← hji33]; first | rfl | (simp [errW_none, errW_some] <;> rfl)) | (simp [*, errW_none, errW_some] <;> rfl), ni_, hs2_ hA.out jA.out⟩
   have tC : (yA.toList == (a0.extract (a1 : Int).toNat ((wrap64 ((ji13) + wA)) : Int).toNat).toList) = true := beq_iff_eq.mpr kB
   have uC : (yA.toList != (a0.extract (a1 : Int).toNat ((wrap64 ((ji13) + wA)) : Int).toNat).toList) = false := bne_eq_false_iff_eq.mpr kB
   clear kB
   simp only [Option.some.injEq, Prod.mk.injEq] at H
   obtain ⟨rfl, rfl, rfl, rfl, rfl, rfl⟩ := H
   try go_wp2
   replace cA := qR_ cA
   replace bA := qK_ bA
   replace aA := qK_ aA
   replace HB := qH_ HB
   obtain ⟨dB, eB, wC⟩ := Kd.R_slice cA.out
   (first | subst wC | (injection wC with f1_ f2_ f3_; have f4_ := f1_.symm; have f5_ := f3_.symm; clear f1_ f2_ f3_; subst f4_; subst f5_))
   refine start_ (n := 12) (S := fun w' => w'.cell? ⟨eA, 0, none⟩ = some (.int .i64 kA) ∧ w'.cell? ⟨eA, 1, none⟩ = some (.int .i64 lA) ∧ w'.cell? ⟨eA, 2, none⟩ = some (.int .i64 mA) ∧ w'.cell? ⟨eA, 3, none⟩ = some (.int .i64 oA) ∧ w'.cell? ⟨eA, 4, none⟩ = some (.slice dB iA.length eB)) (ds := []) (List.replicate 12 false).toArray (by kernel_rfl) rfl rfl ⟨bt_ aA 0, bt_ aA 1, bt_ aA 2, bt_ aA 3, bt_ aA 4⟩ (fun hHeld => ?_); refine with_tabW spec_l1Take.tab15 spec_l1Take.bits15 (fun HT_ HW_ => ?_)
   generalize wr.drew = nJ at cA bA aA HB hHeld ⊢
   refine tk_ 0 108 ?_
   refine on_ 1 109 (fun K hK => ?_)
   refine gs_ Try.func59 #[.agg #[.int .i64 kA, .int .i64 lA, .int .i64 mA, .int .i64 oA, .slice dB iA.length eB]] rfl ma_ ?_
   with_reducible refine (spec_GoodBatch.calls k1 kA lA mA oA _ _ iA true _ ?side1 ?side2 aH.out).mono ?_
   (case side1 => exact cs_ ((Kd.R_reads' cA.out).2.2))
   (case side2 => exact (Kd.R_reads' cA.out).2.1)
   rintro e oJ ⟨rfl, hb⟩
   refine ⟨_, rfl, ?_⟩
   replace cA := rB_ cA hb
   replace bA := bK_ bA hb
   replace aA := bK_ aA hb
   replace HB := nc2_ hA jA hb
   (try clear hb)
   (try clear hb2)
   (try clear hk)
   (try clear hi)
   refine hK.out _ _ ⟨bt_ aA 0, bt_ aA 1, bt_ aA 2, bt_ aA 3, bt_ aA 4⟩ (fun hHeld => ?_)
   clear hK K
   refine no_ ?_
   refine pv_ 2 110 ?_
   refine pv_ 3 111 ?_
   refine pv_ 6 114 ?_
   refine pv_ 7 115 ?_
   refine pv_ 8 116 ?_
   refine pv_ 9 117 ?_
   refine tk_ 4 112 ?_
   refine on_ 5 113 (fun K hK => ?_)
   refine gs_ Try.func61 #[.agg #[.int .i64 kA, .int .i64 lA, .int .i64 mA, .int .i64 oA, .slice dB iA.length eB]] rfl ma_ ?_
   with_reducible refine (spec_l1Batch.calls k1 kA lA mA oA _ _ iA yA _ ?side1 ?side2 mI.out).mono ?_
   (case side1 => exact cs_ ((Kd.R_reads' cA.out).2.2))
   (case side2 => exact (Kd.R_reads' cA.out).2.1)
   rintro e pJ ⟨rfl, hb⟩
   refine ⟨_, rfl, ?_⟩
   replace cA := rB_ cA hb
   replace bA := bK_ bA hb
   replace aA := bK_ aA hb
   replace HB := nc2_ hA jA hb
   (try clear hb)
   (try clear hb2)
   (try clear hk)
   (try clear hi)
   refine hK.out _ _ ⟨bt_ aA 0, bt_ aA 1, bt_ aA 2, bt_ aA 3, bt_ aA 4⟩ (fun hHeld => ?_)
   clear hK K
   refine no_ ?_
   refine pv_ 10 118 ?_
   refine pv_ 11 119 ?_
   refine done_ (done_of HT_.out (by kernel_rfl)) ?_
   have xI := fA.out
   have yI := dA.out
   obtain ⟨zE, bF, cF, dF, eF, fF, gF, hF, iF, jF⟩ := cf5_ aA.out
   obtain ⟨kF, lF, mF, nF, oF, pF, qF, rF, sF, tF⟩ := cf5_ bA.out
   try go_wp2
   refine bodyPost_ret (results_ct rfl _ _ gA 44 #[.int .i64 kA, .int .i64 lA, .int .i64 mA, .int .i64 oA, .slice dB iA.length eB] (0, 0) _ rfl (up_ bA) Try.underlying44 rfl (by kernel_rfl)) rfl ?_
   exact ⟨_, by first | rfl | (simp [errW_none, errW_some] <;> rfl) | (simp only [← hji13, ← hji18, ← hji23, ← hji28, ← hji33]; first | rfl | (simp [errW_none, errW_some] <;> rfl)) | (simp [*, errW_none, errW_some] <;> rfl), Kd.R_mono (rF_ (Kd.R_types cA.out bA.out (by decide))) (fun _ hk => trivial), hs2_ hA.out jA.out⟩
end Go.Proofs.Ytpdpipfkllfhmaa.QFnDisks
