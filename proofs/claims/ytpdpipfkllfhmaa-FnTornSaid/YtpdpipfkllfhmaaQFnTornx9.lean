/- Functions that one statement reaches: of each a plain function, and the proof that calls come to it. Conditions: those that each contract names. Written by a program of this repository. -/
import Derived.Test.YtpdpipfkllfhmaaVFnTorna
import Derived.Test.YtpdpipfkllfhmaaQFnTornx2
import Derived.Test.YtpdpipfkllfhmaaQFnTornx7
import Derived.Test.YtpdpipfkllfhmaaQFnTornx8
namespace Go.Proofs.Ytpdpipfkllfhmaa.QFnTorn
open Go.RowKit Go.Proofs.YtpdpipfkllfhmaaW.PrintWords Go.Proofs.YtpdpipfkllfhmaaW.PrintLast Go.Proofs.YtpdpipfkllfhmaaW.PrintMore
attribute [local go_sem] max2_int min2_int max_two min_two max_three min_three max_four min_four Go.Proofs.YtpdpipfkllfhmaaW.PrintMore2.isSome_setCell   -- for this text's walks alone
set_option linter.unusedVariables false
set_option linter.unusedSimpArgs false

/-! ### impl_takeBatch: function 83 -/
def impl_takeBatch.l0 : Nat → Int → ByteArray → Int → Int → Int → Int → Int → Int → Int → List ByteArray → Option (Int × Int × Int × Int × List ByteArray × Int × Bool)
 | 0, _, _, _, _, _, _, _, _, _, _ => none
 | k + 1, x1, x7, x9, x33, x34, x204000, x204001, x204002, x204003, x204004 => if x34 < x33 then (if x9 ≥ (x7.size : Int) then (some (0, 0, 0, 0, ([] : List ByteArray), 0, false)) else (if 0 ≤ x9 then (if x9 ≤ (wrap64 (x9 + 1)) then (if (wrap64 (x9 + 1)) ≤ (x7.size : Int) then ((impl_get.f k (x7.extract (x9 : Int).toNat ((wrap64 (x9 + 1)) : Int).toNat)).bind fun t205 => (if (wrap64 ((wrap64 (x9 + 1)) + t205)) > (x7.size : Int) then (some (0, 0, 0, 0, ([] : List ByteArray), 0, false)) else ((impl_get.f k (x7.extract (x9 : Int).toNat ((wrap64 (x9 + 1)) : Int).toNat)).bind fun t206 => (if 0 ≤ (wrap64 (x9 + 1)) then (if (wrap64 (x9 + 1)) ≤ (wrap64 ((wrap64 (x9 + 1)) + t206)) then (if (wrap64 ((wrap64 (x9 + 1)) + t206)) ≤ (x7.size : Int) then (if x204004.length < 8796093022208 then (impl_takeBatch.l0 k x1 x7 (wrap64 ((wrap64 (x9 + 1)) + t206)) x33 (wrap64 (x34 + 1)) x204000 x204001 x204002 x204003 (x204004 ++ [x7.extract ((wrap64 (x9 + 1)) : Int).toNat ((wrap64 ((wrap64 (x9 + 1)) + t206)) : Int).toNat])) else (none)) else (none)) else (none)) else (none))))) else (none)) else (none)) else (none))) else ((impl_isBatch.f x204000 x204001 x204002 x204003 x204004).bind fun t210 => (if t210 = true then ((impl_batchBytes.f k x204000 x204001 x204002 x204003 x204004).bind fun t211 => ((strings_HasPrefix.f x7 t211).bind fun t212 => (if t212 = true then (some (x204000, x204001, x204002, x204003, x204004, wrap64 ((wrap64 (x1 + x9)) + 2), true)) else (some (0, 0, 0, 0, ([] : List ByteArray), 0, false))))) else (some (0, 0, 0, 0, ([] : List ByteArray), 0, false))))
def impl_takeBatch.f (k : Nat) (a0 : ByteArray) (a1 : Int) : Option (Int × Int × Int × Int × List ByteArray × Int × Bool) := if 0 ≤ a1 then (if a1 ≤ (a0.size : Int) then (if ((a0.extract (a1 : Int).toNat a0.size).size : Int) < 12 then (some (0, 0, 0, 0, ([] : List ByteArray), 0, false)) else (if 2 ≤ 5 then (if 5 ≤ ((a0.extract (a1 : Int).toNat a0.size).size : Int) then ((impl_get.f k ((a0.extract (a1 : Int).toNat a0.size).extract 2 5)).bind fun t199 => (if 5 ≤ 7 then (if 7 ≤ ((a0.extract (a1 : Int).toNat a0.size).size : Int) then ((impl_get.f k ((a0.extract (a1 : Int).toNat a0.size).extract 5 7)).bind fun t200 => (if 7 ≤ 9 then (if 9 ≤ ((a0.extract (a1 : Int).toNat a0.size).size : Int) then ((impl_get.f k ((a0.extract (a1 : Int).toNat a0.size).extract 7 9)).bind fun t201 => (if 9 ≤ 11 then (if 11 ≤ ((a0.extract (a1 : Int).toNat a0.size).size : Int) then ((impl_get.f k ((a0.extract (a1 : Int).toNat a0.size).extract 9 11)).bind fun t202 => (if 11 ≤ 12 then (if 12 ≤ ((a0.extract (a1 : Int).toNat a0.size).size : Int) then ((impl_get.f k ((a0.extract (a1 : Int).toNat a0.size).extract 11 12)).bind fun t204 => (impl_takeBatch.l0 k a1 (a0.extract (a1 : Int).toNat a0.size) 12 t204 0 t199 t200 t201 t202 ([] : List ByteArray))) else (none)) else (none))) else (none)) else (none))) else (none)) else (none))) else (none)) else (none))) else (none)) else (none))) else (none)) else (none)
theorem impl_takeBatch.mono_l : ∀ k, (∀ y0 y1 y2 y3 y4 y5 y6 y7 y8 y9, LeO (impl_takeBatch.l0 k y0 y1 y2 y3 y4 y5 y6 y7 y8 y9) (impl_takeBatch.l0 (k + 1) y0 y1 y2 y3 y4 y5 y6 y7 y8 y9))
 | 0 => fun _ _ _ _ _ _ _ _ _ _ r h => by simp [impl_takeBatch.l0] at h
 | k + 1 => by
  have ih0 := impl_takeBatch.mono_l k
  ·intro y0 y1 y2 y3 y4 y5 y6 y7 y8 y9
   unfold impl_takeBatch.l0
   repeat' first
   | (with_reducible first | apply ih0 | apply impl_batchBytes.mono | apply impl_get.mono | exact LeO.refl _ | exact LeO.none _ | refine LeO.ite ?_ ?_ | refine LeO.bind ?_ (fun _ => ?_))
theorem impl_takeBatch.mono : ∀ a0 a1 k, LeO (impl_takeBatch.f k a0 a1) (impl_takeBatch.f (k + 1) a0 a1) := by
 intro a0 a1 k
 have ih0 := impl_takeBatch.mono_l k
 unfold impl_takeBatch.f
 repeat' first
   | (with_reducible first | apply ih0 | apply impl_batchBytes.mono | apply impl_get.mono | exact LeO.refl _ | exact LeO.none _ | refine LeO.ite ?_ ?_ | refine LeO.bind ?_ (fun _ => ?_))
def impl_takeBatch.T4 : Bool × List (List Nat × List Nat) := (true, [([], []), ([0], [0]), ([1], [1]), ([], []), ([3], [3]), ([4, 2], [4]), ([], []), ([6], [6]), ([7, 5], [7]), ([], []), ([9], [9]), ([10, 8], [10]), ([2, 5, 8, 11], [2, 5, 8, 11]), ([], []), ([13, 12, 11, 0, 1, 2, 3, 4, 5, 6, 7, 8, 9, 10, 11, 12, 13], [12, 13])])
def impl_takeBatch.B4 : List Nat := [0, 1, 3, 0, 8, 31, 0, 64, 255, 0, 512, 2047, 4095, 0, 16383]
theorem impl_takeBatch.tab4 : rtab .any (opsOf Try.f83 4) = impl_takeBatch.T4 := by kernel_rfl
theorem impl_takeBatch.bits4 : waitsOk impl_takeBatch.T4.2 impl_takeBatch.B4 = true := by kernel_rfl
def impl_takeBatch.T11 : Bool × List (List Nat × List Nat) := (true, [([], []), ([0], [0]), ([], []), ([], []), ([3], [3]), ([], []), ([2, 4, 5], [2, 4, 5]), ([6], [6]), ([1, 7], [1, 7]), ([0, 1, 2, 3, 4, 5, 6, 7, 8], []), ([9, 8, 8, 0, 1, 2, 3, 4, 5, 6, 7, 8], [8, 9])])
def impl_takeBatch.B11 : List Nat := [0, 1, 0, 0, 8, 0, 60, 124, 255, 511, 1023]
theorem impl_takeBatch.tab11 : rtab .any (opsOf Try.f83 11) = impl_takeBatch.T11 := by kernel_rfl
theorem impl_takeBatch.bits11 : waitsOk impl_takeBatch.T11.2 impl_takeBatch.B11 = true := by kernel_rfl
set_option maxHeartbeats 8000000 in
set_option maxRecDepth 100000 in
theorem impl_takeBatch.calls (k : Nat) (a0 : ByteArray) (a1 : Int) (r1 : Int) (r2 : Int) (r3 : Int) (r4 : Int) (r5 : List ByteArray) (r6 : Int) (r7 : Bool) (w : World) (h : impl_takeBatch.f k a0 a1 = some (r1, r2, r3, r4, r5, r6, r7)) :
  Calls Try.prog 83 #[.string a0, .int .i64 a1] w fun e w' => ∃ v4_ : Value, e = .returned (.tuple #[.agg #[.int .i64 r1, .int .i64 r2, .int .i64 r3, .int .i64 r4, v4_], .int .i64 r6, .bool r7]) ∧ Kd.R Kd.string 9 w' w.heap.size (fun _ => True) v4_ r5 ∧ Below w.heap.size w w' := by
 have hu44 := Try.underlying44
 have HB := Aside0.mk (Below.refl w.heap.size w)
 have H : (if 0 ≤ a1 then (if a1 ≤ (a0.size : Int) then (if ((a0.extract (a1 : Int).toNat a0.size).size : Int) < 12 then (some (0, 0, 0, 0, ([] : List ByteArray), 0, false)) else (if 2 ≤ 5 then (if 5 ≤ ((a0.extract (a1 : Int).toNat a0.size).size : Int) then ((impl_get.f k ((a0.extract (a1 : Int).toNat a0.size).extract 2 5)).bind fun t199 => (if 5 ≤ 7 then (if 7 ≤ ((a0.extract (a1 : Int).toNat a0.size).size : Int) then ((impl_get.f k ((a0.extract (a1 : Int).toNat a0.size).extract 5 7)).bind fun t200 => (if 7 ≤ 9 then (if 9 ≤ ((a0.extract (a1 : Int).toNat a0.size).size : Int) then ((impl_get.f k ((a0.extract (a1 : Int).toNat a0.size).extract 7 9)).bind fun t201 => (if 9 ≤ 11 then (if 11 ≤ ((a0.extract (a1 : Int).toNat a0.size).size : Int) then ((impl_get.f k ((a0.extract (a1 : Int).toNat a0.size).extract 9 11)).bind fun t202 => (if 11 ≤ 12 then (if 12 ≤ ((a0.extract (a1 : Int).toNat a0.size).size : Int) then ((impl_get.f k ((a0.extract (a1 : Int).toNat a0.size).extract 11 12)).bind fun t204 => (impl_takeBatch.l0 k a1 (a0.extract (a1 : Int).toNat a0.size) 12 t204 0 t199 t200 t201 t202 ([] : List ByteArray))) else (none)) else (none))) else (none)) else (none))) else (none)) else (none))) else (none)) else (none))) else (none)) else (none))) else (none)) else (none)) = some (r1, r2, r3, r4, r5, r6, r7) := h
 clear h
 replace H := ifs_ H
 obtain ⟨c3, H⟩ := H
 have c3b0 := eq_true c3
 have c3b1 := decide_eq_true c3
 clear c3
 replace H := ifs_ H
 obtain ⟨c4, H⟩ := H
 have c4b0 := eq_true c4
 have c4b1 := decide_eq_true c4
 clear c4
 replace H := ite_ H
 obtain ⟨c5, H⟩ | ⟨c5, H⟩ := H
 ·have c5b0 := decide_eq_true c5
  have c5b1 : decide ((a0.extract (a1 : Int).toNat a0.size).size < 12) = true := decide_eq_true (by omega)
  (try (have c5x0 := c5b0; simp only [ByteArray.size_extract, Nat.min_self] at c5x0))
  clear c5
  simp only [Option.some.injEq, Prod.mk.injEq] at H
  obtain ⟨rfl, rfl, rfl, rfl, rfl, rfl, rfl⟩ := H
  go_enter Try.func83, Try.ntmps83
  go_wp2_with (first | ((with_reducible refine gate_dst (N := 4) rfl ?_); (try (refine gate_guard (by rfl) ?_; dsimp only)); refine bq_ (N := 4) #[.int .i64 0, .int .i64 0, .int .i64 0, .int .i64 0, .slice none 0 0] 44 ?_; intro gb198 hg w6 BK198 hb; have GE198 := ge_ hg; replace HB := nb_ hb; clear hb hg; obtain ⟨hcz7_0, hcz7_1, hcz7_2, hcz7_3, hcz7_4, hfz7_0, hfz7_1, hfz7_2, hfz7_3, hfz7_4⟩ := cf5_ BK198.out))
  refine bodyPost_ret (results_ctt rfl _ _ gb198 44 #[.int .i64 0, .int .i64 0, .int .i64 0, .int .i64 0, .slice none 0 0] (0, 0) _ rfl (up_ BK198) Try.underlying44 rfl (by kernel_rfl)) rfl ?_
  exact ⟨_, er_, ni_, hs_ GE198.out⟩
 have c5b0 := decide_eq_false c5
 have c5b1 : decide ((a0.extract (a1 : Int).toNat a0.size).size < 12) = false := decide_eq_false (by omega)
 (try (have c5x0 := c5b0; simp only [ByteArray.size_extract, Nat.min_self] at c5x0))
 clear c5
 replace H := ifs_ H
 obtain ⟨c8, H⟩ := H
 have c8b0 := eq_true c8
 have c8b1 := decide_eq_true c8
 clear c8
 replace H := ifs_ H
 obtain ⟨c9, H⟩ := H
 have c9b0 := eq_true c9
 have c9b1 := decide_eq_true c9
 (try (have c9x0 := c9b0; simp only [ByteArray.size_extract, Nat.min_self] at c9x0))
 (try (have c9x1 := c9b1; simp only [ByteArray.size_extract, Nat.min_self] at c9x1))
 clear c9
 replace H := bnd_ H
 obtain ⟨t199, A10, H⟩ := H
 replace H := ifs_ H
 obtain ⟨c11, H⟩ := H
 have c11b0 := eq_true c11
 have c11b1 := decide_eq_true c11
 clear c11
 replace H := ifs_ H
 obtain ⟨c12, H⟩ := H
 have c12b0 := eq_true c12
 have c12b1 := decide_eq_true c12
 (try (have c12x0 := c12b0; simp only [ByteArray.size_extract, Nat.min_self] at c12x0))
 (try (have c12x1 := c12b1; simp only [ByteArray.size_extract, Nat.min_self] at c12x1))
 clear c12
 replace H := bnd_ H
 obtain ⟨t200, A13, H⟩ := H
 replace H := ifs_ H
 obtain ⟨c14, H⟩ := H
 have c14b0 := eq_true c14
 have c14b1 := decide_eq_true c14
 clear c14
 replace H := ifs_ H
 obtain ⟨c15, H⟩ := H
 have c15b0 := eq_true c15
 have c15b1 := decide_eq_true c15
 (try (have c15x0 := c15b0; simp only [ByteArray.size_extract, Nat.min_self] at c15x0))
 (try (have c15x1 := c15b1; simp only [ByteArray.size_extract, Nat.min_self] at c15x1))
 clear c15
 replace H := bnd_ H
 obtain ⟨t201, A16, H⟩ := H
 replace H := ifs_ H
 obtain ⟨c17, H⟩ := H
 have c17b0 := eq_true c17
 have c17b1 := decide_eq_true c17
 clear c17
 replace H := ifs_ H
 obtain ⟨c18, H⟩ := H
 have c18b0 := eq_true c18
 have c18b1 := decide_eq_true c18
 (try (have c18x0 := c18b0; simp only [ByteArray.size_extract, Nat.min_self] at c18x0))
 (try (have c18x1 := c18b1; simp only [ByteArray.size_extract, Nat.min_self] at c18x1))
 clear c18
 replace H := bnd_ H
 obtain ⟨t202, A19, H⟩ := H
 replace H := ifs_ H
 obtain ⟨c20, H⟩ := H
 have c20b0 := eq_true c20
 have c20b1 := decide_eq_true c20
 clear c20
 replace H := ifs_ H
 obtain ⟨c21, H⟩ := H
 have c21b0 := eq_true c21
 have c21b1 := decide_eq_true c21
 (try (have c21x0 := c21b0; simp only [ByteArray.size_extract, Nat.min_self] at c21x0))
 (try (have c21x1 := c21b1; simp only [ByteArray.size_extract, Nat.min_self] at c21x1))
 clear c21
 replace H := bnd_ H
 obtain ⟨t204, A22, H⟩ := H
 have H' := Aside0.mk H
 clear H
 go_enter Try.func83, Try.ntmps83
 try go_wp2_with (first | ((with_reducible refine gate_dst (N := 4) rfl ?_); (try (refine gate_guard (by rfl) ?_; dsimp only)); refine bq_ (N := 4) #[.int .i64 0, .int .i64 0, .int .i64 0, .int .i64 0, .slice none 0 0] 44 ?_; intro gb198 hg w23 BK198 hb; have GE198 := ge_ hg; replace HB := nb_ hb; clear hb hg))
 replace BK198 := qK_ BK198
 replace HB := qH_ HB
 refine start_ (n := 15) (S := fun w' => True) (ds := []) (List.replicate 15 false).toArray (by kernel_rfl) rfl rfl trivial (fun hHeld => ?_); refine with_tabW impl_takeBatch.tab4 impl_takeBatch.bits4 (fun HT_ HW_ => ?_)
 generalize w23.drew = w24 at BK198 HB hHeld ⊢
 refine pv_ 0 18 ?_
 refine pv_ 1 19 ?_
 refine pv_ 3 21 ?_
 refine pv_ 4 22 ?_
 refine pv_ 6 24 ?_
 refine pv_ 7 25 ?_
 refine pv_ 9 27 ?_
 refine pv_ 10 28 ?_
 refine join_ (σ := Nat) 1 #[true, true, true, true, true, true, true, true, true, true, true, true, true, true, false] (fun s_ => [(20, .int .i64 t199), (23, .int .i64 t200), (26, .int .i64 t201), (29, .int .i64 t202), (8, .pointer (some ⟨s_, 0, none⟩)), (30, .agg #[.int .i64 t199, .int .i64 t200, .int .i64 t201, .int .i64 t202, .slice none 0 0])]) (fun s_ w' => (w'.heap[gb198]? = some (.cells #[.int .i64 0, .int .i64 0, .int .i64 0, .int .i64 0, .slice none 0 0] 44 (0, 0))) ∧ (w'.heap[s_]? = some (.cells #[.int .i64 0, .int .i64 0, .int .i64 0, .int .i64 0, .slice none 0 0] 44 (0, 0))) ∧ (w.heap.size ≤ s_) ∧ (w.heap.size ≤ s_) ∧ (gb198 ≠ s_) ∧ (s_ ≠ gb198) ∧ (Below w.heap.size w w')) ?_ ?_
 rotate_left
 ·intro hJ2_5_8_11_13
  refine join_ (σ := Unit) 2 #[true, true, true, true, true, true, true, true, true, true, true, true, true, false, false] (fun s_ => [(20, .int .i64 t199), (23, .int .i64 t200), (26, .int .i64 t201), (29, .int .i64 t202), (30, .agg #[.int .i64 t199, .int .i64 t200, .int .i64 t201, .int .i64 t202, .slice none 0 0])]) (fun s_ w' => (w'.heap[gb198]? = some (.cells #[.int .i64 0, .int .i64 0, .int .i64 0, .int .i64 0, .slice none 0 0] 44 (0, 0))) ∧ (Below w.heap.size w w')) ?_ ?_
  rotate_left
  ·intro hJ2_5_8_11
   refine join_ (σ := Nat) 3 #[true, true, true, true, true, true, true, true, true, true, true, false, false, true, false] (fun s_ => [(20, .int .i64 t199), (23, .int .i64 t200), (26, .int .i64 t201), (8, .pointer (some ⟨s_, 0, none⟩))]) (fun s_ w' => (w'.heap[gb198]? = some (.cells #[.int .i64 0, .int .i64 0, .int .i64 0, .int .i64 0, .slice none 0 0] 44 (0, 0))) ∧ (w'.heap[s_]? = some (.cells #[.int .i64 0, .int .i64 0, .int .i64 0, .int .i64 0, .slice none 0 0] 44 (0, 0))) ∧ (w.heap.size ≤ s_) ∧ (w.heap.size ≤ s_) ∧ (gb198 ≠ s_) ∧ (s_ ≠ gb198) ∧ (Below w.heap.size w w')) ?_ ?_
   rotate_left
   ·intro hJ2_5_8_13
    refine join_ (σ := Unit) 4 #[true, true, true, true, true, true, true, true, true, true, true, false, false, false, false] (fun s_ => [(20, .int .i64 t199), (23, .int .i64 t200), (26, .int .i64 t201)]) (fun s_ w' => (w'.heap[gb198]? = some (.cells #[.int .i64 0, .int .i64 0, .int .i64 0, .int .i64 0, .slice none 0 0] 44 (0, 0))) ∧ (Below w.heap.size w w')) ?_ ?_
    rotate_left
    ·intro hJ2_5_8
     refine join_ (σ := Nat) 4 #[true, true, true, true, true, true, true, true, false, true, true, false, false, true, false] (fun s_ => [(20, .int .i64 t199), (23, .int .i64 t200), (8, .pointer (some ⟨s_, 0, none⟩))]) (fun s_ w' => (w'.heap[gb198]? = some (.cells #[.int .i64 0, .int .i64 0, .int .i64 0, .int .i64 0, .slice none 0 0] 44 (0, 0))) ∧ (w'.heap[s_]? = some (.cells #[.int .i64 0, .int .i64 0, .int .i64 0, .int .i64 0, .slice none 0 0] 44 (0, 0))) ∧ (w.heap.size ≤ s_) ∧ (w.heap.size ≤ s_) ∧ (gb198 ≠ s_) ∧ (s_ ≠ gb198) ∧ (Below w.heap.size w w')) ?_ ?_
     rotate_left
     ·intro hJ2_5_13
      refine join_ (σ := Unit) 5 #[true, true, true, true, true, true, true, true, false, true, true, false, false, false, false] (fun s_ => [(20, .int .i64 t199), (23, .int .i64 t200)]) (fun s_ w' => (w'.heap[gb198]? = some (.cells #[.int .i64 0, .int .i64 0, .int .i64 0, .int .i64 0, .slice none 0 0] 44 (0, 0))) ∧ (Below w.heap.size w w')) ?_ ?_
      rotate_left
      ·intro hJ2_5
       refine join_ (σ := Nat) 5 #[true, true, true, true, true, false, true, true, false, true, true, false, false, true, false] (fun s_ => [(20, .int .i64 t199), (8, .pointer (some ⟨s_, 0, none⟩))]) (fun s_ w' => (w'.heap[gb198]? = some (.cells #[.int .i64 0, .int .i64 0, .int .i64 0, .int .i64 0, .slice none 0 0] 44 (0, 0))) ∧ (w'.heap[s_]? = some (.cells #[.int .i64 0, .int .i64 0, .int .i64 0, .int .i64 0, .slice none 0 0] 44 (0, 0))) ∧ (w.heap.size ≤ s_) ∧ (w.heap.size ≤ s_) ∧ (gb198 ≠ s_) ∧ (s_ ≠ gb198) ∧ (Below w.heap.size w w')) ?_ ?_
       rotate_left
       ·intro hJ2_13
        refine join_ (σ := Unit) 6 #[true, true, true, true, true, false, true, true, false, true, true, false, false, false, false] (fun s_ => [(20, .int .i64 t199)]) (fun s_ w' => (w'.heap[gb198]? = some (.cells #[.int .i64 0, .int .i64 0, .int .i64 0, .int .i64 0, .slice none 0 0] 44 (0, 0))) ∧ (Below w.heap.size w w')) ?_ ?_
        rotate_left
        ·intro hJ2
         refine join_ (σ := Nat) 6 #[true, true, false, true, true, false, true, true, false, true, true, false, false, true, false] (fun s_ => [(8, .pointer (some ⟨s_, 0, none⟩))]) (fun s_ w' => (w'.heap[gb198]? = some (.cells #[.int .i64 0, .int .i64 0, .int .i64 0, .int .i64 0, .slice none 0 0] 44 (0, 0))) ∧ (w'.heap[s_]? = some (.cells #[.int .i64 0, .int .i64 0, .int .i64 0, .int .i64 0, .slice none 0 0] 44 (0, 0))) ∧ (w.heap.size ≤ s_) ∧ (w.heap.size ≤ s_) ∧ (gb198 ≠ s_) ∧ (s_ ≠ gb198) ∧ (Below w.heap.size w w')) ?_ ?_
         rotate_left
         ·intro hJ13
          refine two_ (i := 2) (j := 13) (Ni := some 20) (Nj := some 8) #[true, true, true, true, true, false, true, true, false, true, true, false, false, false, false] #[true, true, false, true, true, false, true, true, false, true, true, false, false, true, false] rfl rfl rfl rfl (two_of HT_.out (by kernel_rfl)) (by decide) (by decide) (fun K hK => ?_) (fun K hK => ?_)
          ·skip
           refine gs_ Try.func98 #[.string ((a0.extract (a1 : Int).toNat a0.size).extract 2 5)] rfl ma_ ?_
           with_reducible refine (impl_get.calls k ((a0.extract (a1 : Int).toNat a0.size).extract 2 5) t199 _ A10.out).mono ?_
           rintro e w' ⟨rfl, ⟨nd, rfl⟩⟩
           refine ⟨_, rfl, ?_⟩
           refine hK.out _ _ trivial (fun hHeld => ?_)
           clear hK K
           refine no_ ?_
           exact nq_ (hJ2 () _ ⟨(kb_ BK198.out), (hs_ GE198.out)⟩)
          ·skip
           refine bs_ (N := 8) #[.int .i64 0, .int .i64 0, .int .i64 0, .int .i64 0, .slice none 0 0] 44 ?_
           intro gb203 hg w25 hbox hb
           have BK203 := Aside0.mk (hbox)
           have GW203 := ge1_ hg GE198
           have GE203 := ge1_ hg GE198
           replace HB := nc_ GE198 hb
           have NB198_203 := nl_ BK198 hg
           have NB203_198 := ng_ BK198 hg
           replace BK198 := bK_ BK198 hb
           clear hb hbox hg
           refine hK.out _ _ trivial (fun hHeld => ?_)
           clear hK K
           refine no_ ?_
           exact nq_ (hJ13 (gb203) _ ⟨(kb_ BK198.out), (kb_ BK203.out), GW203.out, GE203.out, NB198_203.out, NB203_198.out, (hs2_ GE198.out GE203.out)⟩)
         ·skip
          rintro gb203 w26 ⟨h0_, h1_, h2_, h3_, h4_, h5_, h6_⟩
          have n0_ : Aside0 (w26.heap[gb198]? = some (.cells #[.int .i64 0, .int .i64 0, .int .i64 0, .int .i64 0, .slice none 0 0] 44 (0, 0))) := ⟨h0_⟩
          have n1_ : Aside0 (w26.heap[gb203]? = some (.cells #[.int .i64 0, .int .i64 0, .int .i64 0, .int .i64 0, .slice none 0 0] 44 (0, 0))) := ⟨h1_⟩
          have n2_ : Aside0 (w.heap.size ≤ gb203) := ⟨h2_⟩
          have n3_ : Aside0 (w.heap.size ≤ gb203) := ⟨h3_⟩
          have n4_ : Aside0 (gb198 ≠ gb203) := ⟨h4_⟩
          have n5_ : Aside0 (gb203 ≠ gb198) := ⟨h5_⟩
          have n6_ : Aside0 (Below w.heap.size w w26) := ⟨h6_⟩
          clear BK198
          clear HB
          clear h0_ h1_ h2_ h3_ h4_ h5_ h6_
          have BK198 := n0_
          have BK203 := n1_
          have GW203 := n2_
          have GE203 := n3_
          have NB198_203 := n4_
          have NB203_198 := n5_
          have HB := n6_
          clear n0_ n1_ n2_ n3_ n4_ n5_ n6_
          have hHeld := trivial
          refine np_ ?_
          refine on_ 2 20 (fun K hK => ?_)
          refine gs_ Try.func98 #[.string ((a0.extract (a1 : Int).toNat a0.size).extract 2 5)] rfl ma_ ?_
          with_reducible refine (impl_get.calls k ((a0.extract (a1 : Int).toNat a0.size).extract 2 5) t199 _ A10.out).mono ?_
          rintro e w' ⟨rfl, ⟨nd, rfl⟩⟩
          refine ⟨_, rfl, ?_⟩
          refine hK.out _ _ trivial (fun hHeld => ?_)
          clear hK K
          refine no_ ?_
          exact nq_ (hJ2_13 (gb203) _ ⟨(kb_ BK198.out), (kb_ BK203.out), GW203.out, GE203.out, NB198_203.out, NB203_198.out, (hs2_ GE198.out GE203.out)⟩)
        ·skip
         rintro _ w25 ⟨h0_, h1_⟩
         have n0_ : Aside0 (w25.heap[gb198]? = some (.cells #[.int .i64 0, .int .i64 0, .int .i64 0, .int .i64 0, .slice none 0 0] 44 (0, 0))) := ⟨h0_⟩
         have n1_ : Aside0 (Below w.heap.size w w25) := ⟨h1_⟩
         clear BK198
         clear HB
         clear h0_ h1_
         have BK198 := n0_
         have HB := n1_
         clear n0_ n1_
         have hHeld := trivial
         refine np_ ?_
         refine two_ (i := 5) (j := 13) (Ni := some 23) (Nj := some 8) #[true, true, true, true, true, true, true, true, false, true, true, false, false, false, false] #[true, true, true, true, true, false, true, true, false, true, true, false, false, true, false] rfl rfl rfl rfl (two_of HT_.out (by kernel_rfl)) (by decide) (by decide) (fun K hK => ?_) (fun K hK => ?_)
         ·skip
          refine gs_ Try.func98 #[.string ((a0.extract (a1 : Int).toNat a0.size).extract 5 7)] rfl ma_ ?_
          with_reducible refine (impl_get.calls k ((a0.extract (a1 : Int).toNat a0.size).extract 5 7) t200 _ A13.out).mono ?_
          rintro e w' ⟨rfl, ⟨nd, rfl⟩⟩
          refine ⟨_, rfl, ?_⟩
          refine hK.out _ _ trivial (fun hHeld => ?_)
          clear hK K
          refine no_ ?_
          exact nq_ (hJ2_5 () _ ⟨(kb_ BK198.out), (hs_ GE198.out)⟩)
         ·skip
          refine bs_ (N := 8) #[.int .i64 0, .int .i64 0, .int .i64 0, .int .i64 0, .slice none 0 0] 44 ?_
          intro gb203 hg w26 hbox hb
          have BK203 := Aside0.mk (hbox)
          have GW203 := ge1_ hg GE198
          have GE203 := ge1_ hg GE198
          replace HB := nc_ GE198 hb
          have NB198_203 := nl_ BK198 hg
          have NB203_198 := ng_ BK198 hg
          replace BK198 := bK_ BK198 hb
          clear hb hbox hg
          refine hK.out _ _ trivial (fun hHeld => ?_)
          clear hK K
          refine no_ ?_
          exact nq_ (hJ2_13 (gb203) _ ⟨(kb_ BK198.out), (kb_ BK203.out), GW203.out, GE203.out, NB198_203.out, NB203_198.out, (hs2_ GE198.out GE203.out)⟩)
       ·skip
        rintro gb203 w26 ⟨h0_, h1_, h2_, h3_, h4_, h5_, h6_⟩
        have n0_ : Aside0 (w26.heap[gb198]? = some (.cells #[.int .i64 0, .int .i64 0, .int .i64 0, .int .i64 0, .slice none 0 0] 44 (0, 0))) := ⟨h0_⟩
        have n1_ : Aside0 (w26.heap[gb203]? = some (.cells #[.int .i64 0, .int .i64 0, .int .i64 0, .int .i64 0, .slice none 0 0] 44 (0, 0))) := ⟨h1_⟩
        have n2_ : Aside0 (w.heap.size ≤ gb203) := ⟨h2_⟩
        have n3_ : Aside0 (w.heap.size ≤ gb203) := ⟨h3_⟩
        have n4_ : Aside0 (gb198 ≠ gb203) := ⟨h4_⟩
        have n5_ : Aside0 (gb203 ≠ gb198) := ⟨h5_⟩
        have n6_ : Aside0 (Below w.heap.size w w26) := ⟨h6_⟩
        clear BK198
        clear HB
        clear h0_ h1_ h2_ h3_ h4_ h5_ h6_
        have BK198 := n0_
        have BK203 := n1_
        have GW203 := n2_
        have GE203 := n3_
        have NB198_203 := n4_
        have NB203_198 := n5_
        have HB := n6_
        clear n0_ n1_ n2_ n3_ n4_ n5_ n6_
        have hHeld := trivial
        refine np_ ?_
        refine on_ 5 23 (fun K hK => ?_)
        refine gs_ Try.func98 #[.string ((a0.extract (a1 : Int).toNat a0.size).extract 5 7)] rfl ma_ ?_
        with_reducible refine (impl_get.calls k ((a0.extract (a1 : Int).toNat a0.size).extract 5 7) t200 _ A13.out).mono ?_
        rintro e w' ⟨rfl, ⟨nd, rfl⟩⟩
        refine ⟨_, rfl, ?_⟩
        refine hK.out _ _ trivial (fun hHeld => ?_)
        clear hK K
        refine no_ ?_
        exact nq_ (hJ2_5_13 (gb203) _ ⟨(kb_ BK198.out), (kb_ BK203.out), GW203.out, GE203.out, NB198_203.out, NB203_198.out, (hs2_ GE198.out GE203.out)⟩)
      ·skip
       rintro _ w25 ⟨h0_, h1_⟩
       have n0_ : Aside0 (w25.heap[gb198]? = some (.cells #[.int .i64 0, .int .i64 0, .int .i64 0, .int .i64 0, .slice none 0 0] 44 (0, 0))) := ⟨h0_⟩
       have n1_ : Aside0 (Below w.heap.size w w25) := ⟨h1_⟩
       clear BK198
       clear HB
       clear h0_ h1_
       have BK198 := n0_
       have HB := n1_
       clear n0_ n1_
       have hHeld := trivial
       refine np_ ?_
       refine two_ (i := 8) (j := 13) (Ni := some 26) (Nj := some 8) #[true, true, true, true, true, true, true, true, true, true, true, false, false, false, false] #[true, true, true, true, true, true, true, true, false, true, true, false, false, true, false] rfl rfl rfl rfl (two_of HT_.out (by kernel_rfl)) (by decide) (by decide) (fun K hK => ?_) (fun K hK => ?_)
       ·skip
        refine gs_ Try.func98 #[.string ((a0.extract (a1 : Int).toNat a0.size).extract 7 9)] rfl ma_ ?_
        with_reducible refine (impl_get.calls k ((a0.extract (a1 : Int).toNat a0.size).extract 7 9) t201 _ A16.out).mono ?_
        rintro e w' ⟨rfl, ⟨nd, rfl⟩⟩
        refine ⟨_, rfl, ?_⟩
        refine hK.out _ _ trivial (fun hHeld => ?_)
        clear hK K
        refine no_ ?_
        exact nq_ (hJ2_5_8 () _ ⟨(kb_ BK198.out), (hs_ GE198.out)⟩)
       ·skip
        refine bs_ (N := 8) #[.int .i64 0, .int .i64 0, .int .i64 0, .int .i64 0, .slice none 0 0] 44 ?_
        intro gb203 hg w26 hbox hb
        have BK203 := Aside0.mk (hbox)
        have GW203 := ge1_ hg GE198
        have GE203 := ge1_ hg GE198
        replace HB := nc_ GE198 hb
        have NB198_203 := nl_ BK198 hg
        have NB203_198 := ng_ BK198 hg
        replace BK198 := bK_ BK198 hb
        clear hb hbox hg
        refine hK.out _ _ trivial (fun hHeld => ?_)
        clear hK K
        refine no_ ?_
        exact nq_ (hJ2_5_13 (gb203) _ ⟨(kb_ BK198.out), (kb_ BK203.out), GW203.out, GE203.out, NB198_203.out, NB203_198.out, (hs2_ GE198.out GE203.out)⟩)
     ·skip
      rintro gb203 w26 ⟨h0_, h1_, h2_, h3_, h4_, h5_, h6_⟩
      have n0_ : Aside0 (w26.heap[gb198]? = some (.cells #[.int .i64 0, .int .i64 0, .int .i64 0, .int .i64 0, .slice none 0 0] 44 (0, 0))) := ⟨h0_⟩
      have n1_ : Aside0 (w26.heap[gb203]? = some (.cells #[.int .i64 0, .int .i64 0, .int .i64 0, .int .i64 0, .slice none 0 0] 44 (0, 0))) := ⟨h1_⟩
      have n2_ : Aside0 (w.heap.size ≤ gb203) := ⟨h2_⟩
      have n3_ : Aside0 (w.heap.size ≤ gb203) := ⟨h3_⟩
      have n4_ : Aside0 (gb198 ≠ gb203) := ⟨h4_⟩
      have n5_ : Aside0 (gb203 ≠ gb198) := ⟨h5_⟩
      have n6_ : Aside0 (Below w.heap.size w w26) := ⟨h6_⟩
      clear BK198
      clear HB
      clear h0_ h1_ h2_ h3_ h4_ h5_ h6_
      have BK198 := n0_
      have BK203 := n1_
      have GW203 := n2_
      have GE203 := n3_
      have NB198_203 := n4_
      have NB203_198 := n5_
      have HB := n6_
      clear n0_ n1_ n2_ n3_ n4_ n5_ n6_
      have hHeld := trivial
      refine np_ ?_
      refine on_ 8 26 (fun K hK => ?_)
      refine gs_ Try.func98 #[.string ((a0.extract (a1 : Int).toNat a0.size).extract 7 9)] rfl ma_ ?_
      with_reducible refine (impl_get.calls k ((a0.extract (a1 : Int).toNat a0.size).extract 7 9) t201 _ A16.out).mono ?_
      rintro e w' ⟨rfl, ⟨nd, rfl⟩⟩
      refine ⟨_, rfl, ?_⟩
      refine hK.out _ _ trivial (fun hHeld => ?_)
      clear hK K
      refine no_ ?_
      exact nq_ (hJ2_5_8_13 (gb203) _ ⟨(kb_ BK198.out), (kb_ BK203.out), GW203.out, GE203.out, NB198_203.out, NB203_198.out, (hs2_ GE198.out GE203.out)⟩)
    ·skip
     rintro _ w25 ⟨h0_, h1_⟩
     have n0_ : Aside0 (w25.heap[gb198]? = some (.cells #[.int .i64 0, .int .i64 0, .int .i64 0, .int .i64 0, .slice none 0 0] 44 (0, 0))) := ⟨h0_⟩
     have n1_ : Aside0 (Below w.heap.size w w25) := ⟨h1_⟩
     clear BK198
     clear HB
     clear h0_ h1_
     have BK198 := n0_
     have HB := n1_
     clear n0_ n1_
     have hHeld := trivial
     refine np_ ?_
     refine two_ (i := 11) (j := 13) (Ni := some 29) (Nj := some 8) #[true, true, true, true, true, true, true, true, true, true, true, true, false, false, false] #[true, true, true, true, true, true, true, true, true, true, true, false, false, true, false] rfl rfl rfl rfl (two_of HT_.out (by kernel_rfl)) (by decide) (by decide) (fun K hK => ?_) (fun K hK => ?_)
     ·skip
      refine gs_ Try.func98 #[.string ((a0.extract (a1 : Int).toNat a0.size).extract 9 11)] rfl ma_ ?_
      with_reducible refine (impl_get.calls k ((a0.extract (a1 : Int).toNat a0.size).extract 9 11) t202 _ A19.out).mono ?_
      rintro e w' ⟨rfl, ⟨nd, rfl⟩⟩
      refine ⟨_, rfl, ?_⟩
      refine hK.out _ _ trivial (fun hHeld => ?_)
      clear hK K
      refine no_ ?_
      refine pv_ 12 30 ?_
      exact nq_ (hJ2_5_8_11 () _ ⟨(kb_ BK198.out), (hs_ GE198.out)⟩)
     ·skip
      refine bs_ (N := 8) #[.int .i64 0, .int .i64 0, .int .i64 0, .int .i64 0, .slice none 0 0] 44 ?_
      intro gb203 hg w26 hbox hb
      have BK203 := Aside0.mk (hbox)
      have GW203 := ge1_ hg GE198
      have GE203 := ge1_ hg GE198
      replace HB := nc_ GE198 hb
      have NB198_203 := nl_ BK198 hg
      have NB203_198 := ng_ BK198 hg
      replace BK198 := bK_ BK198 hb
      clear hb hbox hg
      refine hK.out _ _ trivial (fun hHeld => ?_)
      clear hK K
      refine no_ ?_
      exact nq_ (hJ2_5_8_13 (gb203) _ ⟨(kb_ BK198.out), (kb_ BK203.out), GW203.out, GE203.out, NB198_203.out, NB203_198.out, (hs2_ GE198.out GE203.out)⟩)
   ·skip
    rintro gb203 w26 ⟨h0_, h1_, h2_, h3_, h4_, h5_, h6_⟩
    have n0_ : Aside0 (w26.heap[gb198]? = some (.cells #[.int .i64 0, .int .i64 0, .int .i64 0, .int .i64 0, .slice none 0 0] 44 (0, 0))) := ⟨h0_⟩
    have n1_ : Aside0 (w26.heap[gb203]? = some (.cells #[.int .i64 0, .int .i64 0, .int .i64 0, .int .i64 0, .slice none 0 0] 44 (0, 0))) := ⟨h1_⟩
    have n2_ : Aside0 (w.heap.size ≤ gb203) := ⟨h2_⟩
    have n3_ : Aside0 (w.heap.size ≤ gb203) := ⟨h3_⟩
    have n4_ : Aside0 (gb198 ≠ gb203) := ⟨h4_⟩
    have n5_ : Aside0 (gb203 ≠ gb198) := ⟨h5_⟩
    have n6_ : Aside0 (Below w.heap.size w w26) := ⟨h6_⟩
    clear BK198
    clear HB
    clear h0_ h1_ h2_ h3_ h4_ h5_ h6_
    have BK198 := n0_
    have BK203 := n1_
    have GW203 := n2_
    have GE203 := n3_
    have NB198_203 := n4_
    have NB203_198 := n5_
    have HB := n6_
    clear n0_ n1_ n2_ n3_ n4_ n5_ n6_
    have hHeld := trivial
    refine np_ ?_
    refine on_ 11 29 (fun K hK => ?_)
    refine gs_ Try.func98 #[.string ((a0.extract (a1 : Int).toNat a0.size).extract 9 11)] rfl ma_ ?_
    with_reducible refine (impl_get.calls k ((a0.extract (a1 : Int).toNat a0.size).extract 9 11) t202 _ A19.out).mono ?_
    rintro e w' ⟨rfl, ⟨nd, rfl⟩⟩
    refine ⟨_, rfl, ?_⟩
    refine hK.out _ _ trivial (fun hHeld => ?_)
    clear hK K
    refine no_ ?_
    refine pv_ 12 30 ?_
    exact nq_ (hJ2_5_8_11_13 (gb203) _ ⟨(kb_ BK198.out), (kb_ BK203.out), GW203.out, GE203.out, NB198_203.out, NB203_198.out, (hs2_ GE198.out GE203.out)⟩)
  ·skip
   rintro _ w25 ⟨h0_, h1_⟩
   have n0_ : Aside0 (w25.heap[gb198]? = some (.cells #[.int .i64 0, .int .i64 0, .int .i64 0, .int .i64 0, .slice none 0 0] 44 (0, 0))) := ⟨h0_⟩
   have n1_ : Aside0 (Below w.heap.size w w25) := ⟨h1_⟩
   clear BK198
   clear HB
   clear h0_ h1_
   have BK198 := n0_
   have HB := n1_
   clear n0_ n1_
   have hHeld := trivial
   refine np_ ?_
   refine on_ 13 8 (fun K hK => ?_)
   refine bs_ (N := 8) #[.int .i64 0, .int .i64 0, .int .i64 0, .int .i64 0, .slice none 0 0] 44 ?_
   intro gb203 hg w26 hbox hb
   have BK203 := Aside0.mk (hbox)
   have GW203 := ge1_ hg GE198
   have GE203 := ge1_ hg GE198
   replace HB := nc_ GE198 hb
   have NB198_203 := nl_ BK198 hg
   have NB203_198 := ng_ BK198 hg
   replace BK198 := bK_ BK198 hb
   clear hb hbox hg
   refine hK.out _ _ trivial (fun hHeld => ?_)
   clear hK K
   refine no_ ?_
   exact nq_ (hJ2_5_8_11_13 (gb203) _ ⟨(kb_ BK198.out), (kb_ BK203.out), GW203.out, GE203.out, NB198_203.out, NB203_198.out, (hs2_ GE198.out GE203.out)⟩)
 rintro gb203 w26 ⟨h0_, h1_, h2_, h3_, h4_, h5_, h6_⟩
 have n0_ : Aside0 (w26.heap[gb198]? = some (.cells #[.int .i64 0, .int .i64 0, .int .i64 0, .int .i64 0, .slice none 0 0] 44 (0, 0))) := ⟨h0_⟩
 have n1_ : Aside0 (w26.heap[gb203]? = some (.cells #[.int .i64 0, .int .i64 0, .int .i64 0, .int .i64 0, .slice none 0 0] 44 (0, 0))) := ⟨h1_⟩
 have n2_ : Aside0 (w.heap.size ≤ gb203) := ⟨h2_⟩
 have n3_ : Aside0 (w.heap.size ≤ gb203) := ⟨h3_⟩
 have n4_ : Aside0 (gb198 ≠ gb203) := ⟨h4_⟩
 have n5_ : Aside0 (gb203 ≠ gb198) := ⟨h5_⟩
 have n6_ : Aside0 (Below w.heap.size w w26) := ⟨h6_⟩
 clear BK198
 clear HB
 clear h0_ h1_ h2_ h3_ h4_ h5_ h6_
 have BK198 := n0_
 have BK203 := n1_
 have GW203 := n2_
 have GE203 := n3_
 have NB198_203 := n4_
 have NB203_198 := n5_
 have HB := n6_
 clear n0_ n1_ n2_ n3_ n4_ n5_ n6_
 have hHeld := trivial
 refine np_ ?_
 refine one_ (i := 14) (N := none) #[true, true, true, true, true, true, true, true, true, true, true, true, true, true, true] rfl rfl (one_of HT_.out (by kernel_rfl)) (by decide) (fun K hK => ?_)
 obtain ⟨hs27, hfs27⟩ := cf1_ BK203.out
 have hns27_0 := NB198_203.out
 have hms27_0 := NB203_198.out
 have hs28 : w26.cell? ⟨gb203, 1, none⟩ = some (.int .i64 0) := bt_ BK203 1
 have hfs28 := blk_frozen BK203.out 1
 have hns28_0 := NB198_203.out
 have hms28_0 := NB203_198.out
 have hs29 : w26.cell? ⟨gb203, 2, none⟩ = some (.int .i64 0) := bt_ BK203 2
 have hfs29 := blk_frozen BK203.out 2
 have hns29_0 := NB198_203.out
 have hms29_0 := NB203_198.out
 have hs30 : w26.cell? ⟨gb203, 3, none⟩ = some (.int .i64 0) := bt_ BK203 3
 have hfs30 := blk_frozen BK203.out 3
 have hns30_0 := NB198_203.out
 have hms30_0 := NB203_198.out
 have hs31 : w26.cell? ⟨gb203, 4, none⟩ = some (.slice none 0 0) := bt_ BK203 4
 have hfs31 := blk_frozen BK203.out 4
 have hns31_0 := NB198_203.out
 have hms31_0 := NB203_198.out
 refine skip_ (w1 := ?_) (by rfl) rfl ?_ ?_
 rotate_left
 ·go_simp
  rfl
 refine hK.out _ _ trivial (fun hHeld => ?_)
 clear hK K
 refine done_ (done_of HT_.out (by kernel_rfl)) ?_
 try go_wp2_with (first | ((with_reducible refine gate_callee (f := 98) rfl ?_); refine gl_ 33 Try.func98 #[.string ((a0.extract (a1 : Int).toNat a0.size).extract 11 12)] rfl ma_ ?_; (with_reducible refine (impl_get.calls k ((a0.extract (a1 : Int).toNat a0.size).extract 11 12) t204 _ A22.out).mono ?_); rintro e w' ⟨rfl, ⟨nd, rfl⟩⟩; refine ⟨_, rfl, ?_⟩))
 go_loopg [9, 34] k (fun kq v9 v34 w' => ∃ (x9_1 : Int) (x34_1 : Int) (x199000_1 : Int) (x199001_1 : Int) (x199002_1 : Int) (x199003_1 : Int) (x204004_1 : List ByteArray) (u204004 : Value), v9 = .int .i64 x9_1 ∧ v34 = .int .i64 x34_1 ∧ Aside0 (impl_takeBatch.l0 kq a1 (a0.extract (a1 : Int).toNat a0.size) x9_1 t204 x34_1 t199 t200 t201 t202 x204004_1 = some (r1, r2, r3, r4, r5, r6, r7)) ∧ Aside0 (kq ≤ k) ∧ Aside0 (Kd.R Kd.string 9 w' w.heap.size (fun _ => True) u204004 x204004_1) ∧ Aside0 (w'.heap[gb198]? = some (.cells #[.int .i64 x199000_1, .int .i64 x199001_1, .int .i64 x199002_1, .int .i64 x199003_1, (.slice none 0 0)] 44 (0, 0))) ∧ Aside0 (w'.heap[gb203]? = some (.cells #[.int .i64 t199, .int .i64 t200, .int .i64 t201, .int .i64 t202, u204004] 44 (0, 0))) ∧ Aside0 (Below w.heap.size w w'))
 case atStart => exact ⟨(12), (0), (0), (0), (0), (0), (([] : List ByteArray)), (.slice none 0 0), sr_, sr_, H', ⟨Nat.le_refl _⟩, ⟨ni_⟩, ⟨uf_ BK198 NB198_203.out⟩, ⟨up_ BK203⟩, ⟨hs2_ GE198.out GE203.out⟩⟩
 case round =>
  clear H'
  try clear c8
  try clear c9
  try clear c21
  try clear c21b0
  try clear c21b1
  obtain ⟨x9_1, x34_1, x199000_1, x199001_1, x199002_1, x199003_1, x204004_1, u204004, rfl, rfl, HA, HK1, HO_204004, BK198, BK203, HB⟩ := hrel
  cases gk with
  | zero => exact absurd HA.out (by simp [impl_takeBatch.l0])
  | succ k1 =>
   have H := HA.out
   clear HA
   simp only [impl_takeBatch.l0] at H
   replace H := ite_ H
   obtain ⟨c32, H⟩ | ⟨c32, H⟩ := H
   ·have c32b0 := decide_eq_true c32
    clear c32
    replace H := ite_ H
    obtain ⟨c33, H⟩ | ⟨c33, H⟩ := H
    ·have c33b0 := dge_ c33
     (try (have c33x0 := c33b0; simp only [ByteArray.size_extract, Nat.min_self] at c33x0))
     clear c33
     simp only [Option.some.injEq, Prod.mk.injEq] at H
     obtain ⟨rfl, rfl, rfl, rfl, rfl, rfl, rfl⟩ := H
     have hnb34 := NB198_203.out
     have hnc34 := NB203_198.out
     obtain ⟨hcz35_0, hcz35_1, hcz35_2, hcz35_3, hcz35_4, hfz35_0, hfz35_1, hfz35_2, hfz35_3, hfz35_4⟩ := cf5_ BK198.out
     go_wp2
     refine bodyPost_ret (results_ctt rfl _ _ gb198 44 #[.int .i64 0, .int .i64 0, .int .i64 0, .int .i64 0, .slice none 0 0] (0, 0) _ rfl (up_ BK198) Try.underlying44 rfl (by kernel_rfl)) rfl ?_
     exact ⟨_, er_, ni_, hs2_ GE198.out GE203.out⟩
    have c33b0 := dne_ c33
    (try (have c33x0 := c33b0; simp only [ByteArray.size_extract, Nat.min_self] at c33x0))
    clear c33
    replace H := ifs_ H
    obtain ⟨c36, H⟩ := H
    have c36b0 := eq_true c36
    have c36b1 := decide_eq_true c36
    clear c36
    replace H := ifs_ H
    obtain ⟨c37, H⟩ := H
    have c37b0 := eq_true c37
    have c37b1 := decide_eq_true c37
    replace H := ifs_ H
    obtain ⟨c38, H⟩ := H
    have c38b0 := eq_true c38
    have c38b1 := decide_eq_true c38
    (try (have c38x0 := c38b0; simp only [ByteArray.size_extract, Nat.min_self] at c38x0))
    (try (have c38x1 := c38b1; simp only [ByteArray.size_extract, Nat.min_self] at c38x1))
    replace H := bnd_ H
    obtain ⟨t205, A39, H⟩ := H
    replace H := ite_ H
    obtain ⟨c40, H⟩ | ⟨c40, H⟩ := H
    ·have c40b0 := dgt_ c40
     (try (have c40x0 := c40b0; simp only [ByteArray.size_extract, Nat.min_self] at c40x0))
     clear c40
     simp only [Option.some.injEq, Prod.mk.injEq] at H
     obtain ⟨rfl, rfl, rfl, rfl, rfl, rfl, rfl⟩ := H
     go_wp2_with (first | (go_at_call 98; (with_reducible refine (impl_get.calls k1 ((a0.extract (a1 : Int).toNat a0.size).extract (x9_1 : Int).toNat ((wrap64 (x9_1 + 1)) : Int).toNat) t205 _ A39.out).mono ?_); rintro e w' ⟨rfl, ⟨nd, rfl⟩⟩; (try (rw [drewN_self wr]; replace HO_204004 := dR_ nd HO_204004; replace BK198 := dK_ nd BK198; replace BK203 := dK_ nd BK203; replace HB := dH_ nd HB; generalize World.drewN wr nd = wr at HO_204004 BK198 BK203 HB ⊢)); have hnb41 := NB198_203.out; have hnc41 := NB203_198.out; obtain ⟨hcz42_0, hcz42_1, hcz42_2, hcz42_3, hcz42_4, hfz42_0, hfz42_1, hfz42_2, hfz42_3, hfz42_4⟩ := cf5_ BK198.out))
     refine bodyPost_ret (results_ctt rfl _ _ gb198 44 #[.int .i64 0, .int .i64 0, .int .i64 0, .int .i64 0, .slice none 0 0] (0, 0) _ rfl (up_ BK198) Try.underlying44 rfl (by kernel_rfl)) rfl ?_
     exact ⟨_, er_, ni_, hs2_ GE198.out GE203.out⟩
    have c40b0 := dgf_ c40
    (try (have c40x0 := c40b0; simp only [ByteArray.size_extract, Nat.min_self] at c40x0))
    clear c40
    have c43b0 := eq_true (oa_ : 0 ≤ x9_1)
    have c44b0 := eq_true (oa_ : x9_1 ≤ (wrap64 (x9_1 + 1)))
    have c45b0 := eq_true (oa_ : (wrap64 (x9_1 + 1)) ≤ ((a0.extract (a1 : Int).toNat a0.size).size : Int))
    replace H := bnd_ H
    obtain ⟨t206, A46, H⟩ := H
    obtain ⟨ji47, hji47⟩ : ∃ j_ : Int, (wrap64 (x9_1 + 1)) = j_ := ⟨_, rfl⟩
    first | rw [hji47] at H | simp only [hji47] at H
    (try rw [hji47] at c37b0)
    (try rw [hji47] at c37b1)
    (try rw [hji47] at c37)
    (try rw [hji47] at c38b0)
    (try rw [hji47] at c38x0)
    (try rw [hji47] at c38b1)
    (try rw [hji47] at c38x1)
    (try rw [hji47] at c38)
    (try rw [hji47] at c40b0)
    (try rw [hji47] at c40x0)
    (try rw [hji47] at A39)
    (try rw [hji47] at A46)
    have hji47w : (IntKind.i64.wrap (x9_1 + 1)) = ji47 := (i64_w _).trans hji47
    replace H := ifs_ H
    obtain ⟨c48, H⟩ := H
    have c48b0 := eq_true c48
    have c48b1 := decide_eq_true c48
    clear c48
    replace H := ifs_ H
    obtain ⟨c49, H⟩ := H
    have c49b0 := eq_true c49
    have c49b1 := decide_eq_true c49
    replace H := ifs_ H
    obtain ⟨c50, H⟩ := H
    have c50b0 := eq_true c50
    have c50b1 := decide_eq_true c50
    (try (have c50x0 := c50b0; simp only [ByteArray.size_extract, Nat.min_self] at c50x0))
    (try (have c50x1 := c50b1; simp only [ByteArray.size_extract, Nat.min_self] at c50x1))
    replace H := ifs_ H
    obtain ⟨c51, H⟩ := H
    have LMc51 := Aside0.mk c51
    clear c51
    obtain ⟨y207, hy207⟩ : ∃ y_ : List ByteArray, y_ = (x204004_1 ++ [(a0.extract (a1 : Int).toNat a0.size).extract ((ji47) : Int).toNat ((wrap64 ((ji47) + t206)) : Int).toNat]) := ⟨_, rfl⟩
    replace H : (impl_takeBatch.l0 k1 a1 (a0.extract (a1 : Int).toNat a0.size) (wrap64 ((ji47) + t206)) t204 (wrap64 (x34_1 + 1)) t199 t200 t201 t202 y207) = some (r1, r2, r3, r4, r5, r6, r7) := by first | (rw [hy207]; with_reducible exact H) | (have H2_ := (Option.bind_some _ _).symm.trans H; rw [hy207]; with_reducible exact H2_) | (have H2_ := (Option.bind_some _ _).symm.trans H; with_reducible exact H2_) | with_reducible exact H | (rw [hy207]; exact H) | exact H
    have Ny207 := Aside0.mk hy207
    clear hy207
    have H' := Aside0.mk H
    clear H
    try go_wp2_with (first | (go_at_call 98; (with_reducible refine (impl_get.calls k1 ((a0.extract (a1 : Int).toNat a0.size).extract (x9_1 : Int).toNat ((ji47) : Int).toNat) t205 _ A39.out).mono ?_); rintro e w' ⟨rfl, ⟨nd, rfl⟩⟩; (try (rw [drewN_self wr]; replace HO_204004 := dR_ nd HO_204004; replace BK198 := dK_ nd BK198; replace BK203 := dK_ nd BK203; replace HB := dH_ nd HB; generalize World.drewN wr nd = wr at HO_204004 BK198 BK203 HB ⊢))) | ((with_reducible refine gate_callee (f := 98) rfl ?_); refine gl_ 62 Try.func98 #[.string ((a0.extract (a1 : Int).toNat a0.size).extract (x9_1 : Int).toNat ((ji47) : Int).toNat)] rfl (mb_ hji47) ?_; (with_reducible refine (impl_get.calls k1 ((a0.extract (a1 : Int).toNat a0.size).extract (x9_1 : Int).toNat ((ji47) : Int).toNat) t206 _ A46.out).mono ?_); rintro e w' ⟨rfl, ⟨nd, rfl⟩⟩; refine ⟨_, rfl, ?_⟩; (try (rw [drewN_self wr]; replace HO_204004 := dR_ nd HO_204004; replace BK198 := dK_ nd BK198; replace BK203 := dK_ nd BK203; replace HB := dH_ nd HB; generalize World.drewN wr nd = wr at HO_204004 BK198 BK203 HB ⊢))))
    replace HO_204004 := qR_ HO_204004
    replace BK198 := qK_ BK198
    replace BK203 := qK_ BK203
    replace HB := qH_ HB
    refine start_ (n := 11) (S := fun w' => w'.cell? ⟨gb203, 0, none⟩ = some (.int .i64 t199) ∧ w'.cell? ⟨gb203, 1, none⟩ = some (.int .i64 t200) ∧ w'.cell? ⟨gb203, 2, none⟩ = some (.int .i64 t201) ∧ w'.cell? ⟨gb203, 3, none⟩ = some (.int .i64 t202) ∧ w'.cell? ⟨gb203, 4, none⟩ = some (u204004)) (ds := [10]) (List.replicate 11 false).toArray (by kernel_rfl) rfl rfl ⟨bt_ BK203 0, bt_ BK203 1, bt_ BK203 2, bt_ BK203 3, bt_ BK203 4⟩ (fun hHeld => ?_); refine with_tabW impl_takeBatch.tab11 impl_takeBatch.bits11 (fun HT_ HW_ => ?_)
    generalize wr.drew = w52 at HO_204004 BK198 BK203 HB hHeld ⊢
    refine pv_ 0 64 ?_
    refine pv_ 2 66 ?_
    refine pv_ 3 67 ?_
    refine pv_ 4 68 ?_
    refine pv_ 5 69 ?_
    refine pv_ 6 70 ?_
    refine tk_ 1 65 ?_
    refine on_ 7 71 (fun K hK => ?_)
    refine value_ (w1 := ?_) (v := ?_) (by rfl) rfl ?_ ?_
    rotate_left 2
    ·go_simp
     constructor
     ·rfl
     ·rfl
    refine hK.out _ _ ⟨(blk_cell (blk_alloc BK203.out _) 0).trans rfl, (blk_cell (blk_alloc BK203.out _) 1).trans rfl, (blk_cell (blk_alloc BK203.out _) 2).trans rfl, (blk_cell (blk_alloc BK203.out _) 3).trans rfl, (blk_cell (blk_alloc BK203.out _) 4).trans rfl⟩ (fun hHeld => ?_)
    clear hK K
    refine no_ ?_
    refine on_ 8 72 (fun K hK => ?_)
    refine Kd.R_append_step Kd.string (w0 := w) w.heap.size (by rfl) (.tmp 65) (.tmp 71) 38 9 (.string ⟨#[]⟩) 16 rfl Try.underlying38 info9 rfl (by decide) (by omega) u204004 x204004_1 ((a0.extract (a1 : Int).toNat a0.size).extract ((ji47) : Int).toNat ((wrap64 ((ji47) + t206)) : Int).toNat) [.string ((a0.extract (a1 : Int).toNat a0.size).extract ((ji47) : Int).toNat ((wrap64 ((ji47) + t206)) : Int).toNat)] (fun _ => True) (fun _ => False) rfl rfl ?aP (fun _ hk => hk.elim) ?aF ?aO ?aB ?aS ?aL ?_
    (case aP => exact rfl)
    (case aB => exact (hs2_ GE198.out GE203.out))
    (case aF => exact (fun _ _ => trivial))
    (case aO => exact (kr_ HO_204004.out))
    (case aS => exact (below_size (hs2_ GE198.out GE203.out)))
    (case aL => have := LMc51.out; omega)
    intro v208 w53 ho hb hg hat
    rw [← Ny207.out] at ho
    replace BK198 := Aside0.mk (blk_grown (g := gb198) (o := .cells #[.int .i64 x199000_1, .int .i64 x199001_1, .int .i64 x199002_1, .int .i64 x199003_1, .slice none 0 0] 44 (0, 0)) (kb_ BK198.out) hg (Kd.R_ne HO_204004.out BK198.out (by decide)))
    replace BK203 := Aside0.mk (blk_grown (g := gb203) (o := .cells #[.int .i64 t199, .int .i64 t200, .int .i64 t201, .int .i64 t202, u204004] 44 (0, 0)) (kb_ BK203.out) hg (Kd.R_ne HO_204004.out BK203.out (by decide)))
    replace HB := Aside0.mk (hb)
    have HO209 := Aside0.mk (ho)
    clear HO_204004
    clear ho hb hg hat
    obtain ⟨Ao54, co54, eo54⟩ := Kd.R_slice HO209.out
    (first | subst eo54 | (injection eo54 with f1_ f2_ f3_; have f4_ := f1_.symm; have f5_ := f3_.symm; clear f1_ f2_ f3_; subst f4_; subst f5_))
    refine hK.out _ _ ⟨bt_ BK203 0, bt_ BK203 1, bt_ BK203 2, bt_ BK203 3, bt_ BK203 4⟩ (fun hHeld => ?_)
    clear hK K
    refine no_ ?_
    refine pv_ 9 73 ?_
    refine last_ (i := 10) (N := none) #[true, true, true, true, true, true, true, true, true, true, true] rfl rfl (one_of HT_.out (by kernel_rfl)) (by decide) (fun K hK => ?_)
    have hs55 : w53.cell? ⟨gb203, 4, none⟩ = some (u204004) := bt_ BK203 4
    have hfs55 := blk_frozen BK203.out 4
    have hns55_0 := NB198_203.out
    have hms55_0 := NB203_198.out
    refine skip_ (w1 := ?_) (by rfl) rfl ?_ ?_
    rotate_left
    ·go_simp
     rfl
    refine hK.out _ _ ?_
    clear hK K
    refine done_ (done_of HT_.out (by kernel_rfl)) ?_
    try go_wp2
    go_roundg k1
    case measure => have := HK1.out; omega
    case rel => exact ⟨(wrap64 ((ji47) + t206)), (wrap64 (x34_1 + 1)), (x199000_1), (x199001_1), (x199002_1), (x199003_1), (y207), (.slice Ao54 y207.length co54), (by first | rfl | (simp; done) | (simp only [← hji47] <;> (first | rfl | simp)) | (simp [*]; done)), sr_, H', ⟨by have := HK1.out; omega⟩, ⟨rF_ (Kd.R_mono (Kd.R_far (p := ⟨gb203, 4, none⟩) (Kd.R_types HO209.out BK203.out (by decide)) (fun _ hk => hk.2) (.slice Ao54 y207.length co54)) (fun _ hk => trivial))⟩, ⟨uf_ BK198 NB198_203.out⟩, ⟨up_ BK203⟩, ⟨hs2_ GE198.out GE203.out⟩⟩
   have c32b0 := decide_eq_false c32
   clear c32
   replace H := bnd_ H
   obtain ⟨t210, A56, H⟩ := H
   replace H := ifb_ H
   obtain ⟨rfl, H⟩ | ⟨rfl, H⟩ := H
   rotate_left
   ·simp only [Option.some.injEq, Prod.mk.injEq] at H
    obtain ⟨rfl, rfl, rfl, rfl, rfl, rfl, rfl⟩ := H
    have hnb76 := NB203_198.out
    have hnc76 := NB198_203.out
    obtain ⟨hcz77_0, hcz77_1, hcz77_2, hcz77_3, hcz77_4, hfz77_0, hfz77_1, hfz77_2, hfz77_3, hfz77_4⟩ := cf5_ BK203.out
    obtain ⟨Ao78, co78, eo78⟩ := Kd.R_slice HO_204004.out
    subst eo78
    go_wp2_with (first | ((with_reducible refine gate_callee (f := 63) rfl ?_); refine gl_ 77 Try.func63 #[.agg #[.int .i64 t199, .int .i64 t200, .int .i64 t201, .int .i64 t202, .slice Ao78 x204004_1.length co78]] rfl ma_ ?_; (with_reducible refine (impl_isBatch.calls t199 t200 t201 t202 _ _ x204004_1 false _ ?side1 ?side2 A56.out).mono ?_); (case side1 => exact cs_ ((Kd.R_reads' HO_204004.out).2.2)); (case side2 => exact (Kd.R_reads' HO_204004.out).2.1); rintro e w79 ⟨rfl, hb⟩; refine ⟨_, rfl, ?_⟩; replace HO_204004 := rB_ HO_204004 hb; replace BK198 := bK_ BK198 hb; replace BK203 := bK_ BK203 hb; replace HB := nc2_ GE198 GE203 hb; (try clear hb); (try clear hb2); (try clear hk); (try clear hi); obtain ⟨hcz80_0, hcz80_1, hcz80_2, hcz80_3, hcz80_4, hfz80_0, hfz80_1, hfz80_2, hfz80_3, hfz80_4⟩ := cf5_ BK198.out))
    refine bodyPost_ret (results_ctt rfl _ _ gb198 44 #[.int .i64 0, .int .i64 0, .int .i64 0, .int .i64 0, .slice none 0 0] (0, 0) _ rfl (up_ BK198) Try.underlying44 rfl (by kernel_rfl)) rfl ?_
    exact ⟨_, er_, ni_, hs2_ GE198.out GE203.out⟩
   replace H := bnd_ H
   obtain ⟨t211, A58, H⟩ := H
   replace H := bnd_ H
   obtain ⟨t212, A59, H⟩ := H
   replace H := ifb_ H
   obtain ⟨rfl, H⟩ | ⟨rfl, H⟩ := H
   rotate_left
   ·simp only [Option.some.injEq, Prod.mk.injEq] at H
    obtain ⟨rfl, rfl, rfl, rfl, rfl, rfl, rfl⟩ := H
    have hnb69 := NB203_198.out
    have hnc69 := NB198_203.out
    obtain ⟨hcz70_0, hcz70_1, hcz70_2, hcz70_3, hcz70_4, hfz70_0, hfz70_1, hfz70_2, hfz70_3, hfz70_4⟩ := cf5_ BK203.out
    obtain ⟨Ao71, co71, eo71⟩ := Kd.R_slice HO_204004.out
    subst eo71
    go_wp2_with (first | ((with_reducible refine gate_callee (f := 63) rfl ?_); refine gl_ 77 Try.func63 #[.agg #[.int .i64 t199, .int .i64 t200, .int .i64 t201, .int .i64 t202, .slice Ao71 x204004_1.length co71]] rfl ma_ ?_; (with_reducible refine (impl_isBatch.calls t199 t200 t201 t202 _ _ x204004_1 true _ ?side1 ?side2 A56.out).mono ?_); (case side1 => exact cs_ ((Kd.R_reads' HO_204004.out).2.2)); (case side2 => exact (Kd.R_reads' HO_204004.out).2.1); rintro e w72 ⟨rfl, hb⟩; refine ⟨_, rfl, ?_⟩; replace HO_204004 := rB_ HO_204004 hb; replace BK198 := bK_ BK198 hb; replace BK203 := bK_ BK203 hb; replace HB := nc2_ GE198 GE203 hb; (try clear hb); (try clear hb2); (try clear hk); (try clear hi); obtain ⟨hcz73_0, hcz73_1, hcz73_2, hcz73_3, hcz73_4, hfz73_0, hfz73_1, hfz73_2, hfz73_3, hfz73_4⟩ := cf5_ BK203.out) | (go_at_call 64; (with_reducible refine (impl_batchBytes.calls k1 t199 t200 t201 t202 _ _ x204004_1 t211 _ ?side1 ?side2 A58.out).mono ?_); (case side1 => exact cs_ ((Kd.R_reads' HO_204004.out).2.2)); (case side2 => exact (Kd.R_reads' HO_204004.out).2.1); rintro e w74 ⟨rfl, hb⟩; replace HO_204004 := rB_ HO_204004 hb; replace BK198 := bK_ BK198 hb; replace BK203 := bK_ BK203 hb; replace HB := nc2_ GE198 GE203 hb; (try clear hb); (try clear hb2); (try clear hk); (try clear hi)) | (go_at_call 99; (with_reducible refine (strings_HasPrefix.calls (a0.extract (a1 : Int).toNat a0.size) t211 false _ A59.out).mono ?_); rintro e w' ⟨rfl, ⟨nd, rfl⟩⟩; (try (rw [drewN_self w74]; replace HO_204004 := dR_ nd HO_204004; replace BK198 := dK_ nd BK198; replace BK203 := dK_ nd BK203; replace HB := dH_ nd HB; generalize World.drewN w74 nd = w74 at HO_204004 BK198 BK203 HB ⊢)); obtain ⟨hcz75_0, hcz75_1, hcz75_2, hcz75_3, hcz75_4, hfz75_0, hfz75_1, hfz75_2, hfz75_3, hfz75_4⟩ := cf5_ BK198.out))
    refine bodyPost_ret (results_ctt rfl _ _ gb198 44 #[.int .i64 0, .int .i64 0, .int .i64 0, .int .i64 0, .slice none 0 0] (0, 0) _ rfl (up_ BK198) Try.underlying44 rfl (by kernel_rfl)) rfl ?_
    exact ⟨_, er_, ni_, hs2_ GE198.out GE203.out⟩
   simp only [Option.some.injEq, Prod.mk.injEq] at H
   obtain ⟨rfl, rfl, rfl, rfl, rfl, rfl, rfl⟩ := H
   have hnb61 := NB203_198.out
   have hnc61 := NB198_203.out
   obtain ⟨hcz62_0, hcz62_1, hcz62_2, hcz62_3, hcz62_4, hfz62_0, hfz62_1, hfz62_2, hfz62_3, hfz62_4⟩ := cf5_ BK203.out
   obtain ⟨Ao63, co63, eo63⟩ := Kd.R_slice HO_204004.out
   subst eo63
   go_wp2_with (first | ((with_reducible refine gate_callee (f := 63) rfl ?_); refine gl_ 77 Try.func63 #[.agg #[.int .i64 t199, .int .i64 t200, .int .i64 t201, .int .i64 t202, .slice Ao63 x204004_1.length co63]] rfl ma_ ?_; (with_reducible refine (impl_isBatch.calls t199 t200 t201 t202 _ _ x204004_1 true _ ?side1 ?side2 A56.out).mono ?_); (case side1 => exact cs_ ((Kd.R_reads' HO_204004.out).2.2)); (case side2 => exact (Kd.R_reads' HO_204004.out).2.1); rintro e w64 ⟨rfl, hb⟩; refine ⟨_, rfl, ?_⟩; replace HO_204004 := rB_ HO_204004 hb; replace BK198 := bK_ BK198 hb; replace BK203 := bK_ BK203 hb; replace HB := nc2_ GE198 GE203 hb; (try clear hb); (try clear hb2); (try clear hk); (try clear hi); obtain ⟨hcz65_0, hcz65_1, hcz65_2, hcz65_3, hcz65_4, hfz65_0, hfz65_1, hfz65_2, hfz65_3, hfz65_4⟩ := cf5_ BK203.out) | (go_at_call 64; (with_reducible refine (impl_batchBytes.calls k1 t199 t200 t201 t202 _ _ x204004_1 t211 _ ?side1 ?side2 A58.out).mono ?_); (case side1 => exact cs_ ((Kd.R_reads' HO_204004.out).2.2)); (case side2 => exact (Kd.R_reads' HO_204004.out).2.1); rintro e w66 ⟨rfl, hb⟩; replace HO_204004 := rB_ HO_204004 hb; replace BK198 := bK_ BK198 hb; replace BK203 := bK_ BK203 hb; replace HB := nc2_ GE198 GE203 hb; (try clear hb); (try clear hb2); (try clear hk); (try clear hi)) | (go_at_call 99; (with_reducible refine (strings_HasPrefix.calls (a0.extract (a1 : Int).toNat a0.size) t211 true _ A59.out).mono ?_); rintro e w' ⟨rfl, ⟨nd, rfl⟩⟩; (try (rw [drewN_self w66]; replace HO_204004 := dR_ nd HO_204004; replace BK198 := dK_ nd BK198; replace BK203 := dK_ nd BK203; replace HB := dH_ nd HB; generalize World.drewN w66 nd = w66 at HO_204004 BK198 BK203 HB ⊢)); obtain ⟨hcz67_0, hcz67_1, hcz67_2, hcz67_3, hcz67_4, hfz67_0, hfz67_1, hfz67_2, hfz67_3, hfz67_4⟩ := cf5_ BK203.out; obtain ⟨hcz68_0, hcz68_1, hcz68_2, hcz68_3, hcz68_4, hfz68_0, hfz68_1, hfz68_2, hfz68_3, hfz68_4⟩ := cf5_ BK198.out))
   refine bodyPost_ret (results_ctt rfl _ _ gb198 44 #[.int .i64 t199, .int .i64 t200, .int .i64 t201, .int .i64 t202, .slice Ao63 x204004_1.length co63] (0, 0) _ rfl (up_ BK198) Try.underlying44 rfl (by kernel_rfl)) rfl ?_
   exact ⟨_, er_, Kd.R_mono (rF_ (Kd.R_types HO_204004.out BK198.out (by decide))) (fun _ hk => trivial), hs2_ GE198.out GE203.out⟩
end Go.Proofs.Ytpdpipfkllfhmaa.QFnTorn
