/- Functions that one statement reaches: of each a plain function, and the proof that calls come to it. Conditions: those that each contract names. Written by a program of this repository. -/
import Derived.Test.YtpdpipfkllfhmaaVFnDisksa
import Derived.Test.YtpdpipfkllfhmaaQFnDisksx3
import Derived.Test.YtpdpipfkllfhmaaQFnDisksx4
namespace Go.Proofs.Ytpdpipfkllfhmaa.QFnDisks
open Go.RowKit Go.Proofs.YtpdpipfkllfhmaaW.PrintWords Go.Proofs.YtpdpipfkllfhmaaW.PrintLast Go.Proofs.YtpdpipfkllfhmaaW.PrintMore
attribute [local go_sem] max2_int min2_int max_two min_two max_three min_three max_four min_four Go.Proofs.YtpdpipfkllfhmaaW.PrintMore2.isSome_setCell   -- for this text's walks alone
set_option linter.unusedVariables false
set_option linter.unusedSimpArgs false

/-! ### impl_takeBatch: function 83 -/
def impl_takeBatch.l0 : Nat → Int → ByteArray → Int → Int → Int → Int → Int → Int → Int → List ByteArray → Option (Int × Int × Int × Int × List ByteArray × Int × Bool)
 | 0, _, _, _, _, _, _, _, _, _, _ => none
 | k + 1, x1, x7, x9, x33, x34, x137000, x137001, x137002, x137003, x137004 => if x34 < x33 then (if x9 ≥ (x7.size : Int) then (some (0, 0, 0, 0, ([] : List ByteArray), 0, false)) else (if 0 ≤ x9 then (if x9 ≤ (wrap64 (x9 + 1)) then (if (wrap64 (x9 + 1)) ≤ (x7.size : Int) then ((impl_get.f k (x7.extract (x9 : Int).toNat ((wrap64 (x9 + 1)) : Int).toNat)).bind fun t138 => (if (wrap64 ((wrap64 (x9 + 1)) + t138)) > (x7.size : Int) then (some (0, 0, 0, 0, ([] : List ByteArray), 0, false)) else ((impl_get.f k (x7.extract (x9 : Int).toNat ((wrap64 (x9 + 1)) : Int).toNat)).bind fun t139 => (if 0 ≤ (wrap64 (x9 + 1)) then (if (wrap64 (x9 + 1)) ≤ (wrap64 ((wrap64 (x9 + 1)) + t139)) then (if (wrap64 ((wrap64 (x9 + 1)) + t139)) ≤ (x7.size : Int) then (if x137004.length < 8796093022208 then (impl_takeBatch.l0 k x1 x7 (wrap64 ((wrap64 (x9 + 1)) + t139)) x33 (wrap64 (x34 + 1)) x137000 x137001 x137002 x137003 (x137004 ++ [x7.extract ((wrap64 (x9 + 1)) : Int).toNat ((wrap64 ((wrap64 (x9 + 1)) + t139)) : Int).toNat])) else (none)) else (none)) else (none)) else (none))))) else (none)) else (none)) else (none))) else ((impl_isBatch.f x137000 x137001 x137002 x137003 x137004).bind fun t143 => (if t143 = true then ((impl_batchBytes.f k x137000 x137001 x137002 x137003 x137004).bind fun t144 => ((strings_HasPrefix.f x7 t144).bind fun t145 => (if t145 = true then (some (x137000, x137001, x137002, x137003, x137004, wrap64 ((wrap64 (x1 + x9)) + 2), true)) else (some (0, 0, 0, 0, ([] : List ByteArray), 0, false))))) else (some (0, 0, 0, 0, ([] : List ByteArray), 0, false))))
def impl_takeBatch.f (k : Nat) (a0 : ByteArray) (a1 : Int) : Option (Int × Int × Int × Int × List ByteArray × Int × Bool) := if 0 ≤ a1 then (if a1 ≤ (a0.size : Int) then (if ((a0.extract (a1 : Int).toNat a0.size).size : Int) < 12 then (some (0, 0, 0, 0, ([] : List ByteArray), 0, false)) else (if 2 ≤ 5 then (if 5 ≤ ((a0.extract (a1 : Int).toNat a0.size).size : Int) then ((impl_get.f k ((a0.extract (a1 : Int).toNat a0.size).extract 2 5)).bind fun t132 => (if 5 ≤ 7 then (if 7 ≤ ((a0.extract (a1 : Int).toNat a0.size).size : Int) then ((impl_get.f k ((a0.extract (a1 : Int).toNat a0.size).extract 5 7)).bind fun t133 => (if 7 ≤ 9 then (if 9 ≤ ((a0.extract (a1 : Int).toNat a0.size).size : Int) then ((impl_get.f k ((a0.extract (a1 : Int).toNat a0.size).extract 7 9)).bind fun t134 => (if 9 ≤ 11 then (if 11 ≤ ((a0.extract (a1 : Int).toNat a0.size).size : Int) then ((impl_get.f k ((a0.extract (a1 : Int).toNat a0.size).extract 9 11)).bind fun t135 => (if 11 ≤ 12 then (if 12 ≤ ((a0.extract (a1 : Int).toNat a0.size).size : Int) then ((impl_get.f k ((a0.extract (a1 : Int).toNat a0.size).extract 11 12)).bind fun t137 => (impl_takeBatch.l0 k a1 (a0.extract (a1 : Int).toNat a0.size) 12 t137 0 t132 t133 t134 t135 ([] : List ByteArray))) else (none)) else (none))) else (none)) else (none))) else (none)) else (none))) else (none)) else (none))) else (none)) else (none))) else (none)) else (none)
theorem impl_takeBatch.mono_l : ∀ k, (∀ y0 y1 y2 y3 y4 y5 y6 y7 y8 y9, LeO (impl_takeBatch.l0 k y0 y1 y2 y3 y4 y5 y6 y7 y8 y9) (impl_takeBatch.l0 (k + 1) y0 y1 y2 y3 y4 y5 y6 y7 y8 y9))
 | 0 => fun _ _ _ _ _ _ _ _ _ _ r h => by simp [impl_takeBatch.l0] at h
 | k + 1 => by
  have ih0 := impl_takeBatch.mono_l k
  ·intro y0 y1 y2 y3 y4 y5 y6 y7 y8 y9
   unfold impl_takeBatch.l0
   repeat' first
   | (with_reducible first | apply ih0 | apply impl_batchBytes.mono | apply impl_get.mono | exact LeO.refl _ | exact LeO.none _ | refine LeO.ite ?_ ?_ | refine LeO.bind ?_ (fun _ => ?_))
theorem impl_takeBatch.mono : ∀ a0 a1 k, LeO (impl_takeBatch.f k a0 a1) (impl_takeBatch.f (k + 1) a0 a1) := by
 intro a0 a1 k
 have ih0 := impl_takeBatch.mono_l k
 unfold impl_takeBatch.f
 repeat' first
   | (with_reducible first | apply ih0 | apply impl_batchBytes.mono | apply impl_get.mono | exact LeO.refl _ | exact LeO.none _ | refine LeO.ite ?_ ?_ | refine LeO.bind ?_ (fun _ => ?_))
def impl_takeBatch.T4 : Bool × List (List Nat × List Nat) := (true, [([], []), ([0], [0]), ([1], [1]), ([], []), ([3], [3]), ([4, 2], [4]), ([], []), ([6], [6]), ([7, 5], [7]), ([], []), ([9], [9]), ([10, 8], [10]), ([2, 5, 8, 11], [2, 5, 8, 11]), ([], []), ([13, 12, 11, 0, 1, 2, 3, 4, 5, 6, 7, 8, 9, 10, 11, 12, 13], [12, 13])])
def impl_takeBatch.B4 : List Nat := [0, 1, 3, 0, 8, 31, 0, 64, 255, 0, 512, 2047, 4095, 0, 16383]
theorem impl_takeBatch.tab4 : rtab .any (opsOf Try.f83 4) = impl_takeBatch.T4 := by kernel_rfl
theorem impl_takeBatch.bits4 : waitsOk impl_takeBatch.T4.2 impl_takeBatch.B4 = true := by kernel_rfl
def impl_takeBatch.T11 : Bool × List (List Nat × List Nat) := (true, [([], []), ([0], [0]), ([], []), ([], []), ([3], [3]), ([], []), ([2, 4, 5], [2, 4, 5]), ([6], [6]), ([1, 7], [1, 7]), ([0, 1, 2, 3, 4, 5, 6, 7, 8], []), ([9, 8, 8, 0, 1, 2, 3, 4, 5, 6, 7, 8], [8, 9])])
def impl_takeBatch.B11 : List Nat := [0, 1, 0, 0, 8, 0, 60, 124, 255, 511, 1023]
theorem impl_takeBatch.tab11 : rtab .any (opsOf Try.f83 11) = impl_takeBatch.T11 := by kernel_rfl
theorem impl_takeBatch.bits11 : waitsOk impl_takeBatch.T11.2 impl_takeBatch.B11 = true := by kernel_rfl
set_option maxHeartbeats 8000000 in
set_option maxRecDepth 100000 in
theorem impl_takeBatch.calls (k : Nat) (a0 : ByteArray) (a1 : Int) (r1 : Int) (r2 : Int) (r3 : Int) (r4 : Int) (r5 : List ByteArray) (r6 : Int) (r7 : Bool) (w : World) (h : impl_takeBatch.f k a0 a1 = some (r1, r2, r3, r4, r5, r6, r7)) :
  Calls Try.prog 83 #[.string a0, .int .i64 a1] w fun e w' => ∃ v4_ : Value, e = .returned (.tuple #[.agg #[.int .i64 r1, .int .i64 r2, .int .i64 r3, .int .i64 r4, v4_], .int .i64 r6, .bool r7]) ∧ Kd.R Kd.string 9 w' w.heap.size (fun _ => True) v4_ r5 ∧ Below w.heap.size w w' := by
 have hu44 := Try.underlying44
 have HB := Aside0.mk (Below.refl w.heap.size w)
 have H : (if 0 ≤ a1 then (if a1 ≤ (a0.size : Int) then (if ((a0.extract (a1 : Int).toNat a0.size).size : Int) < 12 then (some (0, 0, 0, 0, ([] : List ByteArray), 0, false)) else (if 2 ≤ 5 then (if 5 ≤ ((a0.extract (a1 : Int).toNat a0.size).size : Int) then ((impl_get.f k ((a0.extract (a1 : Int).toNat a0.size).extract 2 5)).bind fun kA => (if 5 ≤ 7 then (if 7 ≤ ((a0.extract (a1 : Int).toNat a0.size).size : Int) then ((impl_get.f k ((a0.extract (a1 : Int).toNat a0.size).extract 5 7)).bind fun mA => (if 7 ≤ 9 then (if 9 ≤ ((a0.extract (a1 : Int).toNat a0.size).size : Int) then ((impl_get.f k ((a0.extract (a1 : Int).toNat a0.size).extract 7 9)).bind fun nA => (if 9 ≤ 11 then (if 11 ≤ ((a0.extract (a1 : Int).toNat a0.size).size : Int) then ((impl_get.f k ((a0.extract (a1 : Int).toNat a0.size).extract 9 11)).bind fun oA => (if 11 ≤ 12 then (if 12 ≤ ((a0.extract (a1 : Int).toNat a0.size).size : Int) then ((impl_get.f k ((a0.extract (a1 : Int).toNat a0.size).extract 11 12)).bind fun cB => (impl_takeBatch.l0 k a1 (a0.extract (a1 : Int).toNat a0.size) 12 cB 0 kA mA nA oA ([] : List ByteArray))) else (none)) else (none))) else (none)) else (none))) else (none)) else (none))) else (none)) else (none))) else (none)) else (none))) else (none)) else (none)) = some (r1, r2, r3, r4, r5, r6, r7) := h
 clear h
 replace H := ifs_ H
 obtain ⟨c3, H⟩ := H
 have lJ := eq_true c3
 have mJ := decide_eq_true c3
 clear c3
 replace H := ifs_ H
 obtain ⟨c4, H⟩ := H
 have nJ := eq_true c4
 have oJ := decide_eq_true c4
 clear c4
 replace H := ite_ H
 obtain ⟨c5, H⟩ | ⟨c5, H⟩ := H
 ·have lB := decide_eq_true c5
  have qG : decide ((a0.extract (a1 : Int).toNat a0.size).size < 12) = true := decide_eq_true (by omega)
  (try (have c5x0 := lB; simp only [ByteArray.size_extract, Nat.min_self] at c5x0))
  clear c5
  simp only [Option.some.injEq, Prod.mk.injEq] at H
  obtain ⟨rfl, rfl, rfl, rfl, rfl, rfl, rfl⟩ := H
  go_enter Try.func83, Try.ntmps83
  go_wp2_with (first | ((with_reducible refine gate_dst (N := 4) rfl ?_); (try (refine gate_guard (by rfl) ?_; dsimp only)); refine bq_ (N := 4) #[.int .i64 0, .int .i64 0, .int .i64 0, .int .i64 0, .slice none 0 0] 44 ?_; intro gA hg w6 bA hb; have hA := ge_ hg; replace HB := nb_ hb; clear hb hg; obtain ⟨rG, sG, tG, uG, vG, wG, xG, yG, zG, aH⟩ := cf5_ bA.out))
  refine bodyPost_ret (results_ctt rfl _ _ gA 44 #[.int .i64 0, .int .i64 0, .int .i64 0, .int .i64 0, .slice none 0 0] (0, 0) _ rfl (up_ bA) Try.underlying44 rfl (by kernel_rfl)) rfl ?_
  exact ⟨_, er_, ni_, hs_ hA.out⟩
 have lB := decide_eq_false c5
 have qG : decide ((a0.extract (a1 : Int).toNat a0.size).size < 12) = false := decide_eq_false (by omega)
 (try (have c5x0 := lB; simp only [ByteArray.size_extract, Nat.min_self] at c5x0))
 clear c5
 replace H := ifs_ H
 obtain ⟨c8, H⟩ := H
 have pJ := eq_true c8
 have qJ := decide_eq_true c8
 clear c8
 replace H := ifs_ H
 obtain ⟨c9, H⟩ := H
 have bH := eq_true c9
 have cH := decide_eq_true c9
 (try (have c9x0 := bH; simp only [ByteArray.size_extract, Nat.min_self] at c9x0))
 (try (have c9x1 := cH; simp only [ByteArray.size_extract, Nat.min_self] at c9x1))
 clear c9
 replace H := bnd_ H
 obtain ⟨kA, zH, H⟩ := H
 replace H := ifs_ H
 obtain ⟨dH, H⟩ := H
 have aI := eq_true dH
 have bI := decide_eq_true dH
 clear dH
 replace H := ifs_ H
 obtain ⟨eH, H⟩ := H
 have mB := eq_true eH
 have nB := decide_eq_true eH
 (try (have c12x0 := mB; simp only [ByteArray.size_extract, Nat.min_self] at c12x0))
 (try (have c12x1 := nB; simp only [ByteArray.size_extract, Nat.min_self] at c12x1))
 clear eH
 replace H := bnd_ H
 obtain ⟨mA, cI, H⟩ := H
 replace H := ifs_ H
 obtain ⟨fH, H⟩ := H
 have dI := eq_true fH
 have eI := decide_eq_true fH
 clear fH
 replace H := ifs_ H
 obtain ⟨gH, H⟩ := H
 have oB := eq_true gH
 have pB := decide_eq_true gH
 (try (have c15x0 := oB; simp only [ByteArray.size_extract, Nat.min_self] at c15x0))
 (try (have c15x1 := pB; simp only [ByteArray.size_extract, Nat.min_self] at c15x1))
 clear gH
 replace H := bnd_ H
 obtain ⟨nA, fI, H⟩ := H
 replace H := ifs_ H
 obtain ⟨hH, H⟩ := H
 have gI := eq_true hH
 have hI := decide_eq_true hH
 clear hH
 replace H := ifs_ H
 obtain ⟨iH, H⟩ := H
 have qB := eq_true iH
 have rB := decide_eq_true iH
 (try (have c18x0 := qB; simp only [ByteArray.size_extract, Nat.min_self] at c18x0))
 (try (have c18x1 := rB; simp only [ByteArray.size_extract, Nat.min_self] at c18x1))
 clear iH
 replace H := bnd_ H
 obtain ⟨oA, iI, H⟩ := H
 replace H := ifs_ H
 obtain ⟨jH, H⟩ := H
 have jI := eq_true jH
 have kI := decide_eq_true jH
 clear jH
 replace H := ifs_ H
 obtain ⟨iC, H⟩ := H
 have gB := eq_true iC
 have hB := decide_eq_true iC
 (try (have c21x0 := gB; simp only [ByteArray.size_extract, Nat.min_self] at c21x0))
 (try (have c21x1 := hB; simp only [ByteArray.size_extract, Nat.min_self] at c21x1))
 clear iC
 replace H := bnd_ H
 obtain ⟨cB, rJ, H⟩ := H
 have H' := Aside0.mk H
 clear H
 go_enter Try.func83, Try.ntmps83
 try go_wp2_with (first | ((with_reducible refine gate_dst (N := 4) rfl ?_); (try (refine gate_guard (by rfl) ?_; dsimp only)); refine bq_ (N := 4) #[.int .i64 0, .int .i64 0, .int .i64 0, .int .i64 0, .slice none 0 0] 44 ?_; intro gA hg sJ bA hb; have hA := ge_ hg; replace HB := nb_ hb; clear hb hg))
 replace bA := qK_ bA
 replace HB := qH_ HB
 refine start_ (n := 15) (S := fun w' => True) (ds := []) (List.replicate 15 false).toArray (by kernel_rfl) rfl rfl trivial (fun hHeld => ?_); refine with_tabW impl_takeBatch.tab4 impl_takeBatch.bits4 (fun HT_ HW_ => ?_)
 generalize sJ.drew = yJ at bA HB hHeld ⊢
 refine pv_ 0 18 ?_
 refine pv_ 1 19 ?_
 refine pv_ 3 21 ?_
 refine pv_ 4 22 ?_
 refine pv_ 6 24 ?_
 refine pv_ 7 25 ?_
 refine pv_ 9 27 ?_
 refine pv_ 10 28 ?_
 refine join_ (σ := Nat) 1 #[true, true, true, true, true, true, true, true, true, true, true, true, true, true, false] (fun s_ => [(20, .int .i64 kA), (23, .int .i64 mA), (26, .int .i64 nA), (29, .int .i64 oA), (8, .pointer (some ⟨s_, 0, none⟩)), (30, .agg #[.int .i64 kA, .int .i64 mA, .int .i64 nA, .int .i64 oA, .slice none 0 0])]) (fun s_ w' => (w'.heap[gA]? = some (.cells #[.int .i64 0, .int .i64 0, .int .i64 0, .int .i64 0, .slice none 0 0] 44 (0, 0))) ∧ (w'.heap[s_]? = some (.cells #[.int .i64 0, .int .i64 0, .int .i64 0, .int .i64 0, .slice none 0 0] 44 (0, 0))) ∧ (w.heap.size ≤ s_) ∧ (w.heap.size ≤ s_) ∧ (gA ≠ s_) ∧ (s_ ≠ gA) ∧ (Below w.heap.size w w')) ?_ ?_
 rotate_left
 ·intro hJ2_5_8_11_13
  refine join_ (σ := Unit) 2 #[true, true, true, true, true, true, true, true, true, true, true, true, true, false, false] (fun s_ => [(20, .int .i64 kA), (23, .int .i64 mA), (26, .int .i64 nA), (29, .int .i64 oA), (30, .agg #[.int .i64 kA, .int .i64 mA, .int .i64 nA, .int .i64 oA, .slice none 0 0])]) (fun s_ w' => (w'.heap[gA]? = some (.cells #[.int .i64 0, .int .i64 0, .int .i64 0, .int .i64 0, .slice none 0 0] 44 (0, 0))) ∧ (Below w.heap.size w w')) ?_ ?_
  rotate_left
  ·intro hJ2_5_8_11
   refine join_ (σ := Nat) 3 #[true, true, true, true, true, true, true, true, true, true, true, false, false, true, false] (fun s_ => [(20, .int .i64 kA), (23, .int .i64 mA), (26, .int .i64 nA), (8, .pointer (some ⟨s_, 0, none⟩))]) (fun s_ w' => (w'.heap[gA]? = some (.cells #[.int .i64 0, .int .i64 0, .int .i64 0, .int .i64 0, .slice none 0 0] 44 (0, 0))) ∧ (w'.heap[s_]? = some (.cells #[.int .i64 0, .int .i64 0, .int .i64 0, .int .i64 0, .slice none 0 0] 44 (0, 0))) ∧ (w.heap.size ≤ s_) ∧ (w.heap.size ≤ s_) ∧ (gA ≠ s_) ∧ (s_ ≠ gA) ∧ (Below w.heap.size w w')) ?_ ?_
   rotate_left
   ·intro hJ2_5_8_13
    refine join_ (σ := Unit) 4 #[true, true, true, true, true, true, true, true, true, true, true, false, false, false, false] (fun s_ => [(20, .int .i64 kA), (23, .int .i64 mA), (26, .int .i64 nA)]) (fun s_ w' => (w'.heap[gA]? = some (.cells #[.int .i64 0, .int .i64 0, .int .i64 0, .int .i64 0, .slice none 0 0] 44 (0, 0))) ∧ (Below w.heap.size w w')) ?_ ?_
    rotate_left
    ·intro hJ2_5_8
     refine join_ (σ := Nat) 4 #[true, true, true, true, true, true, true, true, false, true, true, false, false, true, false] (fun s_ => [(20, .int .i64 kA), (23, .int .i64 mA), (8, .pointer (some ⟨s_, 0, none⟩))]) (fun s_ w' => (w'.heap[gA]? = some (.cells #[.int .i64 0, .int .i64 0, .int .i64 0, .int .i64 0, .slice none 0 0] 44 (0, 0))) ∧ (w'.heap[s_]? = some (.cells #[.int .i64 0, .int .i64 0, .int .i64 0, .int .i64 0, .slice none 0 0] 44 (0, 0))) ∧ (w.heap.size ≤ s_) ∧ (w.heap.size ≤ s_) ∧ (gA ≠ s_) ∧ (s_ ≠ gA) ∧ (Below w.heap.size w w')) ?_ ?_
     rotate_left
     ·intro hJ2_5_13
      refine join_ (σ := Unit) 5 #[true, true, true, true, true, true, true, true, false, true, true, false, false, false, false] (fun s_ => [(20, .int .i64 kA), (23, .int .i64 mA)]) (fun s_ w' => (w'.heap[gA]? = some (.cells #[.int .i64 0, .int .i64 0, .int .i64 0, .int .i64 0, .slice none 0 0] 44 (0, 0))) ∧ (Below w.heap.size w w')) ?_ ?_
      rotate_left
      ·intro hJ2_5
       refine join_ (σ := Nat) 5 #[true, true, true, true, true, false, true, true, false, true, true, false, false, true, false] (fun s_ => [(20, .int .i64 kA), (8, .pointer (some ⟨s_, 0, none⟩))]) (fun s_ w' => (w'.heap[gA]? = some (.cells #[.int .i64 0, .int .i64 0, .int .i64 0, .int .i64 0, .slice none 0 0] 44 (0, 0))) ∧ (w'.heap[s_]? = some (.cells #[.int .i64 0, .int .i64 0, .int .i64 0, .int .i64 0, .slice none 0 0] 44 (0, 0))) ∧ (w.heap.size ≤ s_) ∧ (w.heap.size ≤ s_) ∧ (gA ≠ s_) ∧ (s_ ≠ gA) ∧ (Below w.heap.size w w')) ?_ ?_
       rotate_left
       ·intro hJ2_13
        refine join_ (σ := Unit) 6 #[true, true, true, true, true, false, true, true, false, true, true, false, false, false, false] (fun s_ => [(20, .int .i64 kA)]) (fun s_ w' => (w'.heap[gA]? = some (.cells #[.int .i64 0, .int .i64 0, .int .i64 0, .int .i64 0, .slice none 0 0] 44 (0, 0))) ∧ (Below w.heap.size w w')) ?_ ?_
        rotate_left
        ·intro hJ2
         refine join_ (σ := Nat) 6 #[true, true, false, true, true, false, true, true, false, true, true, false, false, true, false] (fun s_ => [(8, .pointer (some ⟨s_, 0, none⟩))]) (fun s_ w' => (w'.heap[gA]? = some (.cells #[.int .i64 0, .int .i64 0, .int .i64 0, .int .i64 0, .slice none 0 0] 44 (0, 0))) ∧ (w'.heap[s_]? = some (.cells #[.int .i64 0, .int .i64 0, .int .i64 0, .int .i64 0, .slice none 0 0] 44 (0, 0))) ∧ (w.heap.size ≤ s_) ∧ (w.heap.size ≤ s_) ∧ (gA ≠ s_) ∧ (s_ ≠ gA) ∧ (Below w.heap.size w w')) ?_ ?_
         rotate_left
         ·intro hJ13
          refine two_ (i := 2) (j := 13) (Ni := some 20) (Nj := some 8) #[true, true, true, true, true, false, true, true, false, true, true, false, false, false, false] #[true, true, false, true, true, false, true, true, false, true, true, false, false, true, false] rfl rfl rfl rfl (two_of HT_.out (by kernel_rfl)) (by decide) (by decide) (fun K hK => ?_) (fun K hK => ?_)
          ·skip
           refine gs_ Try.func98 #[.string ((a0.extract (a1 : Int).toNat a0.size).extract 2 5)] rfl ma_ ?_
           with_reducible refine (impl_get.calls k ((a0.extract (a1 : Int).toNat a0.size).extract 2 5) kA _ zH.out).mono ?_
           rintro e w' ⟨rfl, ⟨nd, rfl⟩⟩
           refine ⟨_, rfl, ?_⟩
           refine hK.out _ _ trivial (fun hHeld => ?_)
           clear hK K
           refine no_ ?_
           exact nq_ (hJ2 () _ ⟨(kb_ bA.out), (hs_ hA.out)⟩)
          ·skip
           refine bs_ (N := 8) #[.int .i64 0, .int .i64 0, .int .i64 0, .int .i64 0, .slice none 0 0] 44 ?_
           intro fA hg bB hbox hb
           have cA := Aside0.mk (hbox)
           have lA := ge1_ hg hA
           have iA := ge1_ hg hA
           replace HB := nc_ hA hb
           have dA := nl_ bA hg
           have eA := ng_ bA hg
           replace bA := bK_ bA hb
           clear hb hbox hg
           refine hK.out _ _ trivial (fun hHeld => ?_)
           clear hK K
           refine no_ ?_
           exact nq_ (hJ13 (fA) _ ⟨(kb_ bA.out), (kb_ cA.out), lA.out, iA.out, dA.out, eA.out, (hs2_ hA.out iA.out)⟩)
         ·skip
          rintro fA vA ⟨h0_, h1_, h2_, h3_, h4_, h5_, h6_⟩
          have n0_ : Aside0 (vA.heap[gA]? = some (.cells #[.int .i64 0, .int .i64 0, .int .i64 0, .int .i64 0, .slice none 0 0] 44 (0, 0))) := ⟨h0_⟩
          have n1_ : Aside0 (vA.heap[fA]? = some (.cells #[.int .i64 0, .int .i64 0, .int .i64 0, .int .i64 0, .slice none 0 0] 44 (0, 0))) := ⟨h1_⟩
          have n2_ : Aside0 (w.heap.size ≤ fA) := ⟨h2_⟩
          have n3_ : Aside0 (w.heap.size ≤ fA) := ⟨h3_⟩
          have n4_ : Aside0 (gA ≠ fA) := ⟨h4_⟩
          have n5_ : Aside0 (fA ≠ gA) := ⟨h5_⟩
          have n6_ : Aside0 (Below w.heap.size w vA) := ⟨h6_⟩
          clear bA
          clear HB
          clear h0_ h1_ h2_ h3_ h4_ h5_ h6_
          have bA := n0_
          have cA := n1_
          have lA := n2_
          have iA := n3_
          have dA := n4_
          have eA := n5_
          have HB := n6_
          clear n0_ n1_ n2_ n3_ n4_ n5_ n6_
          have hHeld := trivial
          refine np_ ?_
          refine on_ 2 20 (fun K hK => ?_)
          refine gs_ Try.func98 #[.string ((a0.extract (a1 : Int).toNat a0.size).extract 2 5)] rfl ma_ ?_
          with_reducible refine (impl_get.calls k ((a0.extract (a1 : Int).toNat a0.size).extract 2 5) kA _ zH.out).mono ?_
          rintro e w' ⟨rfl, ⟨nd, rfl⟩⟩
          refine ⟨_, rfl, ?_⟩
          refine hK.out _ _ trivial (fun hHeld => ?_)
          clear hK K
          refine no_ ?_
          exact nq_ (hJ2_13 (fA) _ ⟨(kb_ bA.out), (kb_ cA.out), lA.out, iA.out, dA.out, eA.out, (hs2_ hA.out iA.out)⟩)
        ·skip
         rintro _ bB ⟨h0_, h1_⟩
         have n0_ : Aside0 (bB.heap[gA]? = some (.cells #[.int .i64 0, .int .i64 0, .int .i64 0, .int .i64 0, .slice none 0 0] 44 (0, 0))) := ⟨h0_⟩
         have n1_ : Aside0 (Below w.heap.size w bB) := ⟨h1_⟩
         clear bA
         clear HB
         clear h0_ h1_
         have bA := n0_
         have HB := n1_
         clear n0_ n1_
         have hHeld := trivial
         refine np_ ?_
         refine two_ (i := 5) (j := 13) (Ni := some 23) (Nj := some 8) #[true, true, true, true, true, true, true, true, false, true, true, false, false, false, false] #[true, true, true, true, true, false, true, true, false, true, true, false, false, true, false] rfl rfl rfl rfl (two_of HT_.out (by kernel_rfl)) (by decide) (by decide) (fun K hK => ?_) (fun K hK => ?_)
         ·skip
          refine gs_ Try.func98 #[.string ((a0.extract (a1 : Int).toNat a0.size).extract 5 7)] rfl ma_ ?_
          with_reducible refine (impl_get.calls k ((a0.extract (a1 : Int).toNat a0.size).extract 5 7) mA _ cI.out).mono ?_
          rintro e w' ⟨rfl, ⟨nd, rfl⟩⟩
          refine ⟨_, rfl, ?_⟩
          refine hK.out _ _ trivial (fun hHeld => ?_)
          clear hK K
          refine no_ ?_
          exact nq_ (hJ2_5 () _ ⟨(kb_ bA.out), (hs_ hA.out)⟩)
         ·skip
          refine bs_ (N := 8) #[.int .i64 0, .int .i64 0, .int .i64 0, .int .i64 0, .slice none 0 0] 44 ?_
          intro fA hg vA hbox hb
          have cA := Aside0.mk (hbox)
          have lA := ge1_ hg hA
          have iA := ge1_ hg hA
          replace HB := nc_ hA hb
          have dA := nl_ bA hg
          have eA := ng_ bA hg
          replace bA := bK_ bA hb
          clear hb hbox hg
          refine hK.out _ _ trivial (fun hHeld => ?_)
          clear hK K
          refine no_ ?_
          exact nq_ (hJ2_13 (fA) _ ⟨(kb_ bA.out), (kb_ cA.out), lA.out, iA.out, dA.out, eA.out, (hs2_ hA.out iA.out)⟩)
       ·skip
        rintro fA vA ⟨h0_, h1_, h2_, h3_, h4_, h5_, h6_⟩
        have n0_ : Aside0 (vA.heap[gA]? = some (.cells #[.int .i64 0, .int .i64 0, .int .i64 0, .int .i64 0, .slice none 0 0] 44 (0, 0))) := ⟨h0_⟩
        have n1_ : Aside0 (vA.heap[fA]? = some (.cells #[.int .i64 0, .int .i64 0, .int .i64 0, .int .i64 0, .slice none 0 0] 44 (0, 0))) := ⟨h1_⟩
        have n2_ : Aside0 (w.heap.size ≤ fA) := ⟨h2_⟩
        have n3_ : Aside0 (w.heap.size ≤ fA) := ⟨h3_⟩
        have n4_ : Aside0 (gA ≠ fA) := ⟨h4_⟩
        have n5_ : Aside0 (fA ≠ gA) := ⟨h5_⟩
        have n6_ : Aside0 (Below w.heap.size w vA) := ⟨h6_⟩
        clear bA
        clear HB
        clear h0_ h1_ h2_ h3_ h4_ h5_ h6_
        have bA := n0_
        have cA := n1_
        have lA := n2_
        have iA := n3_
        have dA := n4_
        have eA := n5_
        have HB := n6_
        clear n0_ n1_ n2_ n3_ n4_ n5_ n6_
        have hHeld := trivial
        refine np_ ?_
        refine on_ 5 23 (fun K hK => ?_)
        refine gs_ Try.func98 #[.string ((a0.extract (a1 : Int).toNat a0.size).extract 5 7)] rfl ma_ ?_
        with_reducible refine (impl_get.calls k ((a0.extract (a1 : Int).toNat a0.size).extract 5 7) mA _ cI.out).mono ?_
        rintro e w' ⟨rfl, ⟨nd, rfl⟩⟩
        refine ⟨_, rfl, ?_⟩
        refine hK.out _ _ trivial (fun hHeld => ?_)
        clear hK K
        refine no_ ?_
        exact nq_ (hJ2_5_13 (fA) _ ⟨(kb_ bA.out), (kb_ cA.out), lA.out, iA.out, dA.out, eA.out, (hs2_ hA.out iA.out)⟩)
      ·skip
       rintro _ bB ⟨h0_, h1_⟩
       have n0_ : Aside0 (bB.heap[gA]? = some (.cells #[.int .i64 0, .int .i64 0, .int .i64 0, .int .i64 0, .slice none 0 0] 44 (0, 0))) := ⟨h0_⟩
       have n1_ : Aside0 (Below w.heap.size w bB) := ⟨h1_⟩
       clear bA
       clear HB
       clear h0_ h1_
       have bA := n0_
       have HB := n1_
       clear n0_ n1_
       have hHeld := trivial
       refine np_ ?_
       refine two_ (i := 8) (j := 13) (Ni := some 26) (Nj := some 8) #[true, true, true, true, true, true, true, true, true, true, true, false, false, false, false] #[true, true, true, true, true, true, true, true, false, true, true, false, false, true, false] rfl rfl rfl rfl (two_of HT_.out (by kernel_rfl)) (by decide) (by decide) (fun K hK => ?_) (fun K hK => ?_)
       ·skip
        refine gs_ Try.func98 #[.string ((a0.extract (a1 : Int).toNat a0.size).extract 7 9)] rfl ma_ ?_
        with_reducible refine (impl_get.calls k ((a0.extract (a1 : Int).toNat a0.size).extract 7 9) nA _ fI.out).mono ?_
        rintro e w' ⟨rfl, ⟨nd, rfl⟩⟩
        refine ⟨_, rfl, ?_⟩
        refine hK.out _ _ trivial (fun hHeld => ?_)
        clear hK K
        refine no_ ?_
        exact nq_ (hJ2_5_8 () _ ⟨(kb_ bA.out), (hs_ hA.out)⟩)
       ·skip
        refine bs_ (N := 8) #[.int .i64 0, .int .i64 0, .int .i64 0, .int .i64 0, .slice none 0 0] 44 ?_
        intro fA hg vA hbox hb
        have cA := Aside0.mk (hbox)
        have lA := ge1_ hg hA
        have iA := ge1_ hg hA
        replace HB := nc_ hA hb
        have dA := nl_ bA hg
        have eA := ng_ bA hg
        replace bA := bK_ bA hb
        clear hb hbox hg
        refine hK.out _ _ trivial (fun hHeld => ?_)
        clear hK K
        refine no_ ?_
        exact nq_ (hJ2_5_13 (fA) _ ⟨(kb_ bA.out), (kb_ cA.out), lA.out, iA.out, dA.out, eA.out, (hs2_ hA.out iA.out)⟩)
     ·skip
      rintro fA vA ⟨h0_, h1_, h2_, h3_, h4_, h5_, h6_⟩
      have n0_ : Aside0 (vA.heap[gA]? = some (.cells #[.int .i64 0, .int .i64 0, .int .i64 0, .int .i64 0, .slice none 0 0] 44 (0, 0))) := ⟨h0_⟩
      have n1_ : Aside0 (vA.heap[fA]? = some (.cells #[.int .i64 0, .int .i64 0, .int .i64 0, .int .i64 0, .slice none 0 0] 44 (0, 0))) := ⟨h1_⟩
      have n2_ : Aside0 (w.heap.size ≤ fA) := ⟨h2_⟩
      have n3_ : Aside0 (w.heap.size ≤ fA) := ⟨h3_⟩
      have n4_ : Aside0 (gA ≠ fA) := ⟨h4_⟩
      have n5_ : Aside0 (fA ≠ gA) := ⟨h5_⟩
      have n6_ : Aside0 (Below w.heap.size w vA) := ⟨h6_⟩
      clear bA
      clear HB
      clear h0_ h1_ h2_ h3_ h4_ h5_ h6_
      have bA := n0_
      have cA := n1_
      have lA := n2_
      have iA := n3_
      have dA := n4_
      have eA := n5_
      have HB := n6_
      clear n0_ n1_ n2_ n3_ n4_ n5_ n6_
      have hHeld := trivial
      refine np_ ?_
      refine on_ 8 26 (fun K hK => ?_)
      refine gs_ Try.func98 #[.string ((a0.extract (a1 : Int).toNat a0.size).extract 7 9)] rfl ma_ ?_
      with_reducible refine (impl_get.calls k ((a0.extract (a1 : Int).toNat a0.size).extract 7 9) nA _ fI.out).mono ?_
      rintro e w' ⟨rfl, ⟨nd, rfl⟩⟩
      refine ⟨_, rfl, ?_⟩
      refine hK.out _ _ trivial (fun hHeld => ?_)
      clear hK K
      refine no_ ?_
      exact nq_ (hJ2_5_8_13 (fA) _ ⟨(kb_ bA.out), (kb_ cA.out), lA.out, iA.out, dA.out, eA.out, (hs2_ hA.out iA.out)⟩)
    ·skip
     rintro _ bB ⟨h0_, h1_⟩
     have n0_ : Aside0 (bB.heap[gA]? = some (.cells #[.int .i64 0, .int .i64 0, .int .i64 0, .int .i64 0, .slice none 0 0] 44 (0, 0))) := ⟨h0_⟩
     have n1_ : Aside0 (Below w.heap.size w bB) := ⟨h1_⟩
     clear bA
     clear HB
     clear h0_ h1_
     have bA := n0_
     have HB := n1_
     clear n0_ n1_
     have hHeld := trivial
     refine np_ ?_
     refine two_ (i := 11) (j := 13) (Ni := some 29) (Nj := some 8) #[true, true, true, true, true, true, true, true, true, true, true, true, false, false, false] #[true, true, true, true, true, true, true, true, true, true, true, false, false, true, false] rfl rfl rfl rfl (two_of HT_.out (by kernel_rfl)) (by decide) (by decide) (fun K hK => ?_) (fun K hK => ?_)
     ·skip
      refine gs_ Try.func98 #[.string ((a0.extract (a1 : Int).toNat a0.size).extract 9 11)] rfl ma_ ?_
      with_reducible refine (impl_get.calls k ((a0.extract (a1 : Int).toNat a0.size).extract 9 11) oA _ iI.out).mono ?_
      rintro e w' ⟨rfl, ⟨nd, rfl⟩⟩
      refine ⟨_, rfl, ?_⟩
      refine hK.out _ _ trivial (fun hHeld => ?_)
      clear hK K
      refine no_ ?_
      refine pv_ 12 30 ?_
      exact nq_ (hJ2_5_8_11 () _ ⟨(kb_ bA.out), (hs_ hA.out)⟩)
     ·skip
      refine bs_ (N := 8) #[.int .i64 0, .int .i64 0, .int .i64 0, .int .i64 0, .slice none 0 0] 44 ?_
      intro fA hg vA hbox hb
      have cA := Aside0.mk (hbox)
      have lA := ge1_ hg hA
      have iA := ge1_ hg hA
      replace HB := nc_ hA hb
      have dA := nl_ bA hg
      have eA := ng_ bA hg
      replace bA := bK_ bA hb
      clear hb hbox hg
      refine hK.out _ _ trivial (fun hHeld => ?_)
      clear hK K
      refine no_ ?_
      exact nq_ (hJ2_5_8_13 (fA) _ ⟨(kb_ bA.out), (kb_ cA.out), lA.out, iA.out, dA.out, eA.out, (hs2_ hA.out iA.out)⟩)
   ·skip
    rintro fA vA ⟨h0_, h1_, h2_, h3_, h4_, h5_, h6_⟩
    have n0_ : Aside0 (vA.heap[gA]? = some (.cells #[.int .i64 0, .int .i64 0, .int .i64 0, .int .i64 0, .slice none 0 0] 44 (0, 0))) := ⟨h0_⟩
    have n1_ : Aside0 (vA.heap[fA]? = some (.cells #[.int .i64 0, .int .i64 0, .int .i64 0, .int .i64 0, .slice none 0 0] 44 (0, 0))) := ⟨h1_⟩
    have n2_ : Aside0 (w.heap.size ≤ fA) := ⟨h2_⟩
    have n3_ : Aside0 (w.heap.size ≤ fA) := ⟨h3_⟩
    have n4_ : Aside0 (gA ≠ fA) := ⟨h4_⟩
    have n5_ : Aside0 (fA ≠ gA) := ⟨h5_⟩
    have n6_ : Aside0 (Below w.heap.size w vA) := ⟨h6_⟩
    clear bA
    clear HB
    clear h0_ h1_ h2_ h3_ h4_ h5_ h6_
    have bA := n0_
    have cA := n1_
    have lA := n2_
    have iA := n3_
    have dA := n4_
    have eA := n5_
    have HB := n6_
    clear n0_ n1_ n2_ n3_ n4_ n5_ n6_
    have hHeld := trivial
    refine np_ ?_
    refine on_ 11 29 (fun K hK => ?_)
    refine gs_ Try.func98 #[.string ((a0.extract (a1 : Int).toNat a0.size).extract 9 11)] rfl ma_ ?_
    with_reducible refine (impl_get.calls k ((a0.extract (a1 : Int).toNat a0.size).extract 9 11) oA _ iI.out).mono ?_
    rintro e w' ⟨rfl, ⟨nd, rfl⟩⟩
    refine ⟨_, rfl, ?_⟩
    refine hK.out _ _ trivial (fun hHeld => ?_)
    clear hK K
    refine no_ ?_
    refine pv_ 12 30 ?_
    exact nq_ (hJ2_5_8_11_13 (fA) _ ⟨(kb_ bA.out), (kb_ cA.out), lA.out, iA.out, dA.out, eA.out, (hs2_ hA.out iA.out)⟩)
  ·skip
   rintro _ bB ⟨h0_, h1_⟩
   have n0_ : Aside0 (bB.heap[gA]? = some (.cells #[.int .i64 0, .int .i64 0, .int .i64 0, .int .i64 0, .slice none 0 0] 44 (0, 0))) := ⟨h0_⟩
   have n1_ : Aside0 (Below w.heap.size w bB) := ⟨h1_⟩
   clear bA
   clear HB
   clear h0_ h1_
   have bA := n0_
   have HB := n1_
   clear n0_ n1_
   have hHeld := trivial
   refine np_ ?_
   refine on_ 13 8 (fun K hK => ?_)
   refine bs_ (N := 8) #[.int .i64 0, .int .i64 0, .int .i64 0, .int .i64 0, .slice none 0 0] 44 ?_
   intro fA hg vA hbox hb
   have cA := Aside0.mk (hbox)
   have lA := ge1_ hg hA
   have iA := ge1_ hg hA
   replace HB := nc_ hA hb
   have dA := nl_ bA hg
   have eA := ng_ bA hg
   replace bA := bK_ bA hb
   clear hb hbox hg
   refine hK.out _ _ trivial (fun hHeld => ?_)
   clear hK K
   refine no_ ?_
   exact nq_ (hJ2_5_8_11_13 (fA) _ ⟨(kb_ bA.out), (kb_ cA.out), lA.out, iA.out, dA.out, eA.out, (hs2_ hA.out iA.out)⟩)
 rintro fA vA ⟨h0_, h1_, h2_, h3_, h4_, h5_, h6_⟩
 have n0_ : Aside0 (vA.heap[gA]? = some (.cells #[.int .i64 0, .int .i64 0, .int .i64 0, .int .i64 0, .slice none 0 0] 44 (0, 0))) := ⟨h0_⟩
 have n1_ : Aside0 (vA.heap[fA]? = some (.cells #[.int .i64 0, .int .i64 0, .int .i64 0, .int .i64 0, .slice none 0 0] 44 (0, 0))) := ⟨h1_⟩
 have n2_ : Aside0 (w.heap.size ≤ fA) := ⟨h2_⟩
 have n3_ : Aside0 (w.heap.size ≤ fA) := ⟨h3_⟩
 have n4_ : Aside0 (gA ≠ fA) := ⟨h4_⟩
 have n5_ : Aside0 (fA ≠ gA) := ⟨h5_⟩
 have n6_ : Aside0 (Below w.heap.size w vA) := ⟨h6_⟩
 clear bA
 clear HB
 clear h0_ h1_ h2_ h3_ h4_ h5_ h6_
 have bA := n0_
 have cA := n1_
 have lA := n2_
 have iA := n3_
 have dA := n4_
 have eA := n5_
 have HB := n6_
 clear n0_ n1_ n2_ n3_ n4_ n5_ n6_
 have hHeld := trivial
 refine np_ ?_
 refine one_ (i := 14) (N := none) #[true, true, true, true, true, true, true, true, true, true, true, true, true, true, true] rfl rfl (one_of HT_.out (by kernel_rfl)) (by decide) (fun K hK => ?_)
 obtain ⟨hs27, hfs27⟩ := cf1_ cA.out
 have hns27_0 := dA.out
 have hms27_0 := eA.out
 have hs28 : vA.cell? ⟨fA, 1, none⟩ = some (.int .i64 0) := bt_ cA 1
 have hfs28 := blk_frozen cA.out 1
 have hns28_0 := dA.out
 have hms28_0 := eA.out
 have hs29 : vA.cell? ⟨fA, 2, none⟩ = some (.int .i64 0) := bt_ cA 2
 have hfs29 := blk_frozen cA.out 2
 have hns29_0 := dA.out
 have hms29_0 := eA.out
 have hs30 : vA.cell? ⟨fA, 3, none⟩ = some (.int .i64 0) := bt_ cA 3
 have hfs30 := blk_frozen cA.out 3
 have hns30_0 := dA.out
 have hms30_0 := eA.out
 have hs31 : vA.cell? ⟨fA, 4, none⟩ = some (.slice none 0 0) := bt_ cA 4
 have hfs31 := blk_frozen cA.out 4
 have hns31_0 := dA.out
 have hms31_0 := eA.out
 refine skip_ (w1 := ?_) (by rfl) rfl ?_ ?_
 rotate_left
 ·go_simp
  rfl
 refine hK.out _ _ trivial (fun hHeld => ?_)
 clear hK K
 refine done_ (done_of HT_.out (by kernel_rfl)) ?_
 try go_wp2_with (first | ((with_reducible refine gate_callee (f := 98) rfl ?_); refine gl_ 33 Try.func98 #[.string ((a0.extract (a1 : Int).toNat a0.size).extract 11 12)] rfl ma_ ?_; (with_reducible refine (impl_get.calls k ((a0.extract (a1 : Int).toNat a0.size).extract 11 12) cB _ rJ.out).mono ?_); rintro e w' ⟨rfl, ⟨nd, rfl⟩⟩; refine ⟨_, rfl, ?_⟩))
 go_loopg [9, 34] k (fun kq v9 tJ w' => ∃ (uA : Int) (wA : Int) (qA : Int) (rA : Int) (sA : Int) (tA : Int) (jA : List ByteArray) (pA : Value), v9 = .int .i64 uA ∧ tJ = .int .i64 wA ∧ Aside0 (impl_takeBatch.l0 kq a1 (a0.extract (a1 : Int).toNat a0.size) uA cB wA kA mA nA oA jA = some (r1, r2, r3, r4, r5, r6, r7)) ∧ Aside0 (kq ≤ k) ∧ Aside0 (Kd.R Kd.string 9 w' w.heap.size (fun _ => True) pA jA) ∧ Aside0 (w'.heap[gA]? = some (.cells #[.int .i64 qA, .int .i64 rA, .int .i64 sA, .int .i64 tA, (.slice none 0 0)] 44 (0, 0))) ∧ Aside0 (w'.heap[fA]? = some (.cells #[.int .i64 kA, .int .i64 mA, .int .i64 nA, .int .i64 oA, pA] 44 (0, 0))) ∧ Aside0 (Below w.heap.size w w'))
 case atStart => exact ⟨(12), (0), (0), (0), (0), (0), (([] : List ByteArray)), (.slice none 0 0), sr_, sr_, H', ⟨Nat.le_refl _⟩, ⟨ni_⟩, ⟨uf_ bA dA.out⟩, ⟨up_ cA⟩, ⟨hs2_ hA.out iA.out⟩⟩
 case round =>
  clear H'
  try clear c8
  try clear c9
  try clear iC
  try clear gB
  try clear hB
  obtain ⟨uA, wA, qA, rA, sA, tA, jA, pA, rfl, rfl, HA, lI, aA, bA, cA, HB⟩ := hrel
  cases gk with
  | zero => exact absurd HA.out (by simp [impl_takeBatch.l0])
  | succ k1 =>
   have H := HA.out
   clear HA
   simp only [impl_takeBatch.l0] at H
   replace H := ite_ H
   obtain ⟨sB, H⟩ | ⟨sB, H⟩ := H
   ·have tB := decide_eq_true sB
    clear sB
    replace H := ite_ H
    obtain ⟨uB, H⟩ | ⟨uB, H⟩ := H
    ·have dB := dge_ uB
     (try (have c33x0 := dB; simp only [ByteArray.size_extract, Nat.min_self] at c33x0))
     clear uB
     simp only [Option.some.injEq, Prod.mk.injEq] at H
     obtain ⟨rfl, rfl, rfl, rfl, rfl, rfl, rfl⟩ := H
     have mI := dA.out
     have nI := eA.out
     obtain ⟨jC, kC, lC, mC, nC, oC, pC, qC, rC, sC⟩ := cf5_ bA.out
     go_wp2
     refine bodyPost_ret (results_ctt rfl _ _ gA 44 #[.int .i64 0, .int .i64 0, .int .i64 0, .int .i64 0, .slice none 0 0] (0, 0) _ rfl (up_ bA) Try.underlying44 rfl (by kernel_rfl)) rfl ?_
     exact ⟨_, er_, ni_, hs2_ hA.out iA.out⟩
    have dB := dne_ uB
    (try (have c33x0 := dB; simp only [ByteArray.size_extract, Nat.min_self] at c33x0))
    clear uB
    replace H := ifs_ H
    obtain ⟨kH, H⟩ := H
    have oI := eq_true kH
    have pI := decide_eq_true kH
    clear kH
    replace H := ifs_ H
    obtain ⟨lH, H⟩ := H
    have vB := eq_true lH
    have wB := decide_eq_true lH
    replace H := ifs_ H
    obtain ⟨mH, H⟩ := H
    have iB := eq_true mH
    have jB := decide_eq_true mH
    (try (have c38x0 := iB; simp only [ByteArray.size_extract, Nat.min_self] at c38x0))
    (try (have c38x1 := jB; simp only [ByteArray.size_extract, Nat.min_self] at c38x1))
    replace H := bnd_ H
    obtain ⟨xB, nH, H⟩ := H
    replace H := ite_ H
    obtain ⟨yB, H⟩ | ⟨yB, H⟩ := H
    ·have yA := dgt_ yB
     (try (have c40x0 := yA; simp only [ByteArray.size_extract, Nat.min_self] at c40x0))
     clear yB
     simp only [Option.some.injEq, Prod.mk.injEq] at H
     obtain ⟨rfl, rfl, rfl, rfl, rfl, rfl, rfl⟩ := H
     go_wp2_with (first | (go_at_call 98; (with_reducible refine (impl_get.calls k1 ((a0.extract (a1 : Int).toNat a0.size).extract (uA : Int).toNat ((wrap64 (uA + 1)) : Int).toNat) xB _ nH.out).mono ?_); rintro e w' ⟨rfl, ⟨nd, rfl⟩⟩; (try (rw [drewN_self wr]; replace aA := dR_ nd aA; replace bA := dK_ nd bA; replace cA := dK_ nd cA; replace HB := dH_ nd HB; generalize World.drewN wr nd = wr at aA bA cA HB ⊢)); have qI := dA.out; have rI := eA.out; obtain ⟨tC, uC, vC, wC, xC, yC, zC, aD, bD, cD⟩ := cf5_ bA.out))
     refine bodyPost_ret (results_ctt rfl _ _ gA 44 #[.int .i64 0, .int .i64 0, .int .i64 0, .int .i64 0, .slice none 0 0] (0, 0) _ rfl (up_ bA) Try.underlying44 rfl (by kernel_rfl)) rfl ?_
     exact ⟨_, er_, ni_, hs2_ hA.out iA.out⟩
    have yA := dgf_ yB
    (try (have c40x0 := yA; simp only [ByteArray.size_extract, Nat.min_self] at c40x0))
    clear yB
    have sI := eq_true (oa_ : 0 ≤ uA)
    have tI := eq_true (oa_ : uA ≤ (wrap64 (uA + 1)))
    have uI := eq_true (oa_ : (wrap64 (uA + 1)) ≤ ((a0.extract (a1 : Int).toNat a0.size).size : Int))
    replace H := bnd_ H
    obtain ⟨zA, vI, H⟩ := H
    obtain ⟨ji47, hji47⟩ : ∃ j_ : Int, (wrap64 (uA + 1)) = j_ := ⟨_, rfl⟩
    first | rw [hji47] at H | simp only [hji47] at H
    (try rw [hji47] at vB)
    (try rw [hji47] at wB)
    (try rw [hji47] at lH)
    (try rw [hji47] at iB)
    (try rw [hji47] at c38x0)
    (try rw [hji47] at jB)
    (try rw [hji47] at c38x1)
    (try rw [hji47] at mH)
    (try rw [hji47] at yA)
    (try rw [hji47] at c40x0)
    (try rw [hji47] at nH)
    (try rw [hji47] at vI)
    have hji47w : (IntKind.i64.wrap (uA + 1)) = ji47 := (i64_w _).trans hji47
    replace H := ifs_ H
    obtain ⟨oH, H⟩ := H
    have wI := eq_true oH
    have xI := decide_eq_true oH
    clear oH
    replace H := ifs_ H
    obtain ⟨yI, H⟩ := H
    have zI := eq_true yI
    have aJ := decide_eq_true yI
    replace H := ifs_ H
    obtain ⟨bJ, H⟩ := H
    have zB := eq_true bJ
    have aC := decide_eq_true bJ
    (try (have c50x0 := zB; simp only [ByteArray.size_extract, Nat.min_self] at c50x0))
    (try (have c50x1 := aC; simp only [ByteArray.size_extract, Nat.min_self] at c50x1))
    replace H := ifs_ H
    obtain ⟨cJ, H⟩ := H
    have bC := Aside0.mk cJ
    clear cJ
    obtain ⟨eB, xA⟩ : ∃ y_ : List ByteArray, y_ = (jA ++ [(a0.extract (a1 : Int).toNat a0.size).extract ((ji47) : Int).toNat ((wrap64 ((ji47) + zA)) : Int).toNat]) := ⟨_, rfl⟩
    replace H : (impl_takeBatch.l0 k1 a1 (a0.extract (a1 : Int).toNat a0.size) (wrap64 ((ji47) + zA)) cB (wrap64 (wA + 1)) kA mA nA oA eB) = some (r1, r2, r3, r4, r5, r6, r7) := by first | (rw [xA]; with_reducible exact H) | (have H2_ := (Option.bind_some _ _).symm.trans H; rw [xA]; with_reducible exact H2_) | (have H2_ := (Option.bind_some _ _).symm.trans H; with_reducible exact H2_) | with_reducible exact H | (rw [xA]; exact H) | exact H
    have cC := Aside0.mk xA
    clear xA
    have H' := Aside0.mk H
    clear H
    try go_wp2_with (first | (go_at_call 98; (with_reducible refine (impl_get.calls k1 ((a0.extract (a1 : Int).toNat a0.size).extract (uA : Int).toNat ((ji47) : Int).toNat) xB _ nH.out).mono ?_); rintro e w' ⟨rfl, ⟨nd, rfl⟩⟩; (try (rw [drewN_self wr]; replace aA := dR_ nd aA; replace bA := dK_ nd bA; replace cA := dK_ nd cA; replace HB := dH_ nd HB; generalize World.drewN wr nd = wr at aA bA cA HB ⊢))) | ((with_reducible refine gate_callee (f := 98) rfl ?_); refine gl_ 62 Try.func98 #[.string ((a0.extract (a1 : Int).toNat a0.size).extract (uA : Int).toNat ((ji47) : Int).toNat)] rfl (mb_ hji47) ?_; (with_reducible refine (impl_get.calls k1 ((a0.extract (a1 : Int).toNat a0.size).extract (uA : Int).toNat ((ji47) : Int).toNat) zA _ vI.out).mono ?_); rintro e w' ⟨rfl, ⟨nd, rfl⟩⟩; refine ⟨_, rfl, ?_⟩; (try (rw [drewN_self wr]; replace aA := dR_ nd aA; replace bA := dK_ nd bA; replace cA := dK_ nd cA; replace HB := dH_ nd HB; generalize World.drewN wr nd = wr at aA bA cA HB ⊢))))
    replace aA := qR_ aA
    replace bA := qK_ bA
    replace cA := qK_ cA
    replace HB := qH_ HB
    refine start_ (n := 11) (S := fun w' => w'.cell? ⟨fA, 0, none⟩ = some (.int .i64 kA) ∧ w'.cell? ⟨fA, 1, none⟩ = some (.int .i64 mA) ∧ w'.cell? ⟨fA, 2, none⟩ = some (.int .i64 nA) ∧ w'.cell? ⟨fA, 3, none⟩ = some (.int .i64 oA) ∧ w'.cell? ⟨fA, 4, none⟩ = some (pA)) (ds := [10]) (List.replicate 11 false).toArray (by kernel_rfl) rfl rfl ⟨bt_ cA 0, bt_ cA 1, bt_ cA 2, bt_ cA 3, bt_ cA 4⟩ (fun hHeld => ?_); refine with_tabW impl_takeBatch.tab11 impl_takeBatch.bits11 (fun HT_ HW_ => ?_)
    generalize wr.drew = zJ at aA bA cA HB hHeld ⊢
    refine pv_ 0 64 ?_
    refine pv_ 2 66 ?_
    refine pv_ 3 67 ?_
    refine pv_ 4 68 ?_
    refine pv_ 5 69 ?_
    refine pv_ 6 70 ?_
    refine tk_ 1 65 ?_
    refine on_ 7 71 (fun K hK => ?_)
    refine value_ (w1 := ?_) (v := ?_) (by rfl) rfl ?_ ?_
    rotate_left 2
    ·go_simp
     constructor
     ·rfl
     ·rfl
    refine hK.out _ _ ⟨(blk_cell (blk_alloc cA.out _) 0).trans rfl, (blk_cell (blk_alloc cA.out _) 1).trans rfl, (blk_cell (blk_alloc cA.out _) 2).trans rfl, (blk_cell (blk_alloc cA.out _) 3).trans rfl, (blk_cell (blk_alloc cA.out _) 4).trans rfl⟩ (fun hHeld => ?_)
    clear hK K
    refine no_ ?_
    refine on_ 8 72 (fun K hK => ?_)
    refine Kd.R_append_step Kd.string (w0 := w) w.heap.size (by rfl) (.tmp 65) (.tmp 71) 38 9 (.string ⟨#[]⟩) 16 rfl Try.underlying38 info9 rfl (by decide) (by omega) pA jA ((a0.extract (a1 : Int).toNat a0.size).extract ((ji47) : Int).toNat ((wrap64 ((ji47) + zA)) : Int).toNat) [.string ((a0.extract (a1 : Int).toNat a0.size).extract ((ji47) : Int).toNat ((wrap64 ((ji47) + zA)) : Int).toNat)] (fun _ => True) (fun _ => False) rfl rfl ?aP (fun _ hk => hk.elim) ?aF ?aO ?aB ?aS ?aL ?_
    (case aP => exact rfl)
    (case aB => exact (hs2_ hA.out iA.out))
    (case aF => exact (fun _ _ => trivial))
    (case aO => exact (kr_ aA.out))
    (case aS => exact (below_size (hs2_ hA.out iA.out)))
    (case aL => have := bC.out; omega)
    intro uJ vJ ho hb hg hat
    rw [← cC.out] at ho
    replace bA := Aside0.mk (blk_grown (g := gA) (o := .cells #[.int .i64 qA, .int .i64 rA, .int .i64 sA, .int .i64 tA, .slice none 0 0] 44 (0, 0)) (kb_ bA.out) hg (Kd.R_ne aA.out bA.out (by decide)))
    replace cA := Aside0.mk (blk_grown (g := fA) (o := .cells #[.int .i64 kA, .int .i64 mA, .int .i64 nA, .int .i64 oA, pA] 44 (0, 0)) (kb_ cA.out) hg (Kd.R_ne aA.out cA.out (by decide)))
    replace HB := Aside0.mk (hb)
    have kB := Aside0.mk (ho)
    clear aA
    clear ho hb hg hat
    obtain ⟨dC, eC, fC⟩ := Kd.R_slice kB.out
    (first | subst fC | (injection fC with f1_ f2_ f3_; have f4_ := f1_.symm; have f5_ := f3_.symm; clear f1_ f2_ f3_; subst f4_; subst f5_))
    refine hK.out _ _ ⟨bt_ cA 0, bt_ cA 1, bt_ cA 2, bt_ cA 3, bt_ cA 4⟩ (fun hHeld => ?_)
    clear hK K
    refine no_ ?_
    refine pv_ 9 73 ?_
    refine last_ (i := 10) (N := none) #[true, true, true, true, true, true, true, true, true, true, true] rfl rfl (one_of HT_.out (by kernel_rfl)) (by decide) (fun K hK => ?_)
    have hs55 : vJ.cell? ⟨fA, 4, none⟩ = some (pA) := bt_ cA 4
    have hfs55 := blk_frozen cA.out 4
    have hns55_0 := dA.out
    have hms55_0 := eA.out
    refine skip_ (w1 := ?_) (by rfl) rfl ?_ ?_
    rotate_left
    ·go_simp
     rfl
    refine hK.out _ _ ?_
    clear hK K
    refine done_ (done_of HT_.out (by kernel_rfl)) ?_
    try go_wp2
    go_roundg k1
    case measure => have := lI.out; omega
    case rel => exact ⟨(wrap64 ((ji47) + zA)), (wrap64 (wA + 1)), (qA), (rA), (sA), (tA), (eB), (.slice dC eB.length eC), (by first | rfl | (simp; done) | (simp only [← hji47] <;> (first | rfl | simp)) | (simp [*]; done)), sr_, H', ⟨by have := lI.out; omega⟩, ⟨rF_ (Kd.R_mono (Kd.R_far (p := ⟨fA, 4, none⟩) (Kd.R_types kB.out cA.out (by decide)) (fun _ hk => hk.2) (.slice dC eB.length eC)) (fun _ hk => trivial))⟩, ⟨uf_ bA dA.out⟩, ⟨up_ cA⟩, ⟨hs2_ hA.out iA.out⟩⟩
   have tB := decide_eq_false sB
   clear sB
   replace H := bnd_ H
   obtain ⟨wJ, pH, H⟩ := H
   replace H := ifb_ H
   obtain ⟨rfl, H⟩ | ⟨rfl, H⟩ := H
   rotate_left
   ·simp only [Option.some.injEq, Prod.mk.injEq] at H
    obtain ⟨rfl, rfl, rfl, rfl, rfl, rfl, rfl⟩ := H
    have dJ := eA.out
    have eJ := dA.out
    obtain ⟨dD, eD, fD, gD, hD, iD, jD, kD, lD, mD⟩ := cf5_ cA.out
    obtain ⟨qH, rH, sH⟩ := Kd.R_slice aA.out
    subst sH
    go_wp2_with (first | ((with_reducible refine gate_callee (f := 63) rfl ?_); refine gl_ 77 Try.func63 #[.agg #[.int .i64 kA, .int .i64 mA, .int .i64 nA, .int .i64 oA, .slice qH jA.length rH]] rfl ma_ ?_; (with_reducible refine (impl_isBatch.calls kA mA nA oA _ _ jA false _ ?side1 ?side2 pH.out).mono ?_); (case side1 => exact cs_ ((Kd.R_reads' aA.out).2.2)); (case side2 => exact (Kd.R_reads' aA.out).2.1); rintro e aK ⟨rfl, hb⟩; refine ⟨_, rfl, ?_⟩; replace aA := rB_ aA hb; replace bA := bK_ bA hb; replace cA := bK_ cA hb; replace HB := nc2_ hA iA hb; (try clear hb); (try clear hb2); (try clear hk); (try clear hi); obtain ⟨nD, oD, pD, qD, rD, sD, tD, uD, vD, wD⟩ := cf5_ bA.out))
    refine bodyPost_ret (results_ctt rfl _ _ gA 44 #[.int .i64 0, .int .i64 0, .int .i64 0, .int .i64 0, .slice none 0 0] (0, 0) _ rfl (up_ bA) Try.underlying44 rfl (by kernel_rfl)) rfl ?_
    exact ⟨_, er_, ni_, hs2_ hA.out iA.out⟩
   replace H := bnd_ H
   obtain ⟨fB, fJ, H⟩ := H
   replace H := bnd_ H
   obtain ⟨xJ, gJ, H⟩ := H
   replace H := ifb_ H
   obtain ⟨rfl, H⟩ | ⟨rfl, H⟩ := H
   rotate_left
   ·simp only [Option.some.injEq, Prod.mk.injEq] at H
    obtain ⟨rfl, rfl, rfl, rfl, rfl, rfl, rfl⟩ := H
    have hJ := eA.out
    have iJ := dA.out
    obtain ⟨xD, yD, zD, aE, bE, cE, dE, eE, fE, gE⟩ := cf5_ cA.out
    obtain ⟨tH, uH, vH⟩ := Kd.R_slice aA.out
    subst vH
    go_wp2_with (first | ((with_reducible refine gate_callee (f := 63) rfl ?_); refine gl_ 77 Try.func63 #[.agg #[.int .i64 kA, .int .i64 mA, .int .i64 nA, .int .i64 oA, .slice tH jA.length uH]] rfl ma_ ?_; (with_reducible refine (impl_isBatch.calls kA mA nA oA _ _ jA true _ ?side1 ?side2 pH.out).mono ?_); (case side1 => exact cs_ ((Kd.R_reads' aA.out).2.2)); (case side2 => exact (Kd.R_reads' aA.out).2.1); rintro e bK ⟨rfl, hb⟩; refine ⟨_, rfl, ?_⟩; replace aA := rB_ aA hb; replace bA := bK_ bA hb; replace cA := bK_ cA hb; replace HB := nc2_ hA iA hb; (try clear hb); (try clear hb2); (try clear hk); (try clear hi); obtain ⟨hE, iE, jE, kE, lE, mE, nE, oE, pE, qE⟩ := cf5_ cA.out) | (go_at_call 64; (with_reducible refine (impl_batchBytes.calls k1 kA mA nA oA _ _ jA fB _ ?side1 ?side2 fJ.out).mono ?_); (case side1 => exact cs_ ((Kd.R_reads' aA.out).2.2)); (case side2 => exact (Kd.R_reads' aA.out).2.1); rintro e wH ⟨rfl, hb⟩; replace aA := rB_ aA hb; replace bA := bK_ bA hb; replace cA := bK_ cA hb; replace HB := nc2_ hA iA hb; (try clear hb); (try clear hb2); (try clear hk); (try clear hi)) | (go_at_call 99; (with_reducible refine (strings_HasPrefix.calls (a0.extract (a1 : Int).toNat a0.size) fB false _ gJ.out).mono ?_); rintro e w' ⟨rfl, ⟨nd, rfl⟩⟩; (try (rw [drewN_self wH]; replace aA := dR_ nd aA; replace bA := dK_ nd bA; replace cA := dK_ nd cA; replace HB := dH_ nd HB; generalize World.drewN wH nd = wH at aA bA cA HB ⊢)); obtain ⟨rE, sE, tE, uE, vE, wE, xE, yE, zE, bF⟩ := cf5_ bA.out))
    refine bodyPost_ret (results_ctt rfl _ _ gA 44 #[.int .i64 0, .int .i64 0, .int .i64 0, .int .i64 0, .slice none 0 0] (0, 0) _ rfl (up_ bA) Try.underlying44 rfl (by kernel_rfl)) rfl ?_
    exact ⟨_, er_, ni_, hs2_ hA.out iA.out⟩
   simp only [Option.some.injEq, Prod.mk.injEq] at H
   obtain ⟨rfl, rfl, rfl, rfl, rfl, rfl, rfl⟩ := H
   have jJ := eA.out
   have kJ := dA.out
   obtain ⟨cF, dF, eF, fF, gF, hF, iF, jF, kF, lF⟩ := cf5_ cA.out
   obtain ⟨gC, hC, xH⟩ := Kd.R_slice aA.out
   subst xH
   go_wp2_with (first | ((with_reducible refine gate_callee (f := 63) rfl ?_); refine gl_ 77 Try.func63 #[.agg #[.int .i64 kA, .int .i64 mA, .int .i64 nA, .int .i64 oA, .slice gC jA.length hC]] rfl ma_ ?_; (with_reducible refine (impl_isBatch.calls kA mA nA oA _ _ jA true _ ?side1 ?side2 pH.out).mono ?_); (case side1 => exact cs_ ((Kd.R_reads' aA.out).2.2)); (case side2 => exact (Kd.R_reads' aA.out).2.1); rintro e cK ⟨rfl, hb⟩; refine ⟨_, rfl, ?_⟩; replace aA := rB_ aA hb; replace bA := bK_ bA hb; replace cA := bK_ cA hb; replace HB := nc2_ hA iA hb; (try clear hb); (try clear hb2); (try clear hk); (try clear hi); obtain ⟨mF, nF, oF, pF, qF, rF, sF, tF, uF, vF⟩ := cf5_ cA.out) | (go_at_call 64; (with_reducible refine (impl_batchBytes.calls k1 kA mA nA oA _ _ jA fB _ ?side1 ?side2 fJ.out).mono ?_); (case side1 => exact cs_ ((Kd.R_reads' aA.out).2.2)); (case side2 => exact (Kd.R_reads' aA.out).2.1); rintro e yH ⟨rfl, hb⟩; replace aA := rB_ aA hb; replace bA := bK_ bA hb; replace cA := bK_ cA hb; replace HB := nc2_ hA iA hb; (try clear hb); (try clear hb2); (try clear hk); (try clear hi)) | (go_at_call 99; (with_reducible refine (strings_HasPrefix.calls (a0.extract (a1 : Int).toNat a0.size) fB true _ gJ.out).mono ?_); rintro e w' ⟨rfl, ⟨nd, rfl⟩⟩; (try (rw [drewN_self yH]; replace aA := dR_ nd aA; replace bA := dK_ nd bA; replace cA := dK_ nd cA; replace HB := dH_ nd HB; generalize World.drewN yH nd = yH at aA bA cA HB ⊢)); obtain ⟨wF, xF, yF, zF, aG, bG, cG, dG, eG, fG⟩ := cf5_ cA.out; obtain ⟨gG, hG, iG, jG, kG, lG, mG, nG, oG, pG⟩ := cf5_ bA.out))
   refine bodyPost_ret (results_ctt rfl _ _ gA 44 #[.int .i64 kA, .int .i64 mA, .int .i64 nA, .int .i64 oA, .slice gC jA.length hC] (0, 0) _ rfl (up_ bA) Try.underlying44 rfl (by kernel_rfl)) rfl ?_
   exact ⟨_, er_, Kd.R_mono (rF_ (Kd.R_types aA.out bA.out (by decide))) (fun _ hk => trivial), hs2_ hA.out iA.out⟩
end Go.Proofs.Ytpdpipfkllfhmaa.QFnDisks
