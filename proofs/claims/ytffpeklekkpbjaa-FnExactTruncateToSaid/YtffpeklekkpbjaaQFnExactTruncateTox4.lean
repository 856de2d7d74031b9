/- Functions that one statement reaches: of each a plain function, and the proof that calls come to it. Conditions: those that each contract names. Written by a program of this repository. -/
import Derived.Test.YtffpeklekkpbjaaVTruncateToa
import Derived.Test.YtffpeklekkpbjaaQFnExactTruncateTox2
import Derived.Test.YtffpeklekkpbjaaQFnExactTruncateTox3
namespace Go.Proofs.Ytffpeklekkpbjaa.QFnExactTruncateTo
open Go.RowKit Go.Proofs.YtffpeklekkpbjaaW.PrintWords Go.Proofs.YtffpeklekkpbjaaW.PrintLast Go.Proofs.YtffpeklekkpbjaaW.PrintMore
attribute [local go_sem] max2_int min2_int max_two min_two max_three min_three max_four min_four Go.Proofs.YtffpeklekkpbjaaW.PrintMore2.isSome_setCell   -- for this text's walks alone
set_option linter.unusedVariables false
set_option linter.unusedSimpArgs false

/-! ### laws_heldMarkS: function 96 -/
def laws_heldMarkS.l0 : Nat → List (S89) → Int → Int → Option (Int)
 | 0, _, _, _ => none
 | k + 1, x0, x1, x5 => if x5 < (x0.length : Int) then (if 0 ≤ x5 then (if ((rd_T89 x0 x5).f0) = x1 then (if ((rd_T89 x0 x5).f1) = (wrap64 (x1 + 1)) then (laws_heldMarkS.l0 k x0 (wrap64 ((wrap64 (x1 + 1)) + 1)) (wrap64 (x5 + 1))) else (some (-1))) else (some (-1))) else (none)) else (some x1)
def laws_heldMarkS.f (k : Nat) (l0 : List (S89)) (a1 : Int) : Option (Int) := laws_heldMarkS.l0 k l0 a1 0
theorem laws_heldMarkS.mono_l : ∀ k, (∀ y0 y1 y2, LeO (laws_heldMarkS.l0 k y0 y1 y2) (laws_heldMarkS.l0 (k + 1) y0 y1 y2))
 | 0 => fun _ _ _ r h => by simp [laws_heldMarkS.l0] at h
 | k + 1 => by
  have ih0 := laws_heldMarkS.mono_l k
  ·intro y0 y1 y2
   unfold laws_heldMarkS.l0
   repeat' first
   | (with_reducible first | apply ih0 | exact LeO.refl _ | exact LeO.none _ | refine LeO.ite ?_ ?_ | refine LeO.bind ?_ (fun _ => ?_))
theorem laws_heldMarkS.mono : ∀ a0 a1 k, LeO (laws_heldMarkS.f k a0 a1) (laws_heldMarkS.f (k + 1) a0 a1) := by
 intro a0 a1 k
 have ih0 := laws_heldMarkS.mono_l k
 unfold laws_heldMarkS.f
 repeat' first
   | (with_reducible first | apply ih0 | exact LeO.refl _ | exact LeO.none _ | refine LeO.ite ?_ ?_ | refine LeO.bind ?_ (fun _ => ?_))
set_option maxHeartbeats 8000000 in
set_option maxRecDepth 100000 in
theorem laws_heldMarkS.calls (k : Nat) (A0 : Option Addr) (c0 : Nat) (l0 : List (S89)) (a1 : Int) (r : Int) (w : World) (hr0 : Kd.C k89 w A0 l0.length l0) (hc0 : l0.length ≤ c0) (h : laws_heldMarkS.f k l0 a1 = some r) :
  Calls Try.prog 96 #[.slice A0 l0.length c0, .int .i64 a1] w fun e w' => e = .returned (.int .i64 r) ∧ Drawn0 w w' := by
 have HR0 := Aside0.mk hr0
 have HC0 := Aside0.mk hc0
 clear hr0 hc0
 have H : (laws_heldMarkS.l0 k l0 a1 0) = some r := h
 clear h
 have H' := Aside0.mk H
 clear H
 go_enter Try.func96, Try.ntmps96
 go_wp2
 go_loopg [1, 5] k (fun kq v1 v5 w' => ∃ (x1_1 : Int) (x5_1 : Int), v1 = .int .i64 x1_1 ∧ v5 = .int .i64 x5_1 ∧ Aside0 (laws_heldMarkS.l0 kq l0 x1_1 x5_1 = some r) ∧ Aside0 (kq ≤ k) ∧ Drawn0 w w')
 case atStart => exact ⟨(a1), (0), sr_, sr_, H', ⟨Nat.le_refl _⟩, dr_⟩
 case round =>
  clear H'
  obtain ⟨x1_1, x5_1, rfl, rfl, HA, HK1, ⟨m1, rfl⟩⟩ := hrel
  cases gk with
  | zero => exact absurd HA.out (by simp [laws_heldMarkS.l0])
  | succ k1 =>
   have H := HA.out
   clear HA
   simp only [laws_heldMarkS.l0] at H
   replace H := ite_ H
   obtain ⟨c3, H⟩ | ⟨c3, H⟩ := H
   rotate_left
   ·have c3b0 := decide_eq_false c3
    clear c3
    obtain rfl := Option.some.inj H
    go_wp2
    go_ret
    exact ⟨by first | rfl | (simp; done) | (simp [*]; done), dr_⟩
   have c3b0 := decide_eq_true c3
   clear c3
   replace H := ifs_ H
   obtain ⟨c4, H⟩ := H
   have c4b0 := decide_eq_true c4
   clear c4
   replace H := ite_ H
   obtain ⟨c5, H⟩ | ⟨c5, H⟩ := H
   rotate_left
   ·have c5b0 : (((rd_T89 l0 x5_1).f0) == x1_1) = false := beq_eq_false_iff_ne.mpr c5
    have c5b1 : (((rd_T89 l0 x5_1).f0) != x1_1) = true := bne_iff_ne.mpr c5
    obtain rfl := Option.some.inj H
    have p120 : 0 ≤ (x5_1 : Int) := oa_
    have q120 : x5_1 < (l0.length : Int) := oa_
    obtain ⟨ad120, e120, hx120_0, hx120_1⟩ := at_T89 HR0.out x5_1 p120 q120
    cases e120
    replace p120 := eq_true p120
    replace q120 := eq_true q120
    go_wp2
    go_ret
    exact ⟨by first | rfl | (simp; done) | (simp [*]; done), dr_⟩
   have c5b0 : (((rd_T89 l0 x5_1).f0) == x1_1) = true := beq_iff_eq.mpr c5
   have c5b1 : (((rd_T89 l0 x5_1).f0) != x1_1) = false := bne_eq_false_iff_eq.mpr c5
   clear c5
   replace H := ite_ H
   obtain ⟨c6, H⟩ | ⟨c6, H⟩ := H
   rotate_left
   ·have c6b0 : (((rd_T89 l0 x5_1).f1) == (wrap64 (x1_1 + 1))) = false := beq_eq_false_iff_ne.mpr c6
    have c6b1 : (((rd_T89 l0 x5_1).f1) != (wrap64 (x1_1 + 1))) = true := bne_iff_ne.mpr c6
    obtain rfl := Option.some.inj H
    have p120 : 0 ≤ (x5_1 : Int) := oa_
    have q120 : x5_1 < (l0.length : Int) := oa_
    obtain ⟨ad120, e120, hx120_0, hx120_1⟩ := at_T89 HR0.out x5_1 p120 q120
    cases e120
    replace p120 := eq_true p120
    replace q120 := eq_true q120
    have p121 : 0 ≤ (x5_1 : Int) := oa_
    have q121 : x5_1 < (l0.length : Int) := oa_
    obtain ⟨ad121, e121, hx121_0, hx121_1⟩ := at_T89 HR0.out x5_1 p121 q121
    obtain rfl : ad120 = ad121 := (by injection e121)
    replace p121 := eq_true p121
    replace q121 := eq_true q121
    go_wp2
    go_ret
    exact ⟨by first | rfl | (simp; done) | (simp [*]; done), dr_⟩
   have c6b0 : (((rd_T89 l0 x5_1).f1) == (wrap64 (x1_1 + 1))) = true := beq_iff_eq.mpr c6
   have c6b1 : (((rd_T89 l0 x5_1).f1) != (wrap64 (x1_1 + 1))) = false := bne_eq_false_iff_eq.mpr c6
   clear c6
   have H' := Aside0.mk H
   clear H
   have p120 : 0 ≤ (x5_1 : Int) := oa_
   have q120 : x5_1 < (l0.length : Int) := oa_
   obtain ⟨ad120, e120, hx120_0, hx120_1⟩ := at_T89 HR0.out x5_1 p120 q120
   cases e120
   replace p120 := eq_true p120
   replace q120 := eq_true q120
   have p121 : 0 ≤ (x5_1 : Int) := oa_
   have q121 : x5_1 < (l0.length : Int) := oa_
   obtain ⟨ad121, e121, hx121_0, hx121_1⟩ := at_T89 HR0.out x5_1 p121 q121
   obtain rfl : ad120 = ad121 := (by injection e121)
   replace p121 := eq_true p121
   replace q121 := eq_true q121
   go_wp2
   go_roundg k1
   case measure => have := HK1.out; omega
   case rel => exact ⟨(wrap64 ((wrap64 (x1_1 + 1)) + 1)), (wrap64 (x5_1 + 1)), sr_, sr_, H', ⟨by have := HK1.out; omega⟩, dr_⟩

/-! ### laws_heldSegmentS: function 61 -/
def laws_heldSegmentS.l0 : Nat → List (S65) → Int → Int → Option (Int)
 | 0, _, _, _ => none
 | k + 1, x0, x1, x5 => if x5 < (x0.length : Int) then (if 0 ≤ x5 then (if ((rd_T65 x0 x5).f0) = x1 then ((laws_markText.f k (wrap64 (x1 + 1))).bind fun t124 => (if ((rd_T65 x0 x5).f1).toList = t124.toList then ((laws_heldMarkS.f k ((rd_T65 x0 x5).f2) (wrap64 ((wrap64 (x1 + 1)) + 1))).bind fun t126 => (if t126 < 0 then (some (-1)) else (laws_heldSegmentS.l0 k x0 t126 (wrap64 (x5 + 1))))) else (some (-1)))) else (some (-1))) else (none)) else (some x1)
def laws_heldSegmentS.f (k : Nat) (l0 : List (S65)) (a1 : Int) : Option (Int) := laws_heldSegmentS.l0 k l0 a1 0
theorem laws_heldSegmentS.mono_l : ∀ k, (∀ y0 y1 y2, LeO (laws_heldSegmentS.l0 k y0 y1 y2) (laws_heldSegmentS.l0 (k + 1) y0 y1 y2))
 | 0 => fun _ _ _ r h => by simp [laws_heldSegmentS.l0] at h
 | k + 1 => by
  have ih0 := laws_heldSegmentS.mono_l k
  ·intro y0 y1 y2
   unfold laws_heldSegmentS.l0
   repeat' first
   | (with_reducible first | apply ih0 | apply laws_heldMarkS.mono | apply laws_markText.mono | exact LeO.refl _ | exact LeO.none _ | refine LeO.ite ?_ ?_ | refine LeO.bind ?_ (fun _ => ?_))
theorem laws_heldSegmentS.mono : ∀ a0 a1 k, LeO (laws_heldSegmentS.f k a0 a1) (laws_heldSegmentS.f (k + 1) a0 a1) := by
 intro a0 a1 k
 have ih0 := laws_heldSegmentS.mono_l k
 unfold laws_heldSegmentS.f
 repeat' first
   | (with_reducible first | apply ih0 | apply laws_heldMarkS.mono | apply laws_markText.mono | exact LeO.refl _ | exact LeO.none _ | refine LeO.ite ?_ ?_ | refine LeO.bind ?_ (fun _ => ?_))
def laws_heldSegmentS.T7 : Bool × List (List Nat × List Nat) := (true, [([], []), ([], []), ([0, 1], [0, 1]), ([2], [2]), ([3], [3]), ([], []), ([5], [5]), ([4, 6], [4, 6])])
def laws_heldSegmentS.B7 : List Nat := [0, 0, 3, 7, 15, 0, 32, 127]
theorem laws_heldSegmentS.tab7 : rtab .any (opsOf Try.f61 7) = laws_heldSegmentS.T7 := by kernel_rfl
theorem laws_heldSegmentS.bits7 : waitsOk laws_heldSegmentS.T7.2 laws_heldSegmentS.B7 = true := by kernel_rfl
set_option maxHeartbeats 8000000 in
set_option maxRecDepth 100000 in
theorem laws_heldSegmentS.calls (k : Nat) (A0 : Option Addr) (c0 : Nat) (l0 : List (S65)) (a1 : Int) (r : Int) (w : World) (hr0 : Kd.C k65 w A0 l0.length l0) (hc0 : l0.length ≤ c0) (h : laws_heldSegmentS.f k l0 a1 = some r) :
  Calls Try.prog 61 #[.slice A0 l0.length c0, .int .i64 a1] w fun e w' => e = .returned (.int .i64 r) ∧ Below w.heap.size w w' := by
 have HR0 := Aside0.mk hr0
 have HC0 := Aside0.mk hc0
 clear hr0 hc0
 have HB := Aside0.mk (Below.refl w.heap.size w)
 have H : (laws_heldSegmentS.l0 k l0 a1 0) = some r := h
 clear h
 have H' := Aside0.mk H
 clear H
 go_enter Try.func61, Try.ntmps61
 go_wp2
 go_loopg [1, 5] k (fun kq v1 v5 w' => ∃ (x1_1 : Int) (x5_1 : Int), v1 = .int .i64 x1_1 ∧ v5 = .int .i64 x5_1 ∧ Aside0 (laws_heldSegmentS.l0 kq l0 x1_1 x5_1 = some r) ∧ Aside0 (kq ≤ k) ∧ Aside0 (Below w.heap.size w w'))
 case atStart => exact ⟨(a1), (0), sr_, sr_, H', ⟨Nat.le_refl _⟩, ⟨hb_⟩⟩
 case round =>
  clear H'
  obtain ⟨x1_1, x5_1, rfl, rfl, HA, HK1, HB⟩ := hrel
  cases gk with
  | zero => exact absurd HA.out (by simp [laws_heldSegmentS.l0])
  | succ k1 =>
   have H := HA.out
   clear HA
   simp only [laws_heldSegmentS.l0] at H
   replace H := ite_ H
   obtain ⟨c3, H⟩ | ⟨c3, H⟩ := H
   rotate_left
   ·have c3b0 := decide_eq_false c3
    clear c3
    obtain rfl := Option.some.inj H
    go_wp2
    go_ret
    exact ⟨er_, hb_⟩
   have c3b0 := decide_eq_true c3
   clear c3
   replace H := ifs_ H
   obtain ⟨c4, H⟩ := H
   have c4b0 := decide_eq_true c4
   clear c4
   replace H := ite_ H
   obtain ⟨c5, H⟩ | ⟨c5, H⟩ := H
   rotate_left
   ·have c5b0 : (((rd_T65 l0 x5_1).f0) == x1_1) = false := beq_eq_false_iff_ne.mpr c5
    have c5b1 : (((rd_T65 l0 x5_1).f0) != x1_1) = true := bne_iff_ne.mpr c5
    obtain rfl := Option.some.inj H
    have p122 : 0 ≤ (x5_1 : Int) := oa_
    have q122 : x5_1 < (l0.length : Int) := oa_
    obtain ⟨ad122, A122_2, c122_2, e122, hx122_0, hx122_1, hx122_2, hl122_2, hi122_2⟩ := at_T65 HR0.out x5_1 p122 q122
    cases e122
    replace hx122_0 := pc_ HB.out hx122_0
    replace hx122_1 := pc_ HB.out hx122_1
    replace hx122_2 := pc_ HB.out hx122_2
    have HR122_2 := Aside0.mk hi122_2
    have HC122_2 := Aside0.mk hl122_2
    clear hi122_2 hl122_2
    replace p122 := eq_true p122
    replace q122 := eq_true q122
    go_wp2
    go_ret
    exact ⟨er_, hb_⟩
   have c5b0 : (((rd_T65 l0 x5_1).f0) == x1_1) = true := beq_iff_eq.mpr c5
   have c5b1 : (((rd_T65 l0 x5_1).f0) != x1_1) = false := bne_eq_false_iff_eq.mpr c5
   clear c5
   replace H := bnd_ H
   obtain ⟨t124, A6, H⟩ := H
   replace H := ite_ H
   obtain ⟨c7, H⟩ | ⟨c7, H⟩ := H
   rotate_left
   ·have c7b0 : (((rd_T65 l0 x5_1).f1).toList == t124.toList) = false := beq_eq_false_iff_ne.mpr c7
    have c7b1 : (((rd_T65 l0 x5_1).f1).toList != t124.toList) = true := bne_iff_ne.mpr c7
    obtain rfl := Option.some.inj H
    have p122 : 0 ≤ (x5_1 : Int) := oa_
    have q122 : x5_1 < (l0.length : Int) := oa_
    obtain ⟨ad122, A122_2, c122_2, e122, hx122_0, hx122_1, hx122_2, hl122_2, hi122_2⟩ := at_T65 HR0.out x5_1 p122 q122
    cases e122
    replace hx122_0 := pc_ HB.out hx122_0
    replace hx122_1 := pc_ HB.out hx122_1
    replace hx122_2 := pc_ HB.out hx122_2
    have HR122_2 := Aside0.mk hi122_2
    have HC122_2 := Aside0.mk hl122_2
    clear hi122_2 hl122_2
    replace p122 := eq_true p122
    replace q122 := eq_true q122
    try go_wp2
    replace HB := qH_ HB
    have p123 : 0 ≤ (x5_1 : Int) := oa_
    have q123 : x5_1 < (l0.length : Int) := oa_
    obtain ⟨ad123, A123_2, c123_2, e123, hx123_0, hx123_1, hx123_2, hl123_2, hi123_2⟩ := at_T65 HR0.out x5_1 p123 q123
    have hw123_2 := hx123_2
    have hw123_1 := hx123_1
    have hw123_0 := hx123_0
    obtain rfl : ad122 = ad123 := (by injection e123)
    replace hx123_0 := pc_ HB.out hx123_0
    replace hx123_1 := pc_ HB.out hx123_1
    replace hx123_2 := pc_ HB.out hx123_2
    have HR123_2 := Aside0.mk hi123_2
    have HC123_2 := Aside0.mk hl123_2
    clear hi123_2 hl123_2
    replace p123 := eq_true p123
    replace q123 := eq_true q123
    refine start_ (n := 8) (S := fun w' => w'.cell? (ad122.add ((x5_1).toNat * 3)) = some (.int .i64 ((rd_T65 l0 x5_1).f0)) ∧ w'.cell? ⟨(ad122.add ((x5_1).toNat * 3)).block, (ad122.add ((x5_1).toNat * 3)).off + 1, none⟩ = some (.string ((rd_T65 l0 x5_1).f1)) ∧ w'.cell? ⟨(ad122.add ((x5_1).toNat * 3)).block, (ad122.add ((x5_1).toNat * 3)).off + 2, none⟩ = some (.slice A123_2 ((rd_T65 l0 x5_1).f2).length c123_2)) (ds := []) #[false, false, false, false, false, false, false, false] (by kernel_rfl) rfl rfl ⟨(pc_ HB.out hw123_0), (pc_ HB.out hw123_1), (pc_ HB.out hw123_2)⟩ (fun hHeld => ?_); refine with_tabW laws_heldSegmentS.tab7 laws_heldSegmentS.bits7 (fun HT_ HW_ => ?_)
    generalize wr.drew = w14 at HB HR123_2 hx123_0 hx123_1 hx123_2 hHeld ⊢
    refine pv_ 0 21 ?_
    refine pv_ 1 22 ?_
    refine pv_ 2 23 ?_
    refine pv_ 3 24 ?_
    refine pv_ 5 26 ?_
    refine tk_ 4 25 ?_
    refine on_ 6 27 (fun K hK => ?_)
    refine gs_ Try.func85 #[.int .i64 (wrap64 (x1_1 + 1))] rfl ma_ ?_
    with_reducible refine (laws_markText.calls k1 (wrap64 (x1_1 + 1)) t124 _ A6.out).mono ?_
    rintro e w15 ⟨rfl, hb⟩
    refine ⟨_, rfl, ?_⟩
    replace HB := nb_ hb
    (try clear hb)
    (try clear hb2)
    (try clear hk)
    (try clear hi)
    refine hK.out _ _ ⟨(pc_ HB.out hw123_0), (pc_ HB.out hw123_1), (pc_ HB.out hw123_2)⟩ (fun hHeld => ?_)
    clear hK K
    refine no_ ?_
    refine pv_ 7 28 ?_
    refine done_ (done_of HT_.out (by kernel_rfl)) ?_
    try go_wp2
    go_ret
    exact ⟨er_, hb_⟩
   have c7b0 : (((rd_T65 l0 x5_1).f1).toList == t124.toList) = true := beq_iff_eq.mpr c7
   have c7b1 : (((rd_T65 l0 x5_1).f1).toList != t124.toList) = false := bne_eq_false_iff_eq.mpr c7
   clear c7
   replace H := bnd_ H
   obtain ⟨t126, A8, H⟩ := H
   replace H := ite_ H
   obtain ⟨c9, H⟩ | ⟨c9, H⟩ := H
   ·have c9b0 := decide_eq_true c9
    clear c9
    obtain rfl := Option.some.inj H
    have p122 : 0 ≤ (x5_1 : Int) := oa_
    have q122 : x5_1 < (l0.length : Int) := oa_
    obtain ⟨ad122, A122_2, c122_2, e122, hx122_0, hx122_1, hx122_2, hl122_2, hi122_2⟩ := at_T65 HR0.out x5_1 p122 q122
    cases e122
    replace hx122_0 := pc_ HB.out hx122_0
    replace hx122_1 := pc_ HB.out hx122_1
    replace hx122_2 := pc_ HB.out hx122_2
    have HR122_2 := Aside0.mk hi122_2
    have HC122_2 := Aside0.mk hl122_2
    clear hi122_2 hl122_2
    replace p122 := eq_true p122
    replace q122 := eq_true q122
    try go_wp2
    replace HB := qH_ HB
    have p123 : 0 ≤ (x5_1 : Int) := oa_
    have q123 : x5_1 < (l0.length : Int) := oa_
    obtain ⟨ad123, A123_2, c123_2, e123, hx123_0, hx123_1, hx123_2, hl123_2, hi123_2⟩ := at_T65 HR0.out x5_1 p123 q123
    have hw123_2 := hx123_2
    have hw123_1 := hx123_1
    have hw123_0 := hx123_0
    obtain rfl : ad122 = ad123 := (by injection e123)
    replace hx123_0 := pc_ HB.out hx123_0
    replace hx123_1 := pc_ HB.out hx123_1
    replace hx123_2 := pc_ HB.out hx123_2
    have HR123_2 := Aside0.mk hi123_2
    have HC123_2 := Aside0.mk hl123_2
    clear hi123_2 hl123_2
    replace p123 := eq_true p123
    replace q123 := eq_true q123
    refine start_ (n := 8) (S := fun w' => w'.cell? (ad122.add ((x5_1).toNat * 3)) = some (.int .i64 ((rd_T65 l0 x5_1).f0)) ∧ w'.cell? ⟨(ad122.add ((x5_1).toNat * 3)).block, (ad122.add ((x5_1).toNat * 3)).off + 1, none⟩ = some (.string ((rd_T65 l0 x5_1).f1)) ∧ w'.cell? ⟨(ad122.add ((x5_1).toNat * 3)).block, (ad122.add ((x5_1).toNat * 3)).off + 2, none⟩ = some (.slice A123_2 ((rd_T65 l0 x5_1).f2).length c123_2)) (ds := []) #[false, false, false, false, false, false, false, false] (by kernel_rfl) rfl rfl ⟨(pc_ HB.out hw123_0), (pc_ HB.out hw123_1), (pc_ HB.out hw123_2)⟩ (fun hHeld => ?_); refine with_tabW laws_heldSegmentS.tab7 laws_heldSegmentS.bits7 (fun HT_ HW_ => ?_)
    generalize wr.drew = w10 at HB HR123_2 hx123_0 hx123_1 hx123_2 hHeld ⊢
    refine pv_ 0 21 ?_
    refine pv_ 1 22 ?_
    refine pv_ 2 23 ?_
    refine pv_ 3 24 ?_
    refine pv_ 5 26 ?_
    refine tk_ 4 25 ?_
    refine on_ 6 27 (fun K hK => ?_)
    refine gs_ Try.func85 #[.int .i64 (wrap64 (x1_1 + 1))] rfl ma_ ?_
    with_reducible refine (laws_markText.calls k1 (wrap64 (x1_1 + 1)) t124 _ A6.out).mono ?_
    rintro e w11 ⟨rfl, hb⟩
    refine ⟨_, rfl, ?_⟩
    replace HB := nb_ hb
    (try clear hb)
    (try clear hb2)
    (try clear hk)
    (try clear hi)
    refine hK.out _ _ ⟨(pc_ HB.out hw123_0), (pc_ HB.out hw123_1), (pc_ HB.out hw123_2)⟩ (fun hHeld => ?_)
    clear hK K
    refine no_ ?_
    refine pv_ 7 28 ?_
    refine done_ (done_of HT_.out (by kernel_rfl)) ?_
    have p125 : 0 ≤ (x5_1 : Int) := oa_
    have q125 : x5_1 < (l0.length : Int) := oa_
    obtain ⟨ad125, A125_2, c125_2, e125, hx125_0, hx125_1, hx125_2, hl125_2, hi125_2⟩ := at_T65 HR0.out x5_1 p125 q125
    obtain rfl : ad122 = ad125 := (by injection e125)
    (try obtain ⟨rfl, rfl⟩ : A125_2 = A123_2 ∧ c125_2 = c123_2 := by (have h_ := hx125_2.symm.trans hw123_2; injection h_ with h_; injection h_ with h1_ h2_ h3_; exact ⟨h1_, h3_⟩))
    replace hx125_0 := pc_ HB.out hx125_0
    replace hx125_1 := pc_ HB.out hx125_1
    replace hx125_2 := pc_ HB.out hx125_2
    have HR125_2 := Aside0.mk hi125_2
    have HC125_2 := Aside0.mk hl125_2
    clear hi125_2 hl125_2
    replace p125 := eq_true p125
    replace q125 := eq_true q125
    try go_wp2_with (first | ((with_reducible refine gate_callee (f := 96) rfl ?_); refine gl_ 37 Try.func96 #[.slice A125_2 ((rd_T65 l0 x5_1).f2).length c125_2, .int .i64 (wrap64 ((wrap64 (x1_1 + 1)) + 1))] rfl ma_ ?_; (with_reducible refine (laws_heldMarkS.calls k1 _ _ ((rd_T65 l0 x5_1).f2) (wrap64 ((wrap64 (x1_1 + 1)) + 1)) t126 _ ?side1 ?side2 A8.out).mono ?_); (case side1 => exact cs_ ((Kd.C_below HR125_2.out HB.out))); (case side2 => exact HC125_2.out); rintro e w' ⟨rfl, ⟨nd, rfl⟩⟩; refine ⟨_, rfl, ?_⟩))
    go_ret
    exact ⟨er_, hb_⟩
   have c9b0 := decide_eq_false c9
   clear c9
   have H' := Aside0.mk H
   clear H
   have p122 : 0 ≤ (x5_1 : Int) := oa_
   have q122 : x5_1 < (l0.length : Int) := oa_
   obtain ⟨ad122, A122_2, c122_2, e122, hx122_0, hx122_1, hx122_2, hl122_2, hi122_2⟩ := at_T65 HR0.out x5_1 p122 q122
   cases e122
   replace hx122_0 := pc_ HB.out hx122_0
   replace hx122_1 := pc_ HB.out hx122_1
   replace hx122_2 := pc_ HB.out hx122_2
   have HR122_2 := Aside0.mk hi122_2
   have HC122_2 := Aside0.mk hl122_2
   clear hi122_2 hl122_2
   replace p122 := eq_true p122
   replace q122 := eq_true q122
   try go_wp2
   replace HB := qH_ HB
   have p123 : 0 ≤ (x5_1 : Int) := oa_
   have q123 : x5_1 < (l0.length : Int) := oa_
   obtain ⟨ad123, A123_2, c123_2, e123, hx123_0, hx123_1, hx123_2, hl123_2, hi123_2⟩ := at_T65 HR0.out x5_1 p123 q123
   have hw123_2 := hx123_2
   have hw123_1 := hx123_1
   have hw123_0 := hx123_0
   obtain rfl : ad122 = ad123 := (by injection e123)
   replace hx123_0 := pc_ HB.out hx123_0
   replace hx123_1 := pc_ HB.out hx123_1
   replace hx123_2 := pc_ HB.out hx123_2
   have HR123_2 := Aside0.mk hi123_2
   have HC123_2 := Aside0.mk hl123_2
   clear hi123_2 hl123_2
   replace p123 := eq_true p123
   replace q123 := eq_true q123
   refine start_ (n := 8) (S := fun w' => w'.cell? (ad122.add ((x5_1).toNat * 3)) = some (.int .i64 ((rd_T65 l0 x5_1).f0)) ∧ w'.cell? ⟨(ad122.add ((x5_1).toNat * 3)).block, (ad122.add ((x5_1).toNat * 3)).off + 1, none⟩ = some (.string ((rd_T65 l0 x5_1).f1)) ∧ w'.cell? ⟨(ad122.add ((x5_1).toNat * 3)).block, (ad122.add ((x5_1).toNat * 3)).off + 2, none⟩ = some (.slice A123_2 ((rd_T65 l0 x5_1).f2).length c123_2)) (ds := []) #[false, false, false, false, false, false, false, false] (by kernel_rfl) rfl rfl ⟨(pc_ HB.out hw123_0), (pc_ HB.out hw123_1), (pc_ HB.out hw123_2)⟩ (fun hHeld => ?_); refine with_tabW laws_heldSegmentS.tab7 laws_heldSegmentS.bits7 (fun HT_ HW_ => ?_)
   generalize wr.drew = w12 at HB HR123_2 hx123_0 hx123_1 hx123_2 hHeld ⊢
   refine pv_ 0 21 ?_
   refine pv_ 1 22 ?_
   refine pv_ 2 23 ?_
   refine pv_ 3 24 ?_
   refine pv_ 5 26 ?_
   refine tk_ 4 25 ?_
   refine on_ 6 27 (fun K hK => ?_)
   refine gs_ Try.func85 #[.int .i64 (wrap64 (x1_1 + 1))] rfl ma_ ?_
   with_reducible refine (laws_markText.calls k1 (wrap64 (x1_1 + 1)) t124 _ A6.out).mono ?_
   rintro e w13 ⟨rfl, hb⟩
   refine ⟨_, rfl, ?_⟩
   replace HB := nb_ hb
   (try clear hb)
   (try clear hb2)
   (try clear hk)
   (try clear hi)
   refine hK.out _ _ ⟨(pc_ HB.out hw123_0), (pc_ HB.out hw123_1), (pc_ HB.out hw123_2)⟩ (fun hHeld => ?_)
   clear hK K
   refine no_ ?_
   refine pv_ 7 28 ?_
   refine done_ (done_of HT_.out (by kernel_rfl)) ?_
   have p125 : 0 ≤ (x5_1 : Int) := oa_
   have q125 : x5_1 < (l0.length : Int) := oa_
   obtain ⟨ad125, A125_2, c125_2, e125, hx125_0, hx125_1, hx125_2, hl125_2, hi125_2⟩ := at_T65 HR0.out x5_1 p125 q125
   obtain rfl : ad122 = ad125 := (by injection e125)
   (try obtain ⟨rfl, rfl⟩ : A125_2 = A123_2 ∧ c125_2 = c123_2 := by (have h_ := hx125_2.symm.trans hw123_2; injection h_ with h_; injection h_ with h1_ h2_ h3_; exact ⟨h1_, h3_⟩))
   replace hx125_0 := pc_ HB.out hx125_0
   replace hx125_1 := pc_ HB.out hx125_1
   replace hx125_2 := pc_ HB.out hx125_2
   have HR125_2 := Aside0.mk hi125_2
   have HC125_2 := Aside0.mk hl125_2
   clear hi125_2 hl125_2
   replace p125 := eq_true p125
   replace q125 := eq_true q125
   try go_wp2_with (first | ((with_reducible refine gate_callee (f := 96) rfl ?_); refine gl_ 37 Try.func96 #[.slice A125_2 ((rd_T65 l0 x5_1).f2).length c125_2, .int .i64 (wrap64 ((wrap64 (x1_1 + 1)) + 1))] rfl ma_ ?_; (with_reducible refine (laws_heldMarkS.calls k1 _ _ ((rd_T65 l0 x5_1).f2) (wrap64 ((wrap64 (x1_1 + 1)) + 1)) t126 _ ?side1 ?side2 A8.out).mono ?_); (case side1 => exact cs_ ((Kd.C_below HR125_2.out HB.out))); (case side2 => exact HC125_2.out); rintro e w' ⟨rfl, ⟨nd, rfl⟩⟩; refine ⟨_, rfl, ?_⟩))
   go_roundg k1
   case measure => have := HK1.out; omega
   case rel => exact ⟨(t126), (wrap64 (x5_1 + 1)), sr_, sr_, H', ⟨by have := HK1.out; omega⟩, ⟨hb_⟩⟩

/-! ### laws_heldStore: function 18 -/
def laws_heldStore.f (k : Nat) (l0_0 : List (S65)) (a0_1 : Int) (a1 : Int) : Option (Int) := (laws_heldSegmentS.f k l0_0 a1).bind fun t128 => (if t128 < 0 then (some (-1)) else (some t128))
theorem laws_heldStore.mono : ∀ a0 a1 a2 k, LeO (laws_heldStore.f k a0 a1 a2) (laws_heldStore.f (k + 1) a0 a1 a2) := by
 intro a0 a1 a2 k
 unfold laws_heldStore.f
 repeat' first
   | (with_reducible first | apply laws_heldSegmentS.mono | exact LeO.refl _ | exact LeO.none _ | refine LeO.ite ?_ ?_ | refine LeO.bind ?_ (fun _ => ?_))
set_option maxHeartbeats 8000000 in
set_option maxRecDepth 100000 in
theorem laws_heldStore.calls (k : Nat) (A0_0 : Option Addr) (c0_0 : Nat) (l0_0 : List (S65)) (a0_1 : Int) (a1 : Int) (r : Int) (w : World) (hr0_0 : Kd.C k65 w A0_0 l0_0.length l0_0) (hc0_0 : l0_0.length ≤ c0_0) (h : laws_heldStore.f k l0_0 a0_1 a1 = some r) :
  Calls Try.prog 18 #[.agg #[.slice A0_0 l0_0.length c0_0, .int .i64 a0_1], .int .i64 a1] w fun e w' => e = .returned (.int .i64 r) ∧ Below w.heap.size w w' := by
 have hu24 := Try.underlying24
 have HR0_0 := Aside0.mk hr0_0
 have HC0_0 := Aside0.mk hc0_0
 clear hr0_0 hc0_0
 have HB := Aside0.mk (Below.refl w.heap.size w)
 have H : ((laws_heldSegmentS.f k l0_0 a1).bind fun t128 => (if t128 < 0 then (some (-1)) else (some t128))) = some r := h
 clear h
 replace H := bnd_ H
 obtain ⟨t128, A3, H⟩ := H
 replace H := ite_ H
 obtain ⟨c4, H⟩ | ⟨c4, H⟩ := H
 ·have c4b0 := decide_eq_true c4
  clear c4
  obtain rfl := Option.some.inj H
  go_enter Try.func18, Try.ntmps18
  go_wp2_with (first | ((with_reducible refine gate_dst (N := 2) rfl ?_); refine bq_ (N := 2) #[.slice A0_0 l0_0.length c0_0, .int .i64 a0_1] 24 ?_; intro gb127 hg w5 BK127 hb; have GE127 := ge_ hg; replace HB := nb_ hb; clear hb hg; obtain ⟨hcz6_0, hcz6_1, hfz6_0, hfz6_1⟩ := cf2_ BK127.out) | ((with_reducible refine gate_callee (f := 61) rfl ?_); refine gl_ 8 Try.func61 #[.slice A0_0 l0_0.length c0_0, .int .i64 a1] rfl ma_ ?_; (with_reducible refine (laws_heldSegmentS.calls k _ _ l0_0 a1 t128 _ ?side1 ?side2 A3.out).mono ?_); (case side1 => exact cs_ ((Kd.C_below HR0_0.out HB.out))); (case side2 => exact HC0_0.out); rintro e w7 ⟨rfl, hb⟩; refine ⟨_, rfl, ?_⟩; replace BK127 := bK_ BK127 hb; replace HB := nc_ GE127 hb; (try clear hb); (try clear hb2); (try clear hk); (try clear hi)))
  go_ret
  exact ⟨er_, hs_ GE127.out⟩
 have c4b0 := decide_eq_false c4
 clear c4
 obtain rfl := Option.some.inj H
 go_enter Try.func18, Try.ntmps18
 go_wp2_with (first | ((with_reducible refine gate_dst (N := 2) rfl ?_); refine bq_ (N := 2) #[.slice A0_0 l0_0.length c0_0, .int .i64 a0_1] 24 ?_; intro gb127 hg w8 BK127 hb; have GE127 := ge_ hg; replace HB := nb_ hb; clear hb hg; obtain ⟨hcz9_0, hcz9_1, hfz9_0, hfz9_1⟩ := cf2_ BK127.out) | ((with_reducible refine gate_callee (f := 61) rfl ?_); refine gl_ 8 Try.func61 #[.slice A0_0 l0_0.length c0_0, .int .i64 a1] rfl ma_ ?_; (with_reducible refine (laws_heldSegmentS.calls k _ _ l0_0 a1 t128 _ ?side1 ?side2 A3.out).mono ?_); (case side1 => exact cs_ ((Kd.C_below HR0_0.out HB.out))); (case side2 => exact HC0_0.out); rintro e w10 ⟨rfl, hb⟩; refine ⟨_, rfl, ?_⟩; replace BK127 := bK_ BK127 hb; replace HB := nc_ GE127 hb; (try clear hb); (try clear hb2); (try clear hk); (try clear hi)))
 go_ret
 exact ⟨er_, hs_ GE127.out⟩

/-! ### laws_szMarkS: function 121 -/
def laws_szMarkS.f (l0 : List (S140)) (a1 : Int) : Option (Int) := if (wrap64 (a1 - (l0.length : Int))) < 0 then (some (-1)) else (some (wrap64 (a1 - (l0.length : Int))))
set_option maxHeartbeats 8000000 in
set_option maxRecDepth 100000 in
theorem laws_szMarkS.calls (A0 : Option Addr) (c0 : Nat) (l0 : List (S140)) (a1 : Int) (r : Int) (w : World) (hr0 : Kd.C k140 w A0 l0.length l0) (hc0 : l0.length ≤ c0) (h : laws_szMarkS.f l0 a1 = some r) :
  Calls Try.prog 121 #[.slice A0 l0.length c0, .int .i64 a1] w fun e w' => e = .returned (.int .i64 r) ∧ Drawn0 w w' := by
 have HR0 := Aside0.mk hr0
 have HC0 := Aside0.mk hc0
 clear hr0 hc0
 have H : (if (wrap64 (a1 - (l0.length : Int))) < 0 then (some (-1)) else (some (wrap64 (a1 - (l0.length : Int))))) = some r := h
 clear h
 replace H := ite_ H
 obtain ⟨c3, H⟩ | ⟨c3, H⟩ := H
 ·have c3b0 := decide_eq_true c3
  clear c3
  obtain rfl := Option.some.inj H
  go_enter Try.func121, Try.ntmps121
  go_wp2
  go_ret
  exact ⟨by first | rfl | (simp; done) | (simp [*]; done), dr_⟩
 have c3b0 := decide_eq_false c3
 clear c3
 obtain rfl := Option.some.inj H
 go_enter Try.func121, Try.ntmps121
 go_wp2
 go_ret
 exact ⟨by first | rfl | (simp; done) | (simp [*]; done), dr_⟩

/-! ### laws_szSegment: function 97 -/
def laws_szSegment.f (a0_0 : Int) (a0_1 : ByteArray) (l0_2 : List (S140)) (a1 : Int) : Option (Int) := if (wrap64 (a1 - (a0_1.size : Int))) < 0 then (some (-1)) else ((laws_szMarkS.f l0_2 (wrap64 (a1 - (a0_1.size : Int)))).bind fun t130 => (if t130 < 0 then (some (-1)) else (some t130)))
set_option maxHeartbeats 8000000 in
set_option maxRecDepth 100000 in
theorem laws_szSegment.calls (a0_0 : Int) (a0_1 : ByteArray) (A0_2 : Option Addr) (c0_2 : Nat) (l0_2 : List (S140)) (a1 : Int) (r : Int) (w : World) (hr0_2 : Kd.C k140 w A0_2 l0_2.length l0_2) (hc0_2 : l0_2.length ≤ c0_2) (h : laws_szSegment.f a0_0 a0_1 l0_2 a1 = some r) :
  Calls Try.prog 97 #[.agg #[.int .i64 a0_0, .string a0_1, .slice A0_2 l0_2.length c0_2], .int .i64 a1] w fun e w' => e = .returned (.int .i64 r) ∧ Below w.heap.size w w' := by
 have hu117 := Try.underlying117
 have HR0_2 := Aside0.mk hr0_2
 have HC0_2 := Aside0.mk hc0_2
 clear hr0_2 hc0_2
 have HB := Aside0.mk (Below.refl w.heap.size w)
 have H : (if (wrap64 (a1 - (a0_1.size : Int))) < 0 then (some (-1)) else ((laws_szMarkS.f l0_2 (wrap64 (a1 - (a0_1.size : Int)))).bind fun t130 => (if t130 < 0 then (some (-1)) else (some t130)))) = some r := h
 clear h
 replace H := ite_ H
 obtain ⟨c3, H⟩ | ⟨c3, H⟩ := H
 ·have c3b0 := decide_eq_true c3
  clear c3
  obtain rfl := Option.some.inj H
  go_enter Try.func97, Try.ntmps97
  go_wp2_with (first | ((with_reducible refine gate_dst (N := 2) rfl ?_); refine bq_ (N := 2) #[.int .i64 a0_0, .string a0_1, .slice A0_2 l0_2.length c0_2] 117 ?_; intro gb129 hg w4 BK129 hb; have GE129 := ge_ hg; replace HB := nb_ hb; clear hb hg; obtain ⟨hcz5_0, hcz5_1, hcz5_2, hfz5_0, hfz5_1, hfz5_2⟩ := cf3_ BK129.out))
  go_ret
  exact ⟨er_, hs_ GE129.out⟩
 have c3b0 := decide_eq_false c3
 clear c3
 replace H := bnd_ H
 obtain ⟨t130, A6, H⟩ := H
 replace H := ite_ H
 obtain ⟨c7, H⟩ | ⟨c7, H⟩ := H
 ·have c7b0 := decide_eq_true c7
  clear c7
  obtain rfl := Option.some.inj H
  go_enter Try.func97, Try.ntmps97
  go_wp2_with (first | ((with_reducible refine gate_dst (N := 2) rfl ?_); refine bq_ (N := 2) #[.int .i64 a0_0, .string a0_1, .slice A0_2 l0_2.length c0_2] 117 ?_; intro gb129 hg w8 BK129 hb; have GE129 := ge_ hg; replace HB := nb_ hb; clear hb hg; obtain ⟨hcz9_0, hcz9_1, hcz9_2, hfz9_0, hfz9_1, hfz9_2⟩ := cf3_ BK129.out) | ((with_reducible refine gate_callee (f := 121) rfl ?_); refine gl_ 15 Try.func121 #[.slice A0_2 l0_2.length c0_2, .int .i64 (wrap64 (a1 - (a0_1.size : Int)))] rfl ma_ ?_; (with_reducible refine (laws_szMarkS.calls _ _ l0_2 (wrap64 (a1 - (a0_1.size : Int))) t130 _ ?side1 ?side2 A6.out).mono ?_); (case side1 => exact cs_ ((Kd.C_below HR0_2.out HB.out))); (case side2 => exact HC0_2.out); rintro e w' ⟨rfl, ⟨nd, rfl⟩⟩; refine ⟨_, rfl, ?_⟩))
  go_ret
  exact ⟨er_, hs_ GE129.out⟩
 have c7b0 := decide_eq_false c7
 clear c7
 obtain rfl := Option.some.inj H
 go_enter Try.func97, Try.ntmps97
 go_wp2_with (first | ((with_reducible refine gate_dst (N := 2) rfl ?_); refine bq_ (N := 2) #[.int .i64 a0_0, .string a0_1, .slice A0_2 l0_2.length c0_2] 117 ?_; intro gb129 hg w10 BK129 hb; have GE129 := ge_ hg; replace HB := nb_ hb; clear hb hg; obtain ⟨hcz11_0, hcz11_1, hcz11_2, hfz11_0, hfz11_1, hfz11_2⟩ := cf3_ BK129.out) | ((with_reducible refine gate_callee (f := 121) rfl ?_); refine gl_ 15 Try.func121 #[.slice A0_2 l0_2.length c0_2, .int .i64 (wrap64 (a1 - (a0_1.size : Int)))] rfl ma_ ?_; (with_reducible refine (laws_szMarkS.calls _ _ l0_2 (wrap64 (a1 - (a0_1.size : Int))) t130 _ ?side1 ?side2 A6.out).mono ?_); (case side1 => exact cs_ ((Kd.C_below HR0_2.out HB.out))); (case side2 => exact HC0_2.out); rintro e w' ⟨rfl, ⟨nd, rfl⟩⟩; refine ⟨_, rfl, ?_⟩))
 go_ret
 exact ⟨er_, hs_ GE129.out⟩
end Go.Proofs.Ytffpeklekkpbjaa.QFnExactTruncateTo
