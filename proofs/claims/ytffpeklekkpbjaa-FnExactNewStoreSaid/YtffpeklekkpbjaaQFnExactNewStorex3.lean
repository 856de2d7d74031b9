/- For each Go function that one statement reaches: a plain function with the same answers, and the proof that the call comes to them. Conditions: those that each contract names. Written by a program of this repository. -/
import Derived.Test.YtffpeklekkpbjaaVNewStorea
import Derived.Test.YtffpeklekkpbjaaQFnExactNewStorex0
import Derived.Test.YtffpeklekkpbjaaQFnExactNewStorex2
namespace Go.Proofs.Ytffpeklekkpbjaa.QFnExactNewStore
open Go.RowKit Go.Proofs.YtffpeklekkpbjaaW.PrintWords Go.Proofs.YtffpeklekkpbjaaW.PrintLast Go.Proofs.YtffpeklekkpbjaaW.PrintMore
attribute [local go_sem] max2_int min2_int max_two min_two max_three min_three max_four min_four Go.Proofs.YtffpeklekkpbjaaW.PrintMore2.isSome_setCell   -- for this text's walks alone
set_option linter.unusedVariables false
set_option linter.unusedSimpArgs false

/-! ### laws_heldMarkS: function 96 -/
def laws_heldMarkS.l0 : Nat → List (S89) → Int → Int → Option (Int)
 | 0, _, _, _ => none
 | k + 1, x0, x1, x5 => if x5 < (x0.length : Int) then (if 0 ≤ x5 then (if ((rd_T89 x0 x5).f0) = x1 then (if ((rd_T89 x0 x5).f1) = (wrap64 (x1 + 1)) then (laws_heldMarkS.l0 k x0 (wrap64 ((wrap64 (x1 + 1)) + 1)) (wrap64 (x5 + 1))) else (some (-1))) else (some (-1))) else (none)) else (some x1)
def laws_heldMarkS.f (k : Nat) (l0 : List (S89)) (a1 : Int) : Option (Int) := laws_heldMarkS.l0 k l0 a1 0
theorem laws_heldMarkS.mono_l : ∀ k, (∀ y0 y1 y2, LeO (laws_heldMarkS.l0 k y0 y1 y2) (laws_heldMarkS.l0 (k + 1) y0 y1 y2))
 | 0 => fun _ _ _ r h => by simp [laws_heldMarkS.l0] at h
 | k + 1 => by
  have ih0 := laws_heldMarkS.mono_l k
  ·intro y0 y1 y2
   unfold laws_heldMarkS.l0
   repeat' first
   | (with_reducible exact ih0 _ _ _)
   | (with_reducible exact LeO.refl _)
   | (with_reducible exact LeO.none _)
   | (with_reducible refine LeO.ite ?_ ?_)
   | (with_reducible refine LeO.bind ?_ (fun _ => ?_))
   | exact ih0 _ _ _
   | exact LeO.none _
   | refine LeO.ite ?_ ?_
   | refine LeO.bind ?_ (fun _ => ?_)
theorem laws_heldMarkS.mono : ∀ a0 a1 k, LeO (laws_heldMarkS.f k a0 a1) (laws_heldMarkS.f (k + 1) a0 a1) := by
 intro a0 a1 k
 have ih0 := laws_heldMarkS.mono_l k
 unfold laws_heldMarkS.f
 repeat' first
   | (with_reducible exact ih0 _ _ _)
   | (with_reducible exact LeO.refl _)
   | (with_reducible exact LeO.none _)
   | (with_reducible refine LeO.ite ?_ ?_)
   | (with_reducible refine LeO.bind ?_ (fun _ => ?_))
   | exact ih0 _ _ _
   | exact LeO.none _
   | refine LeO.ite ?_ ?_
   | refine LeO.bind ?_ (fun _ => ?_)
set_option maxHeartbeats 8000000 in
set_option maxRecDepth 100000 in
theorem laws_heldMarkS.calls (k : Nat) (A0 : Option Addr) (c0 : Nat) (l0 : List (S89)) (a1 : Int) (r : Int) (w : World) (hr0 : Kd.C k89 w A0 l0.length l0) (hc0 : l0.length ≤ c0) (h : laws_heldMarkS.f k l0 a1 = some r) :
  Calls Try.prog 96 #[.slice A0 l0.length c0, .int .i64 a1] w fun e w' => e = .returned (.int .i64 r) ∧ Drawn0 w w' := by
 have HR0 := Aside0.mk hr0
 have HC0 := Aside0.mk hc0
 clear hr0 hc0
 have H : (laws_heldMarkS.l0 k l0 a1 0) = some r := h
 clear h
 have H' := Aside0.mk H
 clear H
 go_enter Try.func96, Try.ntmps96
 go_wp2
 go_loopg [1, 5] k (fun kq v1 v5 w' => ∃ (x1_1 : Int) (x5_1 : Int), v1 = .int .i64 x1_1 ∧ v5 = .int .i64 x5_1 ∧ Aside0 (laws_heldMarkS.l0 kq l0 x1_1 x5_1 = some r) ∧ Aside0 (kq ≤ k) ∧ Drawn0 w w')
 case atStart => exact ⟨(a1), (0), sr_, sr_, H', ⟨Nat.le_refl _⟩, dr_⟩
 case round =>
  clear H'
  try clear p2
  obtain ⟨x1_1, x5_1, rfl, rfl, HA, HK1, ⟨m1, rfl⟩⟩ := hrel
  cases gk with
  | zero => exact absurd HA.out (by simp [laws_heldMarkS.l0])
  | succ k1 =>
   have H := HA.out
   clear HA
   simp only [laws_heldMarkS.l0] at H
   replace H := ite_ H
   obtain ⟨c3, H⟩ | ⟨c3, H⟩ := H
   rotate_left
   ·have c3b0 := decide_eq_false c3
    clear c3
    obtain rfl := Option.some.inj H
    go_wp2
    go_ret
    exact ⟨by first | rfl | (simp; done) | (simp [*]; done), dr_⟩
   have c3b0 := decide_eq_true c3
   clear c3
   replace H := ifs_ H
   obtain ⟨c4, H⟩ := H
   have c4b0 := decide_eq_true c4
   clear c4
   replace H := ite_ H
   obtain ⟨c5, H⟩ | ⟨c5, H⟩ := H
   rotate_left
   ·have c5b0 : (((rd_T89 l0 x5_1).f0) == x1_1) = false := beq_eq_false_iff_ne.mpr c5
    have c5b1 : (((rd_T89 l0 x5_1).f0) != x1_1) = true := bne_iff_ne.mpr c5
    obtain rfl := Option.some.inj H
    have p130 : 0 ≤ (x5_1 : Int) := oa_
    have q130 : x5_1 < (l0.length : Int) := oa_
    obtain ⟨ad130, e130, hx130_0, hx130_1⟩ := at_T89 HR0.out x5_1 p130 q130
    cases e130
    replace p130 := eq_true p130
    replace q130 := eq_true q130
    go_wp2
    go_ret
    exact ⟨by first | rfl | (simp; done) | (simp [*]; done), dr_⟩
   have c5b0 : (((rd_T89 l0 x5_1).f0) == x1_1) = true := beq_iff_eq.mpr c5
   have c5b1 : (((rd_T89 l0 x5_1).f0) != x1_1) = false := bne_eq_false_iff_eq.mpr c5
   clear c5
   replace H := ite_ H
   obtain ⟨c6, H⟩ | ⟨c6, H⟩ := H
   rotate_left
   ·have c6b0 : (((rd_T89 l0 x5_1).f1) == (wrap64 (x1_1 + 1))) = false := beq_eq_false_iff_ne.mpr c6
    have c6b1 : (((rd_T89 l0 x5_1).f1) != (wrap64 (x1_1 + 1))) = true := bne_iff_ne.mpr c6
    obtain rfl := Option.some.inj H
    have p130 : 0 ≤ (x5_1 : Int) := oa_
    have q130 : x5_1 < (l0.length : Int) := oa_
    obtain ⟨ad130, e130, hx130_0, hx130_1⟩ := at_T89 HR0.out x5_1 p130 q130
    cases e130
    replace p130 := eq_true p130
    replace q130 := eq_true q130
    have p131 : 0 ≤ (x5_1 : Int) := oa_
    have q131 : x5_1 < (l0.length : Int) := oa_
    obtain ⟨ad131, e131, hx131_0, hx131_1⟩ := at_T89 HR0.out x5_1 p131 q131
    obtain rfl : ad130 = ad131 := (by injection e131)
    replace p131 := eq_true p131
    replace q131 := eq_true q131
    go_wp2
    go_ret
    exact ⟨by first | rfl | (simp; done) | (simp [*]; done), dr_⟩
   have c6b0 : (((rd_T89 l0 x5_1).f1) == (wrap64 (x1_1 + 1))) = true := beq_iff_eq.mpr c6
   have c6b1 : (((rd_T89 l0 x5_1).f1) != (wrap64 (x1_1 + 1))) = false := bne_eq_false_iff_eq.mpr c6
   clear c6
   have H' := Aside0.mk H
   clear H
   have p130 : 0 ≤ (x5_1 : Int) := oa_
   have q130 : x5_1 < (l0.length : Int) := oa_
   obtain ⟨ad130, e130, hx130_0, hx130_1⟩ := at_T89 HR0.out x5_1 p130 q130
   cases e130
   replace p130 := eq_true p130
   replace q130 := eq_true q130
   have p131 : 0 ≤ (x5_1 : Int) := oa_
   have q131 : x5_1 < (l0.length : Int) := oa_
   obtain ⟨ad131, e131, hx131_0, hx131_1⟩ := at_T89 HR0.out x5_1 p131 q131
   obtain rfl : ad130 = ad131 := (by injection e131)
   replace p131 := eq_true p131
   replace q131 := eq_true q131
   go_wp2
   go_roundg k1
   case measure => have := HK1.out; omega
   case rel => exact ⟨(wrap64 ((wrap64 (x1_1 + 1)) + 1)), (wrap64 (x5_1 + 1)), sr_, sr_, H', ⟨by have := HK1.out; omega⟩, dr_⟩

/-! ### laws_heldSegmentS: function 61 -/
def laws_heldSegmentS.l0 : Nat → List (S65) → Int → Int → Option (Int)
 | 0, _, _, _ => none
 | k + 1, x0, x1, x5 => if x5 < (x0.length : Int) then (if 0 ≤ x5 then (if ((rd_T65 x0 x5).f0) = x1 then ((laws_markText.f k (wrap64 (x1 + 1))).bind fun t134 => (if ((rd_T65 x0 x5).f1).toList = t134.toList then ((laws_heldMarkS.f k ((rd_T65 x0 x5).f2) (wrap64 ((wrap64 (x1 + 1)) + 1))).bind fun t136 => (if t136 < 0 then (some (-1)) else (laws_heldSegmentS.l0 k x0 t136 (wrap64 (x5 + 1))))) else (some (-1)))) else (some (-1))) else (none)) else (some x1)
def laws_heldSegmentS.f (k : Nat) (l0 : List (S65)) (a1 : Int) : Option (Int) := laws_heldSegmentS.l0 k l0 a1 0
theorem laws_heldSegmentS.mono_l : ∀ k, (∀ y0 y1 y2, LeO (laws_heldSegmentS.l0 k y0 y1 y2) (laws_heldSegmentS.l0 (k + 1) y0 y1 y2))
 | 0 => fun _ _ _ r h => by simp [laws_heldSegmentS.l0] at h
 | k + 1 => by
  have ih0 := laws_heldSegmentS.mono_l k
  ·intro y0 y1 y2
   unfold laws_heldSegmentS.l0
   repeat' first
   | (with_reducible exact ih0 _ _ _)
   | (with_reducible exact laws_heldMarkS.mono _ _ _)
   | (with_reducible exact laws_markText.mono _ _)
   | (with_reducible exact LeO.refl _)
   | (with_reducible exact LeO.none _)
   | (with_reducible refine LeO.ite ?_ ?_)
   | (with_reducible refine LeO.bind ?_ (fun _ => ?_))
   | exact ih0 _ _ _
   | exact laws_heldMarkS.mono _ _ _
   | exact laws_markText.mono _ _
   | exact LeO.none _
   | refine LeO.ite ?_ ?_
   | refine LeO.bind ?_ (fun _ => ?_)
theorem laws_heldSegmentS.mono : ∀ a0 a1 k, LeO (laws_heldSegmentS.f k a0 a1) (laws_heldSegmentS.f (k + 1) a0 a1) := by
 intro a0 a1 k
 have ih0 := laws_heldSegmentS.mono_l k
 unfold laws_heldSegmentS.f
 repeat' first
   | (with_reducible exact ih0 _ _ _)
   | (with_reducible exact laws_heldMarkS.mono _ _ _)
   | (with_reducible exact laws_markText.mono _ _)
   | (with_reducible exact LeO.refl _)
   | (with_reducible exact LeO.none _)
   | (with_reducible refine LeO.ite ?_ ?_)
   | (with_reducible refine LeO.bind ?_ (fun _ => ?_))
   | exact ih0 _ _ _
   | exact laws_heldMarkS.mono _ _ _
   | exact laws_markText.mono _ _
   | exact LeO.none _
   | refine LeO.ite ?_ ?_
   | refine LeO.bind ?_ (fun _ => ?_)
def laws_heldSegmentS.T7 : Bool × List (List Nat × List Nat) := (true, [([], []), ([], []), ([0, 1], [0, 1]), ([2], [2]), ([3], [3]), ([], []), ([5], [5]), ([4, 6], [4, 6])])
def laws_heldSegmentS.B7 : List Nat := [0, 0, 3, 7, 15, 0, 32, 127]
theorem laws_heldSegmentS.tab7 : rtab .any (opsOf Try.f61 7) = laws_heldSegmentS.T7 := by kernel_rfl
theorem laws_heldSegmentS.bits7 : waitsOk laws_heldSegmentS.T7.2 laws_heldSegmentS.B7 = true := by kernel_rfl
set_option maxHeartbeats 8000000 in
set_option maxRecDepth 100000 in
theorem laws_heldSegmentS.calls (k : Nat) (A0 : Option Addr) (c0 : Nat) (l0 : List (S65)) (a1 : Int) (r : Int) (w : World) (hr0 : Kd.C k65 w A0 l0.length l0) (hc0 : l0.length ≤ c0) (h : laws_heldSegmentS.f k l0 a1 = some r) :
  Calls Try.prog 61 #[.slice A0 l0.length c0, .int .i64 a1] w fun e w' => e = .returned (.int .i64 r) ∧ Below w.heap.size w w' := by
 have HR0 := Aside0.mk hr0
 have HC0 := Aside0.mk hc0
 clear hr0 hc0
 have HB := Aside0.mk (Below.refl w.heap.size w)
 have H : (laws_heldSegmentS.l0 k l0 a1 0) = some r := h
 clear h
 have H' := Aside0.mk H
 clear H
 go_enter Try.func61, Try.ntmps61
 go_wp2
 go_loopg [1, 5] k (fun kq v1 v5 w' => ∃ (x1_1 : Int) (x5_1 : Int), v1 = .int .i64 x1_1 ∧ v5 = .int .i64 x5_1 ∧ Aside0 (laws_heldSegmentS.l0 kq l0 x1_1 x5_1 = some r) ∧ Aside0 (kq ≤ k) ∧ Aside0 (Below w.heap.size w w'))
 case atStart => exact ⟨(a1), (0), sr_, sr_, H', ⟨Nat.le_refl _⟩, ⟨hb_⟩⟩
 case round =>
  clear H'
  try clear p2
  obtain ⟨x1_1, x5_1, rfl, rfl, HA, HK1, HB⟩ := hrel
  cases gk with
  | zero => exact absurd HA.out (by simp [laws_heldSegmentS.l0])
  | succ k1 =>
   have H := HA.out
   clear HA
   simp only [laws_heldSegmentS.l0] at H
   replace H := ite_ H
   obtain ⟨c3, H⟩ | ⟨c3, H⟩ := H
   rotate_left
   ·have c3b0 := decide_eq_false c3
    clear c3
    obtain rfl := Option.some.inj H
    go_wp2
    go_ret
    exact ⟨er_, hb_⟩
   have c3b0 := decide_eq_true c3
   clear c3
   replace H := ifs_ H
   obtain ⟨c4, H⟩ := H
   have c4b0 := decide_eq_true c4
   clear c4
   replace H := ite_ H
   obtain ⟨c5, H⟩ | ⟨c5, H⟩ := H
   rotate_left
   ·have c5b0 : (((rd_T65 l0 x5_1).f0) == x1_1) = false := beq_eq_false_iff_ne.mpr c5
    have c5b1 : (((rd_T65 l0 x5_1).f0) != x1_1) = true := bne_iff_ne.mpr c5
    obtain rfl := Option.some.inj H
    have p132 : 0 ≤ (x5_1 : Int) := oa_
    have q132 : x5_1 < (l0.length : Int) := oa_
    obtain ⟨ad132, A132_2, c132_2, e132, hx132_0, hx132_1, hx132_2, hl132_2, hi132_2⟩ := at_T65 HR0.out x5_1 p132 q132
    cases e132
    replace hx132_0 := pc_ HB.out hx132_0
    replace hx132_1 := pc_ HB.out hx132_1
    replace hx132_2 := pc_ HB.out hx132_2
    have HR132_2 := Aside0.mk hi132_2
    have HC132_2 := Aside0.mk hl132_2
    clear hi132_2 hl132_2
    replace p132 := eq_true p132
    replace q132 := eq_true q132
    go_wp2
    go_ret
    exact ⟨er_, hb_⟩
   have c5b0 : (((rd_T65 l0 x5_1).f0) == x1_1) = true := beq_iff_eq.mpr c5
   have c5b1 : (((rd_T65 l0 x5_1).f0) != x1_1) = false := bne_eq_false_iff_eq.mpr c5
   clear c5
   replace H := bnd_ H
   obtain ⟨t134, A6, H⟩ := H
   replace H := ite_ H
   obtain ⟨c7, H⟩ | ⟨c7, H⟩ := H
   rotate_left
   ·have c7b0 : (((rd_T65 l0 x5_1).f1).toList == t134.toList) = false := beq_eq_false_iff_ne.mpr c7
    have c7b1 : (((rd_T65 l0 x5_1).f1).toList != t134.toList) = true := bne_iff_ne.mpr c7
    obtain rfl := Option.some.inj H
    have p132 : 0 ≤ (x5_1 : Int) := oa_
    have q132 : x5_1 < (l0.length : Int) := oa_
    obtain ⟨ad132, A132_2, c132_2, e132, hx132_0, hx132_1, hx132_2, hl132_2, hi132_2⟩ := at_T65 HR0.out x5_1 p132 q132
    cases e132
    replace hx132_0 := pc_ HB.out hx132_0
    replace hx132_1 := pc_ HB.out hx132_1
    replace hx132_2 := pc_ HB.out hx132_2
    have HR132_2 := Aside0.mk hi132_2
    have HC132_2 := Aside0.mk hl132_2
    clear hi132_2 hl132_2
    replace p132 := eq_true p132
    replace q132 := eq_true q132
    try go_wp2
    replace HB := qH_ HB
    have p133 : 0 ≤ (x5_1 : Int) := oa_
    have q133 : x5_1 < (l0.length : Int) := oa_
    obtain ⟨ad133, A133_2, c133_2, e133, hx133_0, hx133_1, hx133_2, hl133_2, hi133_2⟩ := at_T65 HR0.out x5_1 p133 q133
    have hw133_2 := hx133_2
    have hw133_1 := hx133_1
    have hw133_0 := hx133_0
    obtain rfl : ad132 = ad133 := (by injection e133)
    replace hx133_0 := pc_ HB.out hx133_0
    replace hx133_1 := pc_ HB.out hx133_1
    replace hx133_2 := pc_ HB.out hx133_2
    have HR133_2 := Aside0.mk hi133_2
    have HC133_2 := Aside0.mk hl133_2
    clear hi133_2 hl133_2
    replace p133 := eq_true p133
    replace q133 := eq_true q133
    refine start_ (n := 8) (S := fun w' => w'.cell? (ad132.add ((x5_1).toNat * 3)) = some (.int .i64 ((rd_T65 l0 x5_1).f0)) ∧ w'.cell? ⟨(ad132.add ((x5_1).toNat * 3)).block, (ad132.add ((x5_1).toNat * 3)).off + 1, none⟩ = some (.string ((rd_T65 l0 x5_1).f1)) ∧ w'.cell? ⟨(ad132.add ((x5_1).toNat * 3)).block, (ad132.add ((x5_1).toNat * 3)).off + 2, none⟩ = some (.slice A133_2 ((rd_T65 l0 x5_1).f2).length c133_2)) (ds := []) #[false, false, false, false, false, false, false, false] (by kernel_rfl) rfl rfl ⟨(pc_ HB.out hw133_0), (pc_ HB.out hw133_1), (pc_ HB.out hw133_2)⟩ (fun hHeld => ?_); refine with_tabW laws_heldSegmentS.tab7 laws_heldSegmentS.bits7 (fun HT_ HW_ => ?_)
    generalize wr.drew = w14 at HB HR133_2 hx133_0 hx133_1 hx133_2 hHeld ⊢
    refine pv_ 0 21 ?_
    refine pv_ 1 22 ?_
    refine pv_ 2 23 ?_
    refine pv_ 3 24 ?_
    refine pv_ 5 26 ?_
    refine tk_ 4 25 ?_
    refine on_ 6 27 (fun K hK => ?_)
    refine gs_ Try.func85 #[.int .i64 (wrap64 (x1_1 + 1))] rfl ma_ ?_
    with_reducible refine (laws_markText.calls k1 (wrap64 (x1_1 + 1)) t134 _ A6.out).mono ?_
    rintro e w15 ⟨rfl, hb⟩
    refine ⟨_, rfl, ?_⟩
    replace HB := nb_ hb
    (try clear hb)
    (try clear hb2)
    (try clear hk)
    (try clear hi)
    refine hK.out _ _ ⟨(pc_ HB.out hw133_0), (pc_ HB.out hw133_1), (pc_ HB.out hw133_2)⟩ (fun hHeld => ?_)
    clear hK K
    refine no_ ?_
    refine pv_ 7 28 ?_
    refine done_ (done_of HT_.out (by kernel_rfl)) ?_
    try go_wp2
    go_ret
    exact ⟨er_, hb_⟩
   have c7b0 : (((rd_T65 l0 x5_1).f1).toList == t134.toList) = true := beq_iff_eq.mpr c7
   have c7b1 : (((rd_T65 l0 x5_1).f1).toList != t134.toList) = false := bne_eq_false_iff_eq.mpr c7
   clear c7
   replace H := bnd_ H
   obtain ⟨t136, A8, H⟩ := H
   replace H := ite_ H
   obtain ⟨c9, H⟩ | ⟨c9, H⟩ := H
   ·have c9b0 := decide_eq_true c9
    clear c9
    obtain rfl := Option.some.inj H
    have p132 : 0 ≤ (x5_1 : Int) := oa_
    have q132 : x5_1 < (l0.length : Int) := oa_
    obtain ⟨ad132, A132_2, c132_2, e132, hx132_0, hx132_1, hx132_2, hl132_2, hi132_2⟩ := at_T65 HR0.out x5_1 p132 q132
    cases e132
    replace hx132_0 := pc_ HB.out hx132_0
    replace hx132_1 := pc_ HB.out hx132_1
    replace hx132_2 := pc_ HB.out hx132_2
    have HR132_2 := Aside0.mk hi132_2
    have HC132_2 := Aside0.mk hl132_2
    clear hi132_2 hl132_2
    replace p132 := eq_true p132
    replace q132 := eq_true q132
    try go_wp2
    replace HB := qH_ HB
    have p133 : 0 ≤ (x5_1 : Int) := oa_
    have q133 : x5_1 < (l0.length : Int) := oa_
    obtain ⟨ad133, A133_2, c133_2, e133, hx133_0, hx133_1, hx133_2, hl133_2, hi133_2⟩ := at_T65 HR0.out x5_1 p133 q133
    have hw133_2 := hx133_2
    have hw133_1 := hx133_1
    have hw133_0 := hx133_0
    obtain rfl : ad132 = ad133 := (by injection e133)
    replace hx133_0 := pc_ HB.out hx133_0
    replace hx133_1 := pc_ HB.out hx133_1
    replace hx133_2 := pc_ HB.out hx133_2
    have HR133_2 := Aside0.mk hi133_2
    have HC133_2 := Aside0.mk hl133_2
    clear hi133_2 hl133_2
    replace p133 := eq_true p133
    replace q133 := eq_true q133
    refine start_ (n := 8) (S := fun w' => w'.cell? (ad132.add ((x5_1).toNat * 3)) = some (.int .i64 ((rd_T65 l0 x5_1).f0)) ∧ w'.cell? ⟨(ad132.add ((x5_1).toNat * 3)).block, (ad132.add ((x5_1).toNat * 3)).off + 1, none⟩ = some (.string ((rd_T65 l0 x5_1).f1)) ∧ w'.cell? ⟨(ad132.add ((x5_1).toNat * 3)).block, (ad132.add ((x5_1).toNat * 3)).off + 2, none⟩ = some (.slice A133_2 ((rd_T65 l0 x5_1).f2).length c133_2)) (ds := []) #[false, false, false, false, false, false, false, false] (by kernel_rfl) rfl rfl ⟨(pc_ HB.out hw133_0), (pc_ HB.out hw133_1), (pc_ HB.out hw133_2)⟩ (fun hHeld => ?_); refine with_tabW laws_heldSegmentS.tab7 laws_heldSegmentS.bits7 (fun HT_ HW_ => ?_)
    generalize wr.drew = w10 at HB HR133_2 hx133_0 hx133_1 hx133_2 hHeld ⊢
    refine pv_ 0 21 ?_
    refine pv_ 1 22 ?_
    refine pv_ 2 23 ?_
    refine pv_ 3 24 ?_
    refine pv_ 5 26 ?_
    refine tk_ 4 25 ?_
    refine on_ 6 27 (fun K hK => ?_)
    refine gs_ Try.func85 #[.int .i64 (wrap64 (x1_1 + 1))] rfl ma_ ?_
    with_reducible refine (laws_markText.calls k1 (wrap64 (x1_1 + 1)) t134 _ A6.out).mono ?_
    rintro e w11 ⟨rfl, hb⟩
    refine ⟨_, rfl, ?_⟩
    replace HB := nb_ hb
    (try clear hb)
    (try clear hb2)
    (try clear hk)
    (try clear hi)
    refine hK.out _ _ ⟨(pc_ HB.out hw133_0), (pc_ HB.out hw133_1), (pc_ HB.out hw133_2)⟩ (fun hHeld => ?_)
    clear hK K
    refine no_ ?_
    refine pv_ 7 28 ?_
    refine done_ (done_of HT_.out (by kernel_rfl)) ?_
    have p135 : 0 ≤ (x5_1 : Int) := oa_
    have q135 : x5_1 < (l0.length : Int) := oa_
    obtain ⟨ad135, A135_2, c135_2, e135, hx135_0, hx135_1, hx135_2, hl135_2, hi135_2⟩ := at_T65 HR0.out x5_1 p135 q135
    obtain rfl : ad132 = ad135 := (by injection e135)
    (try obtain ⟨rfl, rfl⟩ : A135_2 = A133_2 ∧ c135_2 = c133_2 := by (have h_ := hx135_2.symm.trans hw133_2; injection h_ with h_; injection h_ with h1_ h2_ h3_; exact ⟨h1_, h3_⟩))
    replace hx135_0 := pc_ HB.out hx135_0
    replace hx135_1 := pc_ HB.out hx135_1
    replace hx135_2 := pc_ HB.out hx135_2
    have HR135_2 := Aside0.mk hi135_2
    have HC135_2 := Aside0.mk hl135_2
    clear hi135_2 hl135_2
    replace p135 := eq_true p135
    replace q135 := eq_true q135
    try go_wp2_with (first | ((with_reducible refine gate_callee (f := 96) rfl ?_); refine gl_ 37 Try.func96 #[.slice A135_2 ((rd_T65 l0 x5_1).f2).length c135_2, .int .i64 (wrap64 ((wrap64 (x1_1 + 1)) + 1))] rfl ma_ ?_; (with_reducible refine (laws_heldMarkS.calls k1 _ _ ((rd_T65 l0 x5_1).f2) (wrap64 ((wrap64 (x1_1 + 1)) + 1)) t136 _ ?side1 ?side2 A8.out).mono ?_); (case side1 => exact cs_ ((Kd.C_below HR135_2.out HB.out))); (case side2 => exact HC135_2.out); rintro e w' ⟨rfl, ⟨nd, rfl⟩⟩; refine ⟨_, rfl, ?_⟩))
    go_ret
    exact ⟨er_, hb_⟩
   have c9b0 := decide_eq_false c9
   clear c9
   have H' := Aside0.mk H
   clear H
   have p132 : 0 ≤ (x5_1 : Int) := oa_
   have q132 : x5_1 < (l0.length : Int) := oa_
   obtain ⟨ad132, A132_2, c132_2, e132, hx132_0, hx132_1, hx132_2, hl132_2, hi132_2⟩ := at_T65 HR0.out x5_1 p132 q132
   cases e132
   replace hx132_0 := pc_ HB.out hx132_0
   replace hx132_1 := pc_ HB.out hx132_1
   replace hx132_2 := pc_ HB.out hx132_2
   have HR132_2 := Aside0.mk hi132_2
   have HC132_2 := Aside0.mk hl132_2
   clear hi132_2 hl132_2
   replace p132 := eq_true p132
   replace q132 := eq_true q132
   try go_wp2
   replace HB := qH_ HB
   have p133 : 0 ≤ (x5_1 : Int) := oa_
   have q133 : x5_1 < (l0.length : Int) := oa_
   obtain ⟨ad133, A133_2, c133_2, e133, hx133_0, hx133_1, hx133_2, hl133_2, hi133_2⟩ := at_T65 HR0.out x5_1 p133 q133
   have hw133_2 := hx133_2
   have hw133_1 := hx133_1
   have hw133_0 := hx133_0
   obtain rfl : ad132 = ad133 := (by injection e133)
   replace hx133_0 := pc_ HB.out hx133_0
   replace hx133_1 := pc_ HB.out hx133_1
   replace hx133_2 := pc_ HB.out hx133_2
   have HR133_2 := Aside0.mk hi133_2
   have HC133_2 := Aside0.mk hl133_2
   clear hi133_2 hl133_2
   replace p133 := eq_true p133
   replace q133 := eq_true q133
   refine start_ (n := 8) (S := fun w' => w'.cell? (ad132.add ((x5_1).toNat * 3)) = some (.int .i64 ((rd_T65 l0 x5_1).f0)) ∧ w'.cell? ⟨(ad132.add ((x5_1).toNat * 3)).block, (ad132.add ((x5_1).toNat * 3)).off + 1, none⟩ = some (.string ((rd_T65 l0 x5_1).f1)) ∧ w'.cell? ⟨(ad132.add ((x5_1).toNat * 3)).block, (ad132.add ((x5_1).toNat * 3)).off + 2, none⟩ = some (.slice A133_2 ((rd_T65 l0 x5_1).f2).length c133_2)) (ds := []) #[false, false, false, false, false, false, false, false] (by kernel_rfl) rfl rfl ⟨(pc_ HB.out hw133_0), (pc_ HB.out hw133_1), (pc_ HB.out hw133_2)⟩ (fun hHeld => ?_); refine with_tabW laws_heldSegmentS.tab7 laws_heldSegmentS.bits7 (fun HT_ HW_ => ?_)
   generalize wr.drew = w12 at HB HR133_2 hx133_0 hx133_1 hx133_2 hHeld ⊢
   refine pv_ 0 21 ?_
   refine pv_ 1 22 ?_
   refine pv_ 2 23 ?_
   refine pv_ 3 24 ?_
   refine pv_ 5 26 ?_
   refine tk_ 4 25 ?_
   refine on_ 6 27 (fun K hK => ?_)
   refine gs_ Try.func85 #[.int .i64 (wrap64 (x1_1 + 1))] rfl ma_ ?_
   with_reducible refine (laws_markText.calls k1 (wrap64 (x1_1 + 1)) t134 _ A6.out).mono ?_
   rintro e w13 ⟨rfl, hb⟩
   refine ⟨_, rfl, ?_⟩
   replace HB := nb_ hb
   (try clear hb)
   (try clear hb2)
   (try clear hk)
   (try clear hi)
   refine hK.out _ _ ⟨(pc_ HB.out hw133_0), (pc_ HB.out hw133_1), (pc_ HB.out hw133_2)⟩ (fun hHeld => ?_)
   clear hK K
   refine no_ ?_
   refine pv_ 7 28 ?_
   refine done_ (done_of HT_.out (by kernel_rfl)) ?_
   have p135 : 0 ≤ (x5_1 : Int) := oa_
   have q135 : x5_1 < (l0.length : Int) := oa_
   obtain ⟨ad135, A135_2, c135_2, e135, hx135_0, hx135_1, hx135_2, hl135_2, hi135_2⟩ := at_T65 HR0.out x5_1 p135 q135
   obtain rfl : ad132 = ad135 := (by injection e135)
   (try obtain ⟨rfl, rfl⟩ : A135_2 = A133_2 ∧ c135_2 = c133_2 := by (have h_ := hx135_2.symm.trans hw133_2; injection h_ with h_; injection h_ with h1_ h2_ h3_; exact ⟨h1_, h3_⟩))
   replace hx135_0 := pc_ HB.out hx135_0
   replace hx135_1 := pc_ HB.out hx135_1
   replace hx135_2 := pc_ HB.out hx135_2
   have HR135_2 := Aside0.mk hi135_2
   have HC135_2 := Aside0.mk hl135_2
   clear hi135_2 hl135_2
   replace p135 := eq_true p135
   replace q135 := eq_true q135
   try go_wp2_with (first | ((with_reducible refine gate_callee (f := 96) rfl ?_); refine gl_ 37 Try.func96 #[.slice A135_2 ((rd_T65 l0 x5_1).f2).length c135_2, .int .i64 (wrap64 ((wrap64 (x1_1 + 1)) + 1))] rfl ma_ ?_; (with_reducible refine (laws_heldMarkS.calls k1 _ _ ((rd_T65 l0 x5_1).f2) (wrap64 ((wrap64 (x1_1 + 1)) + 1)) t136 _ ?side1 ?side2 A8.out).mono ?_); (case side1 => exact cs_ ((Kd.C_below HR135_2.out HB.out))); (case side2 => exact HC135_2.out); rintro e w' ⟨rfl, ⟨nd, rfl⟩⟩; refine ⟨_, rfl, ?_⟩))
   go_roundg k1
   case measure => have := HK1.out; omega
   case rel => exact ⟨(t136), (wrap64 (x5_1 + 1)), sr_, sr_, H', ⟨by have := HK1.out; omega⟩, ⟨hb_⟩⟩

/-! ### laws_heldStore: function 18 -/
def laws_heldStore.f (k : Nat) (l0_0 : List (S65)) (a0_1 : Int) (a1 : Int) : Option (Int) := (laws_heldSegmentS.f k l0_0 a1).bind fun t138 => (if t138 < 0 then (some (-1)) else (some t138))
theorem laws_heldStore.mono : ∀ a0 a1 a2 k, LeO (laws_heldStore.f k a0 a1 a2) (laws_heldStore.f (k + 1) a0 a1 a2) := by
 intro a0 a1 a2 k
 unfold laws_heldStore.f
 repeat' first
   | (with_reducible exact laws_heldSegmentS.mono _ _ _)
   | (with_reducible exact LeO.refl _)
   | (with_reducible exact LeO.none _)
   | (with_reducible refine LeO.ite ?_ ?_)
   | (with_reducible refine LeO.bind ?_ (fun _ => ?_))
   | exact laws_heldSegmentS.mono _ _ _
   | exact LeO.none _
   | refine LeO.ite ?_ ?_
   | refine LeO.bind ?_ (fun _ => ?_)
set_option maxHeartbeats 8000000 in
set_option maxRecDepth 100000 in
theorem laws_heldStore.calls (k : Nat) (A0_0 : Option Addr) (c0_0 : Nat) (l0_0 : List (S65)) (a0_1 : Int) (a1 : Int) (r : Int) (w : World) (hr0_0 : Kd.C k65 w A0_0 l0_0.length l0_0) (hc0_0 : l0_0.length ≤ c0_0) (h : laws_heldStore.f k l0_0 a0_1 a1 = some r) :
  Calls Try.prog 18 #[.agg #[.slice A0_0 l0_0.length c0_0, .int .i64 a0_1], .int .i64 a1] w fun e w' => e = .returned (.int .i64 r) ∧ Below w.heap.size w w' := by
 have hu24 := Try.underlying24
 have HR0_0 := Aside0.mk hr0_0
 have HC0_0 := Aside0.mk hc0_0
 clear hr0_0 hc0_0
 have HB := Aside0.mk (Below.refl w.heap.size w)
 have H : ((laws_heldSegmentS.f k l0_0 a1).bind fun t138 => (if t138 < 0 then (some (-1)) else (some t138))) = some r := h
 clear h
 replace H := bnd_ H
 obtain ⟨t138, A3, H⟩ := H
 replace H := ite_ H
 obtain ⟨c4, H⟩ | ⟨c4, H⟩ := H
 ·have c4b0 := decide_eq_true c4
  clear c4
  obtain rfl := Option.some.inj H
  go_enter Try.func18, Try.ntmps18
  go_wp2_with (first | ((with_reducible refine gate_dst (N := 2) rfl ?_); refine be_ (N := 2) #[.slice A0_0 l0_0.length c0_0, .int .i64 a0_1] 24 ?_; intro gb137 hg w5 hbox hb; have BK137 := Aside0.mk (hbox); have GW137 := ge_ hg; have GE137 := ge_ hg; replace HB := nb_ hb; clear hb hbox hg; obtain ⟨hcz6_0, hcz6_1, hfz6_0, hfz6_1⟩ := cf2_ BK137.out) | ((with_reducible refine gate_callee (f := 61) rfl ?_); refine gl_ 8 Try.func61 #[.slice A0_0 l0_0.length c0_0, .int .i64 a1] rfl ma_ ?_; (with_reducible refine (laws_heldSegmentS.calls k _ _ l0_0 a1 t138 _ ?side1 ?side2 A3.out).mono ?_); (case side1 => exact cs_ ((Kd.C_below HR0_0.out HB.out))); (case side2 => exact HC0_0.out); rintro e w7 ⟨rfl, hb⟩; refine ⟨_, rfl, ?_⟩; replace BK137 := bK_ BK137 hb; replace HB := nc_ GE137 hb; (try clear hb); (try clear hb2); (try clear hk); (try clear hi)))
  go_ret
  exact ⟨er_, hs_ GE137.out⟩
 have c4b0 := decide_eq_false c4
 clear c4
 obtain rfl := Option.some.inj H
 go_enter Try.func18, Try.ntmps18
 go_wp2_with (first | ((with_reducible refine gate_dst (N := 2) rfl ?_); refine be_ (N := 2) #[.slice A0_0 l0_0.length c0_0, .int .i64 a0_1] 24 ?_; intro gb137 hg w8 hbox hb; have BK137 := Aside0.mk (hbox); have GW137 := ge_ hg; have GE137 := ge_ hg; replace HB := nb_ hb; clear hb hbox hg; obtain ⟨hcz9_0, hcz9_1, hfz9_0, hfz9_1⟩ := cf2_ BK137.out) | ((with_reducible refine gate_callee (f := 61) rfl ?_); refine gl_ 8 Try.func61 #[.slice A0_0 l0_0.length c0_0, .int .i64 a1] rfl ma_ ?_; (with_reducible refine (laws_heldSegmentS.calls k _ _ l0_0 a1 t138 _ ?side1 ?side2 A3.out).mono ?_); (case side1 => exact cs_ ((Kd.C_below HR0_0.out HB.out))); (case side2 => exact HC0_0.out); rintro e w10 ⟨rfl, hb⟩; refine ⟨_, rfl, ?_⟩; replace BK137 := bK_ BK137 hb; replace HB := nc_ GE137 hb; (try clear hb); (try clear hb2); (try clear hk); (try clear hi)))
 go_ret
 exact ⟨er_, hs_ GE137.out⟩

end Go.Proofs.Ytffpeklekkpbjaa.QFnExactNewStore
