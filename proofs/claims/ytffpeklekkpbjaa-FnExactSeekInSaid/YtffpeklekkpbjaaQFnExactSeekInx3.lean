/- For each Go function that one statement reaches: a plain function with the same answers, and the proof that the call comes to them. Conditions: those that each contract names. Written by a program of this repository. -/
import Derived.Test.YtffpeklekkpbjaaVSeekIna
import Derived.Test.YtffpeklekkpbjaaQFnExactSeekInx0
import Derived.Test.YtffpeklekkpbjaaQFnExactSeekInx2
namespace Go.Proofs.Ytffpeklekkpbjaa.QFnExactSeekIn
open Go.RowKit Go.Proofs.YtffpeklekkpbjaaW.PrintWords Go.Proofs.YtffpeklekkpbjaaW.PrintLast Go.Proofs.YtffpeklekkpbjaaW.PrintMore
attribute [local go_sem] max2_int min2_int max_two min_two max_three min_three max_four min_four Go.Proofs.YtffpeklekkpbjaaW.PrintMore2.isSome_setCell   -- for this text's walks alone
set_option linter.unusedVariables false
set_option linter.unusedSimpArgs false

/-! ### laws_eqSegmentS: function 59 -/
def laws_eqSegmentS.l0 : Nat → List (S65) → List (S65) → Int → Option (Bool)
 | 0, _, _, _ => none
 | k + 1, x0, x1, x5 => if x5 < (x0.length : Int) then (if 0 ≤ x5 then (if x5 < (x1.length : Int) then ((laws_eqSegment.f k ((rd_T65 x0 x5).f0) ((rd_T65 x0 x5).f1) ((rd_T65 x0 x5).f2) ((rd_T65 x1 x5).f0) ((rd_T65 x1 x5).f1) ((rd_T65 x1 x5).f2)).bind fun t111 => (if t111 = true then (laws_eqSegmentS.l0 k x0 x1 (wrap64 (x5 + 1))) else (some false))) else (none)) else (none)) else (some true)
def laws_eqSegmentS.f (k : Nat) (l0 : List (S65)) (l1 : List (S65)) : Option (Bool) := if (l0.length : Int) = (l1.length : Int) then (laws_eqSegmentS.l0 k l0 l1 0) else (some false)
theorem laws_eqSegmentS.mono_l : ∀ k, (∀ y0 y1 y2, LeO (laws_eqSegmentS.l0 k y0 y1 y2) (laws_eqSegmentS.l0 (k + 1) y0 y1 y2))
 | 0 => fun _ _ _ r h => by simp [laws_eqSegmentS.l0] at h
 | k + 1 => by
  have ih0 := laws_eqSegmentS.mono_l k
  ·intro y0 y1 y2
   unfold laws_eqSegmentS.l0
   repeat' first
   | (with_reducible exact ih0 _ _ _)
   | (with_reducible exact laws_eqSegment.mono _ _ _ _ _ _ _)
   | (with_reducible exact LeO.refl _)
   | (with_reducible exact LeO.none _)
   | (with_reducible refine LeO.ite ?_ ?_)
   | (with_reducible refine LeO.bind ?_ (fun _ => ?_))
   | exact ih0 _ _ _
   | exact laws_eqSegment.mono _ _ _ _ _ _ _
   | exact LeO.none _
   | refine LeO.ite ?_ ?_
   | refine LeO.bind ?_ (fun _ => ?_)
theorem laws_eqSegmentS.mono : ∀ a0 a1 k, LeO (laws_eqSegmentS.f k a0 a1) (laws_eqSegmentS.f (k + 1) a0 a1) := by
 intro a0 a1 k
 have ih0 := laws_eqSegmentS.mono_l k
 unfold laws_eqSegmentS.f
 repeat' first
   | (with_reducible exact ih0 _ _ _)
   | (with_reducible exact laws_eqSegment.mono _ _ _ _ _ _ _)
   | (with_reducible exact LeO.refl _)
   | (with_reducible exact LeO.none _)
   | (with_reducible refine LeO.ite ?_ ?_)
   | (with_reducible refine LeO.bind ?_ (fun _ => ?_))
   | exact ih0 _ _ _
   | exact laws_eqSegment.mono _ _ _ _ _ _ _
   | exact LeO.none _
   | refine LeO.ite ?_ ?_
   | refine LeO.bind ?_ (fun _ => ?_)
def laws_eqSegmentS.T6 : Bool × List (List Nat × List Nat) := (true, [([], []), ([], []), ([0, 1], [0, 1]), ([2], [2]), ([], []), ([], []), ([4, 5], [4, 5]), ([6], [6]), ([3, 7], [3, 7]), ([8], [8])])
def laws_eqSegmentS.B6 : List Nat := [0, 0, 3, 7, 0, 0, 48, 112, 255, 511]
theorem laws_eqSegmentS.tab6 : rtab .any (opsOf Try.f59 6) = laws_eqSegmentS.T6 := by kernel_rfl
theorem laws_eqSegmentS.bits6 : waitsOk laws_eqSegmentS.T6.2 laws_eqSegmentS.B6 = true := by kernel_rfl
set_option maxHeartbeats 8000000 in
set_option maxRecDepth 100000 in
theorem laws_eqSegmentS.calls (k : Nat) (A0 : Option Addr) (c0 : Nat) (l0 : List (S65)) (A1 : Option Addr) (c1 : Nat) (l1 : List (S65)) (r : Bool) (w : World) (hr0 : Kd.C k65 w A0 l0.length l0) (hc0 : l0.length ≤ c0) (hr1 : Kd.C k65 w A1 l1.length l1) (hc1 : l1.length ≤ c1) (h : laws_eqSegmentS.f k l0 l1 = some r) :
  Calls Try.prog 59 #[.slice A0 l0.length c0, .slice A1 l1.length c1] w fun e w' => e = .returned (.bool r) ∧ Below w.heap.size w w' := by
 have hu65 := Try.underlying65
 have HR0 := Aside0.mk hr0
 have HC0 := Aside0.mk hc0
 clear hr0 hc0
 have HR1 := Aside0.mk hr1
 have HC1 := Aside0.mk hc1
 clear hr1 hc1
 have HB := Aside0.mk (Below.refl w.heap.size w)
 have H : (if (l0.length : Int) = (l1.length : Int) then (laws_eqSegmentS.l0 k l0 l1 0) else (some false)) = some r := h
 clear h
 replace H := ite_ H
 obtain ⟨c3, H⟩ | ⟨c3, H⟩ := H
 rotate_left
 ·have c3b0 : ((l0.length : Int) == (l1.length : Int)) = false := beq_eq_false_iff_ne.mpr c3
  have c3b1 : ((l0.length : Int) != (l1.length : Int)) = true := bne_iff_ne.mpr c3
  have c3b2 : (l0.length == l1.length) = false := by first | simpa using c3 | (simp at c3 ⊢; omega)
  obtain rfl := Option.some.inj H
  go_enter Try.func59, Try.ntmps59
  go_wp2
  go_ret
  exact ⟨er_, hb_⟩
 have c3b0 : ((l0.length : Int) == (l1.length : Int)) = true := beq_iff_eq.mpr c3
 have c3b1 : ((l0.length : Int) != (l1.length : Int)) = false := bne_eq_false_iff_eq.mpr c3
 have c3b2 : (l0.length == l1.length) = true := by first | simpa using c3 | (simp at c3 ⊢; omega)
 clear c3
 have H' := Aside0.mk H
 clear H
 go_enter Try.func59, Try.ntmps59
 go_wp2
 go_loopg [5] k (fun kq v5 w' => ∃ (x5_1 : Int), v5 = .int .i64 x5_1 ∧ Aside0 (laws_eqSegmentS.l0 kq l0 l1 x5_1 = some r) ∧ Aside0 (kq ≤ k) ∧ Aside0 (Below w.heap.size w w'))
 case atStart => exact ⟨(0), sr_, H', ⟨Nat.le_refl _⟩, ⟨hb_⟩⟩
 case round =>
  clear H'
  try clear c1
  try clear p2
  try clear c3
  try clear c3b0
  try clear c3b1
  try clear c3b2
  obtain ⟨x5_1, rfl, HA, HK1, HB⟩ := hrel
  cases gk with
  | zero => exact absurd HA.out (by simp [laws_eqSegmentS.l0])
  | succ k1 =>
   have H := HA.out
   clear HA
   simp only [laws_eqSegmentS.l0] at H
   replace H := ite_ H
   obtain ⟨c4, H⟩ | ⟨c4, H⟩ := H
   rotate_left
   ·have c4b0 := decide_eq_false c4
    clear c4
    obtain rfl := Option.some.inj H
    go_wp2
    go_ret
    exact ⟨er_, hb_⟩
   have c4b0 := decide_eq_true c4
   clear c4
   replace H := ifs_ H
   obtain ⟨c5, H⟩ := H
   have c5b0 := decide_eq_true c5
   clear c5
   replace H := ifs_ H
   obtain ⟨c6, H⟩ := H
   have c6b0 := decide_eq_true c6
   clear c6
   replace H := bnd_ H
   obtain ⟨t111, A7, H⟩ := H
   replace H := ifb_ H
   obtain ⟨rfl, H⟩ | ⟨rfl, H⟩ := H
   rotate_left
   ·obtain rfl := Option.some.inj H
    try go_wp2
    replace HB := qH_ HB
    have p109 : 0 ≤ (x5_1 : Int) := oa_
    have q109 : x5_1 < (l0.length : Int) := oa_
    obtain ⟨ad109, A109_2, c109_2, e109, hx109_0, hx109_1, hx109_2, hl109_2, hi109_2⟩ := at_T65 HR0.out x5_1 p109 q109
    have hw109_2 := hx109_2
    have hw109_1 := hx109_1
    have hw109_0 := hx109_0
    cases e109
    replace hx109_0 := pc_ HB.out hx109_0
    replace hx109_1 := pc_ HB.out hx109_1
    replace hx109_2 := pc_ HB.out hx109_2
    have HR109_2 := Aside0.mk hi109_2
    have HC109_2 := Aside0.mk hl109_2
    clear hi109_2 hl109_2
    replace p109 := eq_true p109
    replace q109 := eq_true q109
    have p110 : 0 ≤ (x5_1 : Int) := oa_
    have q110 : x5_1 < (l1.length : Int) := oa_
    obtain ⟨ad110, A110_2, c110_2, e110, hx110_0, hx110_1, hx110_2, hl110_2, hi110_2⟩ := at_T65 HR1.out x5_1 p110 q110
    have hw110_2 := hx110_2
    have hw110_1 := hx110_1
    have hw110_0 := hx110_0
    cases e110
    replace hx110_0 := pc_ HB.out hx110_0
    replace hx110_1 := pc_ HB.out hx110_1
    replace hx110_2 := pc_ HB.out hx110_2
    have HR110_2 := Aside0.mk hi110_2
    have HC110_2 := Aside0.mk hl110_2
    clear hi110_2 hl110_2
    replace p110 := eq_true p110
    replace q110 := eq_true q110
    refine start_ (n := 10) (S := fun w' => w'.cell? (ad109.add ((x5_1).toNat * 3)) = some (.int .i64 ((rd_T65 l0 x5_1).f0)) ∧ w'.cell? ⟨(ad109.add ((x5_1).toNat * 3)).block, (ad109.add ((x5_1).toNat * 3)).off + 1, none⟩ = some (.string ((rd_T65 l0 x5_1).f1)) ∧ w'.cell? ⟨(ad109.add ((x5_1).toNat * 3)).block, (ad109.add ((x5_1).toNat * 3)).off + 2, none⟩ = some (.slice A109_2 ((rd_T65 l0 x5_1).f2).length c109_2) ∧ w'.cell? (ad110.add ((x5_1).toNat * 3)) = some (.int .i64 ((rd_T65 l1 x5_1).f0)) ∧ w'.cell? ⟨(ad110.add ((x5_1).toNat * 3)).block, (ad110.add ((x5_1).toNat * 3)).off + 1, none⟩ = some (.string ((rd_T65 l1 x5_1).f1)) ∧ w'.cell? ⟨(ad110.add ((x5_1).toNat * 3)).block, (ad110.add ((x5_1).toNat * 3)).off + 2, none⟩ = some (.slice A110_2 ((rd_T65 l1 x5_1).f2).length c110_2)) (ds := []) #[false, false, false, false, false, false, false, false, false, false] (by kernel_rfl) rfl rfl ⟨(pc_ HB.out hw109_0), (pc_ HB.out hw109_1), (pc_ HB.out hw109_2), (pc_ HB.out hw110_0), (pc_ HB.out hw110_1), (pc_ HB.out hw110_2)⟩ (fun hHeld => ?_); refine with_tabW laws_eqSegmentS.tab6 laws_eqSegmentS.bits6 (fun HT_ HW_ => ?_)
    generalize wr.drew = w11 at HB HR109_2 HR110_2 hx109_0 hx109_1 hx109_2 hx110_0 hx110_1 hx110_2 hHeld ⊢
    refine pv_ 0 17 ?_
    refine pv_ 1 18 ?_
    refine pv_ 2 19 ?_
    refine pv_ 4 21 ?_
    refine pv_ 5 22 ?_
    refine pv_ 6 23 ?_
    refine tk_ 3 20 ?_
    refine tk_ 7 24 ?_
    refine on_ 8 25 (fun K hK => ?_)
    refine gs_ Try.func94 #[.agg #[.int .i64 ((rd_T65 l0 x5_1).f0), .string ((rd_T65 l0 x5_1).f1), .slice A109_2 ((rd_T65 l0 x5_1).f2).length c109_2], .agg #[.int .i64 ((rd_T65 l1 x5_1).f0), .string ((rd_T65 l1 x5_1).f1), .slice A110_2 ((rd_T65 l1 x5_1).f2).length c110_2]] rfl ma_ ?_
    with_reducible refine (laws_eqSegment.calls k1 ((rd_T65 l0 x5_1).f0) ((rd_T65 l0 x5_1).f1) _ _ ((rd_T65 l0 x5_1).f2) ((rd_T65 l1 x5_1).f0) ((rd_T65 l1 x5_1).f1) _ _ ((rd_T65 l1 x5_1).f2) false _ ?side1 ?side2 ?side3 ?side4 A7.out).mono ?_
    (case side1 => exact cs_ ((Kd.C_below HR109_2.out HB.out)))
    (case side2 => exact HC109_2.out)
    (case side3 => exact cs_ ((Kd.C_below HR110_2.out HB.out)))
    (case side4 => exact HC110_2.out)
    rintro e w12 ⟨rfl, hb⟩
    refine ⟨_, rfl, ?_⟩
    replace HB := nb_ hb
    (try clear hb)
    (try clear hb2)
    (try clear hk)
    (try clear hi)
    refine hK.out _ _ ⟨(pc_ HB.out hw109_0), (pc_ HB.out hw109_1), (pc_ HB.out hw109_2), (pc_ HB.out hw110_0), (pc_ HB.out hw110_1), (pc_ HB.out hw110_2)⟩ (fun hHeld => ?_)
    clear hK K
    refine no_ ?_
    refine pv_ 9 26 ?_
    refine done_ (done_of HT_.out (by kernel_rfl)) ?_
    try go_wp2
    go_ret
    exact ⟨er_, hb_⟩
   have H' := Aside0.mk H
   clear H
   try go_wp2
   replace HB := qH_ HB
   have p109 : 0 ≤ (x5_1 : Int) := oa_
   have q109 : x5_1 < (l0.length : Int) := oa_
   obtain ⟨ad109, A109_2, c109_2, e109, hx109_0, hx109_1, hx109_2, hl109_2, hi109_2⟩ := at_T65 HR0.out x5_1 p109 q109
   have hw109_2 := hx109_2
   have hw109_1 := hx109_1
   have hw109_0 := hx109_0
   cases e109
   replace hx109_0 := pc_ HB.out hx109_0
   replace hx109_1 := pc_ HB.out hx109_1
   replace hx109_2 := pc_ HB.out hx109_2
   have HR109_2 := Aside0.mk hi109_2
   have HC109_2 := Aside0.mk hl109_2
   clear hi109_2 hl109_2
   replace p109 := eq_true p109
   replace q109 := eq_true q109
   have p110 : 0 ≤ (x5_1 : Int) := oa_
   have q110 : x5_1 < (l1.length : Int) := oa_
   obtain ⟨ad110, A110_2, c110_2, e110, hx110_0, hx110_1, hx110_2, hl110_2, hi110_2⟩ := at_T65 HR1.out x5_1 p110 q110
   have hw110_2 := hx110_2
   have hw110_1 := hx110_1
   have hw110_0 := hx110_0
   cases e110
   replace hx110_0 := pc_ HB.out hx110_0
   replace hx110_1 := pc_ HB.out hx110_1
   replace hx110_2 := pc_ HB.out hx110_2
   have HR110_2 := Aside0.mk hi110_2
   have HC110_2 := Aside0.mk hl110_2
   clear hi110_2 hl110_2
   replace p110 := eq_true p110
   replace q110 := eq_true q110
   refine start_ (n := 10) (S := fun w' => w'.cell? (ad109.add ((x5_1).toNat * 3)) = some (.int .i64 ((rd_T65 l0 x5_1).f0)) ∧ w'.cell? ⟨(ad109.add ((x5_1).toNat * 3)).block, (ad109.add ((x5_1).toNat * 3)).off + 1, none⟩ = some (.string ((rd_T65 l0 x5_1).f1)) ∧ w'.cell? ⟨(ad109.add ((x5_1).toNat * 3)).block, (ad109.add ((x5_1).toNat * 3)).off + 2, none⟩ = some (.slice A109_2 ((rd_T65 l0 x5_1).f2).length c109_2) ∧ w'.cell? (ad110.add ((x5_1).toNat * 3)) = some (.int .i64 ((rd_T65 l1 x5_1).f0)) ∧ w'.cell? ⟨(ad110.add ((x5_1).toNat * 3)).block, (ad110.add ((x5_1).toNat * 3)).off + 1, none⟩ = some (.string ((rd_T65 l1 x5_1).f1)) ∧ w'.cell? ⟨(ad110.add ((x5_1).toNat * 3)).block, (ad110.add ((x5_1).toNat * 3)).off + 2, none⟩ = some (.slice A110_2 ((rd_T65 l1 x5_1).f2).length c110_2)) (ds := []) #[false, false, false, false, false, false, false, false, false, false] (by kernel_rfl) rfl rfl ⟨(pc_ HB.out hw109_0), (pc_ HB.out hw109_1), (pc_ HB.out hw109_2), (pc_ HB.out hw110_0), (pc_ HB.out hw110_1), (pc_ HB.out hw110_2)⟩ (fun hHeld => ?_); refine with_tabW laws_eqSegmentS.tab6 laws_eqSegmentS.bits6 (fun HT_ HW_ => ?_)
   generalize wr.drew = w9 at HB HR109_2 HR110_2 hx109_0 hx109_1 hx109_2 hx110_0 hx110_1 hx110_2 hHeld ⊢
   refine pv_ 0 17 ?_
   refine pv_ 1 18 ?_
   refine pv_ 2 19 ?_
   refine pv_ 4 21 ?_
   refine pv_ 5 22 ?_
   refine pv_ 6 23 ?_
   refine tk_ 3 20 ?_
   refine tk_ 7 24 ?_
   refine on_ 8 25 (fun K hK => ?_)
   refine gs_ Try.func94 #[.agg #[.int .i64 ((rd_T65 l0 x5_1).f0), .string ((rd_T65 l0 x5_1).f1), .slice A109_2 ((rd_T65 l0 x5_1).f2).length c109_2], .agg #[.int .i64 ((rd_T65 l1 x5_1).f0), .string ((rd_T65 l1 x5_1).f1), .slice A110_2 ((rd_T65 l1 x5_1).f2).length c110_2]] rfl ma_ ?_
   with_reducible refine (laws_eqSegment.calls k1 ((rd_T65 l0 x5_1).f0) ((rd_T65 l0 x5_1).f1) _ _ ((rd_T65 l0 x5_1).f2) ((rd_T65 l1 x5_1).f0) ((rd_T65 l1 x5_1).f1) _ _ ((rd_T65 l1 x5_1).f2) true _ ?side1 ?side2 ?side3 ?side4 A7.out).mono ?_
   (case side1 => exact cs_ ((Kd.C_below HR109_2.out HB.out)))
   (case side2 => exact HC109_2.out)
   (case side3 => exact cs_ ((Kd.C_below HR110_2.out HB.out)))
   (case side4 => exact HC110_2.out)
   rintro e w10 ⟨rfl, hb⟩
   refine ⟨_, rfl, ?_⟩
   replace HB := nb_ hb
   (try clear hb)
   (try clear hb2)
   (try clear hk)
   (try clear hi)
   refine hK.out _ _ ⟨(pc_ HB.out hw109_0), (pc_ HB.out hw109_1), (pc_ HB.out hw109_2), (pc_ HB.out hw110_0), (pc_ HB.out hw110_1), (pc_ HB.out hw110_2)⟩ (fun hHeld => ?_)
   clear hK K
   refine no_ ?_
   refine pv_ 9 26 ?_
   refine done_ (done_of HT_.out (by kernel_rfl)) ?_
   try go_wp2
   go_roundg k1
   case measure => have := HK1.out; omega
   case rel => exact ⟨(wrap64 (x5_1 + 1)), sr_, H', ⟨by have := HK1.out; omega⟩, ⟨hb_⟩⟩

/-! ### laws_eqStore: function 16 -/
def laws_eqStore.f (k : Nat) (l0_0 : List (S65)) (a0_1 : Int) (l1_0 : List (S65)) (a1_1 : Int) : Option (Bool) := (laws_eqSegmentS.f k l0_0 l1_0).bind fun t114 => (if t114 = true then (if a0_1 = a1_1 then (some true) else (some false)) else (some false))
theorem laws_eqStore.mono : ∀ a0 a1 a2 a3 k, LeO (laws_eqStore.f k a0 a1 a2 a3) (laws_eqStore.f (k + 1) a0 a1 a2 a3) := by
 intro a0 a1 a2 a3 k
 unfold laws_eqStore.f
 repeat' first
   | (with_reducible exact laws_eqSegmentS.mono _ _ _)
   | (with_reducible exact LeO.refl _)
   | (with_reducible exact LeO.none _)
   | (with_reducible refine LeO.ite ?_ ?_)
   | (with_reducible refine LeO.bind ?_ (fun _ => ?_))
   | exact laws_eqSegmentS.mono _ _ _
   | exact LeO.none _
   | refine LeO.ite ?_ ?_
   | refine LeO.bind ?_ (fun _ => ?_)
set_option maxHeartbeats 8000000 in
set_option maxRecDepth 100000 in
theorem laws_eqStore.calls (k : Nat) (A0_0 : Option Addr) (c0_0 : Nat) (l0_0 : List (S65)) (a0_1 : Int) (A1_0 : Option Addr) (c1_0 : Nat) (l1_0 : List (S65)) (a1_1 : Int) (r : Bool) (w : World) (hr0_0 : Kd.C k65 w A0_0 l0_0.length l0_0) (hc0_0 : l0_0.length ≤ c0_0) (hr1_0 : Kd.C k65 w A1_0 l1_0.length l1_0) (hc1_0 : l1_0.length ≤ c1_0) (h : laws_eqStore.f k l0_0 a0_1 l1_0 a1_1 = some r) :
  Calls Try.prog 16 #[.agg #[.slice A0_0 l0_0.length c0_0, .int .i64 a0_1], .agg #[.slice A1_0 l1_0.length c1_0, .int .i64 a1_1]] w fun e w' => e = .returned (.bool r) ∧ Below w.heap.size w w' := by
 have hu24 := Try.underlying24
 have HR0_0 := Aside0.mk hr0_0
 have HC0_0 := Aside0.mk hc0_0
 clear hr0_0 hc0_0
 have HR1_0 := Aside0.mk hr1_0
 have HC1_0 := Aside0.mk hc1_0
 clear hr1_0 hc1_0
 have HB := Aside0.mk (Below.refl w.heap.size w)
 have H : ((laws_eqSegmentS.f k l0_0 l1_0).bind fun t114 => (if t114 = true then (if a0_1 = a1_1 then (some true) else (some false)) else (some false))) = some r := h
 clear h
 replace H := bnd_ H
 obtain ⟨t114, A3, H⟩ := H
 replace H := ifb_ H
 obtain ⟨rfl, H⟩ | ⟨rfl, H⟩ := H
 rotate_left
 ·obtain rfl := Option.some.inj H
  go_enter Try.func16, Try.ntmps16
  go_wp2_with (first | ((with_reducible refine gate_dst (N := 2) rfl ?_); refine be_ (N := 2) #[.slice A0_0 l0_0.length c0_0, .int .i64 a0_1] 24 ?_; intro gb112 hg w22 hbox hb; have BK112 := Aside0.mk (hbox); have GW112 := ge_ hg; have GE112 := ge_ hg; replace HB := nb_ hb; clear hb hbox hg) | ((with_reducible refine gate_dst (N := 3) rfl ?_); refine be_ (N := 3) #[.slice A1_0 l1_0.length c1_0, .int .i64 a1_1] 24 ?_; intro gb113 hg w23 hbox hb; have BK113 := Aside0.mk (hbox); have GW113 := ge1_ hg GE112; have GE113 := ge1_ hg GE112; replace HB := nc_ GE112 hb; have NB112_113 := nl_ BK112 hg; have NB113_112 := ng_ BK112 hg; replace BK112 := bK_ BK112 hb; clear hb hbox hg; have hnb24 := NB112_113.out; have hnc24 := NB113_112.out; obtain ⟨hcz25_0, hcz25_1, hfz25_0, hfz25_1⟩ := cf2_ BK112.out; obtain ⟨hcz26_0, hcz26_1, hfz26_0, hfz26_1⟩ := cf2_ BK113.out) | ((with_reducible refine gate_callee (f := 59) rfl ?_); refine gl_ 9 Try.func59 #[.slice A0_0 l0_0.length c0_0, .slice A1_0 l1_0.length c1_0] rfl ma_ ?_; (with_reducible refine (laws_eqSegmentS.calls k _ _ l0_0 _ _ l1_0 false _ ?side1 ?side2 ?side3 ?side4 A3.out).mono ?_); (case side1 => exact cs_ ((Kd.C_below HR0_0.out HB.out))); (case side2 => exact HC0_0.out); (case side3 => exact cs_ ((Kd.C_below HR1_0.out HB.out))); (case side4 => exact HC1_0.out); rintro e w27 ⟨rfl, hb⟩; refine ⟨_, rfl, ?_⟩; replace BK112 := bK_ BK112 hb; replace BK113 := bK_ BK113 hb; replace HB := nc2_ GE112 GE113 hb; (try clear hb); (try clear hb2); (try clear hk); (try clear hi)))
  go_ret
  exact ⟨er_, hs2_ GE112.out GE113.out⟩
 replace H := ite_ H
 obtain ⟨c5, H⟩ | ⟨c5, H⟩ := H
 ·have c5b0 : (a0_1 == a1_1) = true := beq_iff_eq.mpr c5
  have c5b1 : (a0_1 != a1_1) = false := bne_eq_false_iff_eq.mpr c5
  clear c5
  obtain rfl := Option.some.inj H
  go_enter Try.func16, Try.ntmps16
  go_wp2_with (first | ((with_reducible refine gate_dst (N := 2) rfl ?_); refine be_ (N := 2) #[.slice A0_0 l0_0.length c0_0, .int .i64 a0_1] 24 ?_; intro gb112 hg w6 hbox hb; have BK112 := Aside0.mk (hbox); have GW112 := ge_ hg; have GE112 := ge_ hg; replace HB := nb_ hb; clear hb hbox hg) | ((with_reducible refine gate_dst (N := 3) rfl ?_); refine be_ (N := 3) #[.slice A1_0 l1_0.length c1_0, .int .i64 a1_1] 24 ?_; intro gb113 hg w7 hbox hb; have BK113 := Aside0.mk (hbox); have GW113 := ge1_ hg GE112; have GE113 := ge1_ hg GE112; replace HB := nc_ GE112 hb; have NB112_113 := nl_ BK112 hg; have NB113_112 := ng_ BK112 hg; replace BK112 := bK_ BK112 hb; clear hb hbox hg; have hnb8 := NB112_113.out; have hnc8 := NB113_112.out; obtain ⟨hcz9_0, hcz9_1, hfz9_0, hfz9_1⟩ := cf2_ BK112.out; obtain ⟨hcz10_0, hcz10_1, hfz10_0, hfz10_1⟩ := cf2_ BK113.out) | ((with_reducible refine gate_callee (f := 59) rfl ?_); refine gl_ 9 Try.func59 #[.slice A0_0 l0_0.length c0_0, .slice A1_0 l1_0.length c1_0] rfl ma_ ?_; (with_reducible refine (laws_eqSegmentS.calls k _ _ l0_0 _ _ l1_0 true _ ?side1 ?side2 ?side3 ?side4 A3.out).mono ?_); (case side1 => exact cs_ ((Kd.C_below HR0_0.out HB.out))); (case side2 => exact HC0_0.out); (case side3 => exact cs_ ((Kd.C_below HR1_0.out HB.out))); (case side4 => exact HC1_0.out); rintro e w11 ⟨rfl, hb⟩; refine ⟨_, rfl, ?_⟩; replace BK112 := bK_ BK112 hb; replace BK113 := bK_ BK113 hb; replace HB := nc2_ GE112 GE113 hb; (try clear hb); (try clear hb2); (try clear hk); (try clear hi); obtain ⟨hcz12_0, hcz12_1, hfz12_0, hfz12_1⟩ := cf2_ BK112.out; obtain ⟨hcz13_0, hcz13_1, hfz13_0, hfz13_1⟩ := cf2_ BK113.out))
  go_ret
  exact ⟨er_, hs2_ GE112.out GE113.out⟩
 have c5b0 : (a0_1 == a1_1) = false := beq_eq_false_iff_ne.mpr c5
 have c5b1 : (a0_1 != a1_1) = true := bne_iff_ne.mpr c5
 obtain rfl := Option.some.inj H
 go_enter Try.func16, Try.ntmps16
 go_wp2_with (first | ((with_reducible refine gate_dst (N := 2) rfl ?_); refine be_ (N := 2) #[.slice A0_0 l0_0.length c0_0, .int .i64 a0_1] 24 ?_; intro gb112 hg w14 hbox hb; have BK112 := Aside0.mk (hbox); have GW112 := ge_ hg; have GE112 := ge_ hg; replace HB := nb_ hb; clear hb hbox hg) | ((with_reducible refine gate_dst (N := 3) rfl ?_); refine be_ (N := 3) #[.slice A1_0 l1_0.length c1_0, .int .i64 a1_1] 24 ?_; intro gb113 hg w15 hbox hb; have BK113 := Aside0.mk (hbox); have GW113 := ge1_ hg GE112; have GE113 := ge1_ hg GE112; replace HB := nc_ GE112 hb; have NB112_113 := nl_ BK112 hg; have NB113_112 := ng_ BK112 hg; replace BK112 := bK_ BK112 hb; clear hb hbox hg; have hnb16 := NB112_113.out; have hnc16 := NB113_112.out; obtain ⟨hcz17_0, hcz17_1, hfz17_0, hfz17_1⟩ := cf2_ BK112.out; obtain ⟨hcz18_0, hcz18_1, hfz18_0, hfz18_1⟩ := cf2_ BK113.out) | ((with_reducible refine gate_callee (f := 59) rfl ?_); refine gl_ 9 Try.func59 #[.slice A0_0 l0_0.length c0_0, .slice A1_0 l1_0.length c1_0] rfl ma_ ?_; (with_reducible refine (laws_eqSegmentS.calls k _ _ l0_0 _ _ l1_0 true _ ?side1 ?side2 ?side3 ?side4 A3.out).mono ?_); (case side1 => exact cs_ ((Kd.C_below HR0_0.out HB.out))); (case side2 => exact HC0_0.out); (case side3 => exact cs_ ((Kd.C_below HR1_0.out HB.out))); (case side4 => exact HC1_0.out); rintro e w19 ⟨rfl, hb⟩; refine ⟨_, rfl, ?_⟩; replace BK112 := bK_ BK112 hb; replace BK113 := bK_ BK113 hb; replace HB := nc2_ GE112 GE113 hb; (try clear hb); (try clear hb2); (try clear hk); (try clear hi); obtain ⟨hcz20_0, hcz20_1, hfz20_0, hfz20_1⟩ := cf2_ BK112.out; obtain ⟨hcz21_0, hcz21_1, hfz21_0, hfz21_1⟩ := cf2_ BK113.out))
 go_ret
 exact ⟨er_, hs2_ GE112.out GE113.out⟩

/-! ### laws_szMarkS: function 121 -/
def laws_szMarkS.f (l0 : List (S140)) (a1 : Int) : Option (Int) := if (wrap64 (a1 - (l0.length : Int))) < 0 then (some (-1)) else (some (wrap64 (a1 - (l0.length : Int))))
set_option maxHeartbeats 8000000 in
set_option maxRecDepth 100000 in
theorem laws_szMarkS.calls (A0 : Option Addr) (c0 : Nat) (l0 : List (S140)) (a1 : Int) (r : Int) (w : World) (hr0 : Kd.C k140 w A0 l0.length l0) (hc0 : l0.length ≤ c0) (h : laws_szMarkS.f l0 a1 = some r) :
  Calls Try.prog 121 #[.slice A0 l0.length c0, .int .i64 a1] w fun e w' => e = .returned (.int .i64 r) ∧ Drawn0 w w' := by
 have HR0 := Aside0.mk hr0
 have HC0 := Aside0.mk hc0
 clear hr0 hc0
 have H : (if (wrap64 (a1 - (l0.length : Int))) < 0 then (some (-1)) else (some (wrap64 (a1 - (l0.length : Int))))) = some r := h
 clear h
 replace H := ite_ H
 obtain ⟨c3, H⟩ | ⟨c3, H⟩ := H
 ·have c3b0 := decide_eq_true c3
  clear c3
  obtain rfl := Option.some.inj H
  go_enter Try.func121, Try.ntmps121
  go_wp2
  go_ret
  exact ⟨by first | rfl | (simp; done) | (simp [*]; done), dr_⟩
 have c3b0 := decide_eq_false c3
 clear c3
 obtain rfl := Option.some.inj H
 go_enter Try.func121, Try.ntmps121
 go_wp2
 go_ret
 exact ⟨by first | rfl | (simp; done) | (simp [*]; done), dr_⟩

/-! ### laws_szSegment: function 97 -/
def laws_szSegment.f (a0_0 : Int) (a0_1 : ByteArray) (l0_2 : List (S140)) (a1 : Int) : Option (Int) := if (wrap64 (a1 - (a0_1.size : Int))) < 0 then (some (-1)) else ((laws_szMarkS.f l0_2 (wrap64 (a1 - (a0_1.size : Int)))).bind fun t116 => (if t116 < 0 then (some (-1)) else (some t116)))
set_option maxHeartbeats 8000000 in
set_option maxRecDepth 100000 in
theorem laws_szSegment.calls (a0_0 : Int) (a0_1 : ByteArray) (A0_2 : Option Addr) (c0_2 : Nat) (l0_2 : List (S140)) (a1 : Int) (r : Int) (w : World) (hr0_2 : Kd.C k140 w A0_2 l0_2.length l0_2) (hc0_2 : l0_2.length ≤ c0_2) (h : laws_szSegment.f a0_0 a0_1 l0_2 a1 = some r) :
  Calls Try.prog 97 #[.agg #[.int .i64 a0_0, .string a0_1, .slice A0_2 l0_2.length c0_2], .int .i64 a1] w fun e w' => e = .returned (.int .i64 r) ∧ Below w.heap.size w w' := by
 have hu117 := Try.underlying117
 have HR0_2 := Aside0.mk hr0_2
 have HC0_2 := Aside0.mk hc0_2
 clear hr0_2 hc0_2
 have HB := Aside0.mk (Below.refl w.heap.size w)
 have H : (if (wrap64 (a1 - (a0_1.size : Int))) < 0 then (some (-1)) else ((laws_szMarkS.f l0_2 (wrap64 (a1 - (a0_1.size : Int)))).bind fun t116 => (if t116 < 0 then (some (-1)) else (some t116)))) = some r := h
 clear h
 replace H := ite_ H
 obtain ⟨c3, H⟩ | ⟨c3, H⟩ := H
 ·have c3b0 := decide_eq_true c3
  clear c3
  obtain rfl := Option.some.inj H
  go_enter Try.func97, Try.ntmps97
  go_wp2_with (first | ((with_reducible refine gate_dst (N := 2) rfl ?_); refine be_ (N := 2) #[.int .i64 a0_0, .string a0_1, .slice A0_2 l0_2.length c0_2] 117 ?_; intro gb115 hg w4 hbox hb; have BK115 := Aside0.mk (hbox); have GW115 := ge_ hg; have GE115 := ge_ hg; replace HB := nb_ hb; clear hb hbox hg; obtain ⟨hcz5_0, hcz5_1, hcz5_2, hfz5_0, hfz5_1, hfz5_2⟩ := cf3_ BK115.out))
  go_ret
  exact ⟨er_, hs_ GE115.out⟩
 have c3b0 := decide_eq_false c3
 clear c3
 replace H := bnd_ H
 obtain ⟨t116, A6, H⟩ := H
 replace H := ite_ H
 obtain ⟨c7, H⟩ | ⟨c7, H⟩ := H
 ·have c7b0 := decide_eq_true c7
  clear c7
  obtain rfl := Option.some.inj H
  go_enter Try.func97, Try.ntmps97
  go_wp2_with (first | ((with_reducible refine gate_dst (N := 2) rfl ?_); refine be_ (N := 2) #[.int .i64 a0_0, .string a0_1, .slice A0_2 l0_2.length c0_2] 117 ?_; intro gb115 hg w8 hbox hb; have BK115 := Aside0.mk (hbox); have GW115 := ge_ hg; have GE115 := ge_ hg; replace HB := nb_ hb; clear hb hbox hg; obtain ⟨hcz9_0, hcz9_1, hcz9_2, hfz9_0, hfz9_1, hfz9_2⟩ := cf3_ BK115.out) | ((with_reducible refine gate_callee (f := 121) rfl ?_); refine gl_ 15 Try.func121 #[.slice A0_2 l0_2.length c0_2, .int .i64 (wrap64 (a1 - (a0_1.size : Int)))] rfl ma_ ?_; (with_reducible refine (laws_szMarkS.calls _ _ l0_2 (wrap64 (a1 - (a0_1.size : Int))) t116 _ ?side1 ?side2 A6.out).mono ?_); (case side1 => exact cs_ ((Kd.C_below HR0_2.out HB.out))); (case side2 => exact HC0_2.out); rintro e w' ⟨rfl, ⟨nd, rfl⟩⟩; refine ⟨_, rfl, ?_⟩))
  go_ret
  exact ⟨er_, hs_ GE115.out⟩
 have c7b0 := decide_eq_false c7
 clear c7
 obtain rfl := Option.some.inj H
 go_enter Try.func97, Try.ntmps97
 go_wp2_with (first | ((with_reducible refine gate_dst (N := 2) rfl ?_); refine be_ (N := 2) #[.int .i64 a0_0, .string a0_1, .slice A0_2 l0_2.length c0_2] 117 ?_; intro gb115 hg w10 hbox hb; have BK115 := Aside0.mk (hbox); have GW115 := ge_ hg; have GE115 := ge_ hg; replace HB := nb_ hb; clear hb hbox hg; obtain ⟨hcz11_0, hcz11_1, hcz11_2, hfz11_0, hfz11_1, hfz11_2⟩ := cf3_ BK115.out) | ((with_reducible refine gate_callee (f := 121) rfl ?_); refine gl_ 15 Try.func121 #[.slice A0_2 l0_2.length c0_2, .int .i64 (wrap64 (a1 - (a0_1.size : Int)))] rfl ma_ ?_; (with_reducible refine (laws_szMarkS.calls _ _ l0_2 (wrap64 (a1 - (a0_1.size : Int))) t116 _ ?side1 ?side2 A6.out).mono ?_); (case side1 => exact cs_ ((Kd.C_below HR0_2.out HB.out))); (case side2 => exact HC0_2.out); rintro e w' ⟨rfl, ⟨nd, rfl⟩⟩; refine ⟨_, rfl, ?_⟩))
 go_ret
 exact ⟨er_, hs_ GE115.out⟩

/-! ### laws_szSegmentS: function 62 -/
def laws_szSegmentS.l0 : Nat → List (S117) → Int → Int → Option (Int)
 | 0, _, _, _ => none
 | k + 1, x0, x1, x5 => if x5 < (x0.length : Int) then (if 0 ≤ x5 then ((laws_szSegment.f ((rd_T117 x0 x5).f0) ((rd_T117 x0 x5).f1) ((rd_T117 x0 x5).f2) x1).bind fun t118 => (if t118 < 0 then (some (-1)) else (laws_szSegmentS.l0 k x0 t118 (wrap64 (x5 + 1))))) else (none)) else (some x1)
def laws_szSegmentS.f (k : Nat) (l0 : List (S117)) (a1 : Int) : Option (Int) := if (wrap64 (a1 - (l0.length : Int))) < 0 then (some (-1)) else (laws_szSegmentS.l0 k l0 (wrap64 (a1 - (l0.length : Int))) 0)
theorem laws_szSegmentS.mono_l : ∀ k, (∀ y0 y1 y2, LeO (laws_szSegmentS.l0 k y0 y1 y2) (laws_szSegmentS.l0 (k + 1) y0 y1 y2))
 | 0 => fun _ _ _ r h => by simp [laws_szSegmentS.l0] at h
 | k + 1 => by
  have ih0 := laws_szSegmentS.mono_l k
  ·intro y0 y1 y2
   unfold laws_szSegmentS.l0
   repeat' first
   | (with_reducible exact ih0 _ _ _)
   | (with_reducible exact LeO.refl _)
   | (with_reducible exact LeO.none _)
   | (with_reducible refine LeO.ite ?_ ?_)
   | (with_reducible refine LeO.bind ?_ (fun _ => ?_))
   | exact ih0 _ _ _
   | exact LeO.none _
   | refine LeO.ite ?_ ?_
   | refine LeO.bind ?_ (fun _ => ?_)
theorem laws_szSegmentS.mono : ∀ a0 a1 k, LeO (laws_szSegmentS.f k a0 a1) (laws_szSegmentS.f (k + 1) a0 a1) := by
 intro a0 a1 k
 have ih0 := laws_szSegmentS.mono_l k
 unfold laws_szSegmentS.f
 repeat' first
   | (with_reducible exact ih0 _ _ _)
   | (with_reducible exact LeO.refl _)
   | (with_reducible exact LeO.none _)
   | (with_reducible refine LeO.ite ?_ ?_)
   | (with_reducible refine LeO.bind ?_ (fun _ => ?_))
   | exact ih0 _ _ _
   | exact LeO.none _
   | refine LeO.ite ?_ ?_
   | refine LeO.bind ?_ (fun _ => ?_)
set_option maxHeartbeats 8000000 in
set_option maxRecDepth 100000 in
theorem laws_szSegmentS.calls (k : Nat) (A0 : Option Addr) (c0 : Nat) (l0 : List (S117)) (a1 : Int) (r : Int) (w : World) (hr0 : Kd.C k117 w A0 l0.length l0) (hc0 : l0.length ≤ c0) (h : laws_szSegmentS.f k l0 a1 = some r) :
  Calls Try.prog 62 #[.slice A0 l0.length c0, .int .i64 a1] w fun e w' => e = .returned (.int .i64 r) ∧ Below w.heap.size w w' := by
 have hu117 := Try.underlying117
 have HR0 := Aside0.mk hr0
 have HC0 := Aside0.mk hc0
 clear hr0 hc0
 have HB := Aside0.mk (Below.refl w.heap.size w)
 have H : (if (wrap64 (a1 - (l0.length : Int))) < 0 then (some (-1)) else (laws_szSegmentS.l0 k l0 (wrap64 (a1 - (l0.length : Int))) 0)) = some r := h
 clear h
 replace H := ite_ H
 obtain ⟨c3, H⟩ | ⟨c3, H⟩ := H
 ·have c3b0 := decide_eq_true c3
  clear c3
  obtain rfl := Option.some.inj H
  go_enter Try.func62, Try.ntmps62
  go_wp2
  go_ret
  exact ⟨er_, hb_⟩
 have c3b0 := decide_eq_false c3
 clear c3
 have H' := Aside0.mk H
 clear H
 go_enter Try.func62, Try.ntmps62
 go_wp2
 go_loopg [1, 5] k (fun kq v1 v5 w' => ∃ (x1_1 : Int) (x5_1 : Int), v1 = .int .i64 x1_1 ∧ v5 = .int .i64 x5_1 ∧ Aside0 (laws_szSegmentS.l0 kq l0 x1_1 x5_1 = some r) ∧ Aside0 (kq ≤ k) ∧ Aside0 (Below w.heap.size w w'))
 case atStart => exact ⟨(wrap64 (a1 - (l0.length : Int))), (0), sr_, sr_, H', ⟨Nat.le_refl _⟩, ⟨hb_⟩⟩
 case round =>
  clear H'
  try clear p2
  try clear c3
  try clear c3b0
  obtain ⟨x1_1, x5_1, rfl, rfl, HA, HK1, HB⟩ := hrel
  cases gk with
  | zero => exact absurd HA.out (by simp [laws_szSegmentS.l0])
  | succ k1 =>
   have H := HA.out
   clear HA
   simp only [laws_szSegmentS.l0] at H
   replace H := ite_ H
   obtain ⟨c4, H⟩ | ⟨c4, H⟩ := H
   rotate_left
   ·have c4b0 := decide_eq_false c4
    clear c4
    obtain rfl := Option.some.inj H
    go_wp2
    go_ret
    exact ⟨er_, hb_⟩
   have c4b0 := decide_eq_true c4
   clear c4
   replace H := ifs_ H
   obtain ⟨c5, H⟩ := H
   have c5b0 := decide_eq_true c5
   clear c5
   replace H := bnd_ H
   obtain ⟨t118, A6, H⟩ := H
   replace H := ite_ H
   obtain ⟨c7, H⟩ | ⟨c7, H⟩ := H
   ·have c7b0 := decide_eq_true c7
    clear c7
    obtain rfl := Option.some.inj H
    have p117 : 0 ≤ (x5_1 : Int) := oa_
    have q117 : x5_1 < (l0.length : Int) := oa_
    obtain ⟨ad117, A117_2, c117_2, e117, hx117_0, hx117_1, hx117_2, hl117_2, hi117_2⟩ := at_T117 HR0.out x5_1 p117 q117
    cases e117
    replace hx117_0 := pc_ HB.out hx117_0
    replace hx117_1 := pc_ HB.out hx117_1
    replace hx117_2 := pc_ HB.out hx117_2
    have HR117_2 := Aside0.mk hi117_2
    have HC117_2 := Aside0.mk hl117_2
    clear hi117_2 hl117_2
    replace p117 := eq_true p117
    replace q117 := eq_true q117
    go_wp2_with (first | ((with_reducible refine gate_callee (f := 97) rfl ?_); refine gl_ 23 Try.func97 #[.agg #[.int .i64 ((rd_T117 l0 x5_1).f0), .string ((rd_T117 l0 x5_1).f1), .slice A117_2 ((rd_T117 l0 x5_1).f2).length c117_2], .int .i64 x1_1] rfl ma_ ?_; (with_reducible refine (laws_szSegment.calls ((rd_T117 l0 x5_1).f0) ((rd_T117 l0 x5_1).f1) _ _ ((rd_T117 l0 x5_1).f2) x1_1 t118 _ ?side1 ?side2 A6.out).mono ?_); (case side1 => exact cs_ ((Kd.C_below HR117_2.out HB.out))); (case side2 => exact HC117_2.out); rintro e w8 ⟨rfl, hb⟩; refine ⟨_, rfl, ?_⟩; replace HB := nb_ hb; (try clear hb); (try clear hb2); (try clear hk); (try clear hi)))
    go_ret
    exact ⟨er_, hb_⟩
   have c7b0 := decide_eq_false c7
   clear c7
   have H' := Aside0.mk H
   clear H
   have p117 : 0 ≤ (x5_1 : Int) := oa_
   have q117 : x5_1 < (l0.length : Int) := oa_
   obtain ⟨ad117, A117_2, c117_2, e117, hx117_0, hx117_1, hx117_2, hl117_2, hi117_2⟩ := at_T117 HR0.out x5_1 p117 q117
   cases e117
   replace hx117_0 := pc_ HB.out hx117_0
   replace hx117_1 := pc_ HB.out hx117_1
   replace hx117_2 := pc_ HB.out hx117_2
   have HR117_2 := Aside0.mk hi117_2
   have HC117_2 := Aside0.mk hl117_2
   clear hi117_2 hl117_2
   replace p117 := eq_true p117
   replace q117 := eq_true q117
   go_wp2_with (first | ((with_reducible refine gate_callee (f := 97) rfl ?_); refine gl_ 23 Try.func97 #[.agg #[.int .i64 ((rd_T117 l0 x5_1).f0), .string ((rd_T117 l0 x5_1).f1), .slice A117_2 ((rd_T117 l0 x5_1).f2).length c117_2], .int .i64 x1_1] rfl ma_ ?_; (with_reducible refine (laws_szSegment.calls ((rd_T117 l0 x5_1).f0) ((rd_T117 l0 x5_1).f1) _ _ ((rd_T117 l0 x5_1).f2) x1_1 t118 _ ?side1 ?side2 A6.out).mono ?_); (case side1 => exact cs_ ((Kd.C_below HR117_2.out HB.out))); (case side2 => exact HC117_2.out); rintro e w9 ⟨rfl, hb⟩; refine ⟨_, rfl, ?_⟩; replace HB := nb_ hb; (try clear hb); (try clear hb2); (try clear hk); (try clear hi)))
   go_roundg k1
   case measure => have := HK1.out; omega
   case rel => exact ⟨(t118), (wrap64 (x5_1 + 1)), sr_, sr_, H', ⟨by have := HK1.out; omega⟩, ⟨hb_⟩⟩

/-! ### laws_szStore: function 19 -/
def laws_szStore.f (k : Nat) (l0_0 : List (S117)) (a0_1 : Int) (a1 : Int) : Option (Int) := (laws_szSegmentS.f k l0_0 a1).bind fun t120 => (if t120 < 0 then (some (-1)) else (some t120))
theorem laws_szStore.mono : ∀ a0 a1 a2 k, LeO (laws_szStore.f k a0 a1 a2) (laws_szStore.f (k + 1) a0 a1 a2) := by
 intro a0 a1 a2 k
 unfold laws_szStore.f
 repeat' first
   | (with_reducible exact laws_szSegmentS.mono _ _ _)
   | (with_reducible exact LeO.refl _)
   | (with_reducible exact LeO.none _)
   | (with_reducible refine LeO.ite ?_ ?_)
   | (with_reducible refine LeO.bind ?_ (fun _ => ?_))
   | exact laws_szSegmentS.mono _ _ _
   | exact LeO.none _
   | refine LeO.ite ?_ ?_
   | refine LeO.bind ?_ (fun _ => ?_)
set_option maxHeartbeats 8000000 in
set_option maxRecDepth 100000 in
theorem laws_szStore.calls (k : Nat) (A0_0 : Option Addr) (c0_0 : Nat) (l0_0 : List (S117)) (a0_1 : Int) (a1 : Int) (r : Int) (w : World) (hr0_0 : Kd.C k117 w A0_0 l0_0.length l0_0) (hc0_0 : l0_0.length ≤ c0_0) (h : laws_szStore.f k l0_0 a0_1 a1 = some r) :
  Calls Try.prog 19 #[.agg #[.slice A0_0 l0_0.length c0_0, .int .i64 a0_1], .int .i64 a1] w fun e w' => e = .returned (.int .i64 r) ∧ Below w.heap.size w w' := by
 have hu32 := Try.underlying32
 have HR0_0 := Aside0.mk hr0_0
 have HC0_0 := Aside0.mk hc0_0
 clear hr0_0 hc0_0
 have HB := Aside0.mk (Below.refl w.heap.size w)
 have H : ((laws_szSegmentS.f k l0_0 a1).bind fun t120 => (if t120 < 0 then (some (-1)) else (some t120))) = some r := h
 clear h
 replace H := bnd_ H
 obtain ⟨t120, A3, H⟩ := H
 replace H := ite_ H
 obtain ⟨c4, H⟩ | ⟨c4, H⟩ := H
 ·have c4b0 := decide_eq_true c4
  clear c4
  obtain rfl := Option.some.inj H
  go_enter Try.func19, Try.ntmps19
  go_wp2_with (first | ((with_reducible refine gate_dst (N := 2) rfl ?_); refine be_ (N := 2) #[.slice A0_0 l0_0.length c0_0, .int .i64 a0_1] 32 ?_; intro gb119 hg w5 hbox hb; have BK119 := Aside0.mk (hbox); have GW119 := ge_ hg; have GE119 := ge_ hg; replace HB := nb_ hb; clear hb hbox hg; obtain ⟨hcz6_0, hcz6_1, hfz6_0, hfz6_1⟩ := cf2_ BK119.out) | ((with_reducible refine gate_callee (f := 62) rfl ?_); refine gl_ 8 Try.func62 #[.slice A0_0 l0_0.length c0_0, .int .i64 a1] rfl ma_ ?_; (with_reducible refine (laws_szSegmentS.calls k _ _ l0_0 a1 t120 _ ?side1 ?side2 A3.out).mono ?_); (case side1 => exact cs_ ((Kd.C_below HR0_0.out HB.out))); (case side2 => exact HC0_0.out); rintro e w7 ⟨rfl, hb⟩; refine ⟨_, rfl, ?_⟩; replace BK119 := bK_ BK119 hb; replace HB := nc_ GE119 hb; (try clear hb); (try clear hb2); (try clear hk); (try clear hi)))
  go_ret
  exact ⟨er_, hs_ GE119.out⟩
 have c4b0 := decide_eq_false c4
 clear c4
 obtain rfl := Option.some.inj H
 go_enter Try.func19, Try.ntmps19
 go_wp2_with (first | ((with_reducible refine gate_dst (N := 2) rfl ?_); refine be_ (N := 2) #[.slice A0_0 l0_0.length c0_0, .int .i64 a0_1] 32 ?_; intro gb119 hg w8 hbox hb; have BK119 := Aside0.mk (hbox); have GW119 := ge_ hg; have GE119 := ge_ hg; replace HB := nb_ hb; clear hb hbox hg; obtain ⟨hcz9_0, hcz9_1, hfz9_0, hfz9_1⟩ := cf2_ BK119.out) | ((with_reducible refine gate_callee (f := 62) rfl ?_); refine gl_ 8 Try.func62 #[.slice A0_0 l0_0.length c0_0, .int .i64 a1] rfl ma_ ?_; (with_reducible refine (laws_szSegmentS.calls k _ _ l0_0 a1 t120 _ ?side1 ?side2 A3.out).mono ?_); (case side1 => exact cs_ ((Kd.C_below HR0_0.out HB.out))); (case side2 => exact HC0_0.out); rintro e w10 ⟨rfl, hb⟩; refine ⟨_, rfl, ?_⟩; replace BK119 := bK_ BK119 hb; replace HB := nc_ GE119 hb; (try clear hb); (try clear hb2); (try clear hk); (try clear hi)))
 go_ret
 exact ⟨er_, hs_ GE119.out⟩

/-! ### laws_toMark: function 129 -/
def laws_toMark.f (a0_0 : Int) (a0_1 : Int) : Option (Int × Int) := some (a0_0, a0_1)
set_option maxHeartbeats 8000000 in
set_option maxRecDepth 100000 in
theorem laws_toMark.calls (a0_0 : Int) (a0_1 : Int) (r1 : Int) (r2 : Int) (w : World) (h : laws_toMark.f a0_0 a0_1 = some (r1, r2)) :
  Calls Try.prog 129 #[.agg #[.int .i64 a0_0, .int .i64 a0_1]] w fun e w' => e = .returned (.agg #[.int .i64 r1, .int .i64 r2]) ∧ Below w.heap.size w w' := by
 have hu140 := Try.underlying140
 have hu89 := Try.underlying89
 have HB := Aside0.mk (Below.refl w.heap.size w)
 have H : (some (a0_0, a0_1)) = some (r1, r2) := h
 clear h
 simp only [Option.some.injEq, Prod.mk.injEq] at H
 obtain ⟨rfl, rfl⟩ := H
 go_enter Try.func129, Try.ntmps129
 go_wp2_with (first | ((with_reducible refine gate_dst (N := 1) rfl ?_); refine be_ (N := 1) #[.int .i64 a0_0, .int .i64 a0_1] 140 ?_; intro gb121 hg w2 hbox hb; have BK121 := Aside0.mk (hbox); have GW121 := ge_ hg; have GE121 := ge_ hg; replace HB := nb_ hb; clear hb hbox hg) | ((with_reducible refine gate_dst (N := 2) rfl ?_); refine be_ (N := 2) #[.int .i64 0, .int .i64 0] 89 ?_; intro gb122 hg w3 hbox hb; have BK122 := Aside0.mk (hbox); have GW122 := ge1_ hg GE121; have GE122 := ge1_ hg GE121; replace HB := nc_ GE121 hb; have NB121_122 := nl_ BK121 hg; have NB122_121 := ng_ BK121 hg; replace BK121 := bK_ BK121 hb; clear hb hbox hg) | ((with_reducible refine gate_dst (N := 3) rfl ?_); refine be_ (N := 3) #[.int .i64 0, .int .i64 0] 89 ?_; intro gb123 hg w4 hbox hb; have BK123 := Aside0.mk (hbox); have GW123 := ge2_ hg GE121 GE122; have GE123 := ge2_ hg GE121 GE122; replace HB := nc2_ GE121 GE122 hb; have NB121_123 := nl_ BK121 hg; have NB123_121 := ng_ BK121 hg; replace BK121 := bK_ BK121 hb; have NB122_123 := nl_ BK122 hg; have NB123_122 := ng_ BK122 hg; replace BK122 := bK_ BK122 hb; clear hb hbox hg; have hnb5 := NB121_122.out; have hnc5 := NB122_121.out; have hnb6 := NB121_123.out; have hnc6 := NB123_121.out; obtain ⟨hcz7_0, hcz7_1, hfz7_0, hfz7_1⟩ := cf2_ BK121.out; have hnb8 := NB123_122.out; have hnc8 := NB122_123.out; obtain ⟨hcz9_0, hcz9_1, hfz9_0, hfz9_1⟩ := cf2_ BK123.out; obtain ⟨hcz10_0, hcz10_1, hfz10_0, hfz10_1⟩ := cf2_ BK122.out))
 refine bodyPost_ret (results_cell_row rfl _ _ gb122 89 #[.int .i64 a0_0, .int .i64 a0_1] (0, 0) _ rfl (by (with_reducible repeat (first | refine blk_drewN ?_ _ | refine blk_drew ?_ | refine blk_alloc ?_ _)); refine blk_put (cs := #[.int .i64 a0_0, .int .i64 0]) ?_ 1 _ rfl; (with_reducible repeat (first | refine blk_drewN ?_ _ | refine blk_drew ?_ | refine blk_alloc ?_ _)); refine blk_put (cs := #[.int .i64 0, .int .i64 0]) ?_ 0 _ rfl; (with_reducible repeat (first | refine blk_drewN ?_ _ | refine blk_drew ?_ | refine blk_alloc ?_ _)); refine blk_far ?_ NB122_123.out _; (with_reducible repeat (first | refine blk_drewN ?_ _ | refine blk_drew ?_ | refine blk_alloc ?_ _)); refine blk_far ?_ NB122_123.out _; (with_reducible repeat (first | refine blk_drewN ?_ _ | refine blk_drew ?_ | refine blk_alloc ?_ _)); exact BK122.out) Try.underlying89 rfl (by kernel_rfl)) rfl ?_
 exact ⟨er_, hs3_ GE121.out GE122.out GE123.out⟩

/-! ### laws_toMarkS: function 123 -/
def laws_toMarkS.l0 : Nat → List (S140) → List (S89) → Int → Option ((List (S89)))
 | 0, _, _, _ => none
 | k + 1, x0, x3, x4 => if x4 < (x0.length : Int) then (if 0 ≤ x4 then ((laws_toMark.f ((rd_T140 x0 x4).f0) ((rd_T140 x0 x4).f1)).bind fun bt128 => (if x4 < (x3.length : Int) then (laws_toMarkS.l0 k x0 (x3.set (x4 : Int).toNat (⟨bt128.1, bt128.2⟩ : S89)) (wrap64 (x4 + 1))) else (none))) else (none)) else (some x3)
def laws_toMarkS.f (k : Nat) (l0 : List (S140)) : Option ((List (S89))) := if 0 ≤ (l0.length : Int) then (if ((l0.length : Int) : Int).toNat ≤ 17592186044416 then (laws_toMarkS.l0 k l0 (List.replicate ((l0.length : Int) : Int).toNat z89) 0) else (none)) else (none)
theorem laws_toMarkS.mono_l : ∀ k, (∀ y0 y1 y2, LeO (laws_toMarkS.l0 k y0 y1 y2) (laws_toMarkS.l0 (k + 1) y0 y1 y2))
 | 0 => fun _ _ _ r h => by simp [laws_toMarkS.l0] at h
 | k + 1 => by
  have ih0 := laws_toMarkS.mono_l k
  ·intro y0 y1 y2
   unfold laws_toMarkS.l0
   repeat' first
   | (with_reducible exact ih0 _ _ _)
   | (with_reducible exact LeO.refl _)
   | (with_reducible exact LeO.none _)
   | (with_reducible refine LeO.ite ?_ ?_)
   | (with_reducible refine LeO.bind ?_ (fun _ => ?_))
   | exact ih0 _ _ _
   | exact LeO.none _
   | refine LeO.ite ?_ ?_
   | refine LeO.bind ?_ (fun _ => ?_)
theorem laws_toMarkS.mono : ∀ a0 k, LeO (laws_toMarkS.f k a0) (laws_toMarkS.f (k + 1) a0) := by
 intro a0 k
 have ih0 := laws_toMarkS.mono_l k
 unfold laws_toMarkS.f
 repeat' first
   | (with_reducible exact ih0 _ _ _)
   | (with_reducible exact LeO.refl _)
   | (with_reducible exact LeO.none _)
   | (with_reducible refine LeO.ite ?_ ?_)
   | (with_reducible refine LeO.bind ?_ (fun _ => ?_))
   | exact ih0 _ _ _
   | exact LeO.none _
   | refine LeO.ite ?_ ?_
   | refine LeO.bind ?_ (fun _ => ?_)
set_option maxHeartbeats 8000000 in
set_option maxRecDepth 100000 in
theorem laws_toMarkS.calls (k : Nat) (A0 : Option Addr) (c0 : Nat) (l0 : List (S140)) (r : List (S89)) (w : World) (hr0 : Kd.C k140 w A0 l0.length l0) (hc0 : l0.length ≤ c0) (h : laws_toMarkS.f k l0 = some r) :
  Calls Try.prog 123 #[.slice A0 l0.length c0] w fun e w' => ∃ v0_ : Value, e = .returned (v0_) ∧ Kd.R k89 89 w' w.heap.size (fun _ => True) v0_ r ∧ Below w.heap.size w w' := by
 have hu140 := Try.underlying140
 have hu89 := Try.underlying89
 have HR0 := Aside0.mk hr0
 have HC0 := Aside0.mk hc0
 clear hr0 hc0
 have HB := Aside0.mk (Below.refl w.heap.size w)
 have H : (if 0 ≤ (l0.length : Int) then (if ((l0.length : Int) : Int).toNat ≤ 17592186044416 then (laws_toMarkS.l0 k l0 (List.replicate ((l0.length : Int) : Int).toNat z89) 0) else (none)) else (none)) = some r := h
 clear h
 replace H := ifs_ H
 obtain ⟨c2, H⟩ := H
 have c2b0 := eq_true c2
 have c2b1 := decide_eq_true c2
 clear c2
 replace H := ifs_ H
 obtain ⟨c3, H⟩ := H
 have c3b0 := eq_true c3
 have c3b1 := decide_eq_true c3
 clear c3
 obtain ⟨y124, hy124⟩ : ∃ y_ : List (S89), y_ = (List.replicate ((l0.length : Int) : Int).toNat z89) := ⟨_, rfl⟩
 replace H : (laws_toMarkS.l0 k l0 y124 0) = some r := by first | (rw [hy124]; with_reducible exact H) | (have H2_ := (Option.bind_some _ _).symm.trans H; rw [hy124]; with_reducible exact H2_) | (have H2_ := (Option.bind_some _ _).symm.trans H; with_reducible exact H2_) | with_reducible exact H | (rw [hy124]; exact H) | exact H
 have Ny124 := Aside0.mk hy124
 clear hy124
 have H' := Aside0.mk H
 clear H
 go_enter Try.func123, Try.ntmps123
 go_wp2_with (first | ((with_reducible refine gate_dst (N := 7) rfl ?_); refine Kd.R_make k89 _ 89 rfl (N := 7) rfl 63 _ _ rfl (l0.length : Int) rfl rfl Try.underlying63 (.agg #[(.int .i64 0), (.int .i64 0)]) 16 info89 rfl (by decide) (by omega) z89 (ok := fun _ => True) (okp := fun _ => True) (k89_mkM _ _ _ z89 ) (fun _ hk => hk) trivial (oa_) (Nat.le_trans (Nat.mul_le_mul_right _ (oa_ : (l0.length : Int).toNat ≤ 17592186044416)) (by omega)) (Below.refl _ _) (Nat.le_refl _) ?_; intro v125 w4 ho5 hb hg_ hnew_; clear hg_ hnew_; (first | rw [← Ny124.out] at ho5 | (simp only [Int.reduceToNat] at ho5; rw [← Ny124.out] at ho5)); have HO126 := Aside0.mk (Kd.R_lower ho5 (below_size (hb_))); replace HB := nb_ hb; clear hb ho5))
 go_loopg [4] k (fun kq v4 w' => ∃ (x3_1 : List (S89)) (x4_1 : Int), v4 = .int .i64 x4_1 ∧ Aside0 (laws_toMarkS.l0 kq l0 x3_1 x4_1 = some r) ∧ Aside0 (kq ≤ k) ∧ Aside0 (Kd.R k89 89 w' w.heap.size (fun _ => True) v125 x3_1) ∧ Aside0 (Below w.heap.size w w'))
 case atStart => exact ⟨(y124), (0), sr_, H', ⟨Nat.le_refl _⟩, ⟨kr_ HO126.out⟩, ⟨hb_⟩⟩
 case round =>
  clear H'
  try clear c1
  try clear c2
  try clear c2b0
  try clear c2b1
  try clear p2
  try clear c3
  try clear c3b0
  try clear c3b1
  obtain ⟨x3_1, x4_1, rfl, HA, HK1, HO_3, HB⟩ := hrel
  cases gk with
  | zero => exact absurd HA.out (by simp [laws_toMarkS.l0])
  | succ k1 =>
   have H := HA.out
   clear HA
   simp only [laws_toMarkS.l0] at H
   replace H := ite_ H
   obtain ⟨c6, H⟩ | ⟨c6, H⟩ := H
   rotate_left
   ·have c6b0 := decide_eq_false c6
    clear c6
    obtain rfl := Option.some.inj H
    go_wp2
    go_ret
    exact ⟨_, er_, kr_ HO_3.out, hb_⟩
   have c6b0 := decide_eq_true c6
   clear c6
   replace H := ifs_ H
   obtain ⟨c7, H⟩ := H
   have c7b0 := decide_eq_true c7
   clear c7
   replace H := bnd_ H
   obtain ⟨⟨t128, t129⟩, A8, H⟩ := H
   replace H := red_ H
   replace H := ifs_ H
   obtain ⟨c9, H⟩ := H
   have c9b0 := decide_eq_true c9
   clear c9
   obtain ⟨y130, hy130⟩ : ∃ y_ : List (S89), y_ = (x3_1.set (x4_1 : Int).toNat (⟨t128, t129⟩ : S89)) := ⟨_, rfl⟩
   replace H : (laws_toMarkS.l0 k1 l0 y130 (wrap64 (x4_1 + 1))) = some r := by first | (rw [hy130]; with_reducible exact H) | (have H2_ := (Option.bind_some _ _).symm.trans H; rw [hy130]; with_reducible exact H2_) | (have H2_ := (Option.bind_some _ _).symm.trans H; with_reducible exact H2_) | with_reducible exact H | (rw [hy130]; exact H) | exact H
   have Ny130 := Aside0.mk hy130
   clear hy130
   have H' := Aside0.mk H
   clear H
   have p127 : 0 ≤ (x4_1 : Int) := oa_
   have q127 : x4_1 < (l0.length : Int) := oa_
   obtain ⟨ad127, e127, hx127_0, hx127_1⟩ := at_T140 HR0.out x4_1 p127 q127
   cases e127
   replace hx127_0 := pc_ HB.out hx127_0
   replace hx127_1 := pc_ HB.out hx127_1
   replace p127 := eq_true p127
   replace q127 := eq_true q127
   go_wp2_with (first | ((with_reducible refine gate_callee (f := 129) rfl ?_); refine gl_ 20 Try.func129 #[.agg #[.int .i64 ((rd_T140 l0 x4_1).f0), .int .i64 ((rd_T140 l0 x4_1).f1)]] rfl ma_ ?_; (with_reducible refine (laws_toMark.calls ((rd_T140 l0 x4_1).f0) ((rd_T140 l0 x4_1).f1) t128 t129 _ A8.out).mono ?_); rintro e w11 ⟨rfl, hb⟩; refine ⟨_, rfl, ?_⟩; replace HO_3 := rB_ HO_3 hb; replace HB := nb_ hb; (try clear hb); (try clear hb2); (try clear hk); (try clear hi); have p10 : 0 ≤ (x4_1 : Int) := oa_; have q10 : (x4_1 : Int) < ((x3_1.length : Int) : Int) := oa_; obtain ⟨go10, co10, eo10, gb10, gl10, cl10, HG10⟩ := Kd.R_form HO_3.out (by omega); (first | cases eo10 | (injection eo10 with ea_ en_ ec_; (first | subst ea_ | (injection ea_ with ea_; subst ea_)); subst ec_; clear en_)); have GB10 := Aside0.mk gb10; have GG10 := Aside0.mk HG10; clear gb10 gl10 HG10; obtain ⟨ce10, hcl10, hM10, hcc10, hfr10⟩ := Kd.R_elem HO_3.out z89 (x4_1 : Int) p10 q10; obtain rfl := k89_openM hM10; have hx10_0 : w11.cell? ⟨go10, (x4_1 : Int).toNat * 2, none⟩ = some (.int .i64 ((rd_T89 x3_1 x4_1).f0)) := hcc10 0 _ rfl; have hx10_1 : w11.cell? ⟨go10, (x4_1 : Int).toNat * 2 + 1, none⟩ = some (.int .i64 ((rd_T89 x3_1 x4_1).f1)) := hcc10 1 _ rfl; have hf10_0 : w11.frozen? ⟨go10, (x4_1 : Int).toNat * 2, none⟩ = false := hfr10 0; have hf10_1 : w11.frozen? ⟨go10, (x4_1 : Int).toNat * 2 + 1, none⟩ = false := hfr10 1; clear hcl10 hcc10 hfr10; (try clear hM10); replace p10 := eq_true p10; replace q10 := eq_true q10; have HX12 := Aside0.mk (show Kd.R k89 89 w11 w.heap.size (fun _ => True) (.slice (some ⟨go10, 0, none⟩) x3_1.length co10) x3_1 from (kr_ HO_3.out)); obtain ⟨ce12, hcl12, hM12, hcc12, hfr12⟩ := Kd.R_elem HX12.out z89 (x4_1 : Int) (oa_) (by have h_ : (x4_1 : Int) < ((x3_1.length : Int) : Int) := oa_; first | exact h_ | (have e_ := (Kd.R_reads' HO_3.out).1; omega) | simpa using h_); obtain rfl := k89_openM hM12; have HP12 := Kd.R_seg HX12.out (x4_1 : Int) (oa_) (by have h_ : (x4_1 : Int) < ((x3_1.length : Int) : Int) := oa_; first | exact h_ | (have e_ := (Kd.R_reads' HO_3.out).1; omega) | simpa using h_) (seg := [.int .i64 t128, .int .i64 t129]) (j := 0) hcl12 hcc12 (show 2 ≤ 2 from by decide) (x' := (⟨t128, t129⟩ : S89)) (k89_mkM _ _ _ (⟨t128, t129⟩ : S89) ) (fun _ hk => hk); have hx12_0 := hcc12 0 _ rfl; (try simp only [show (k89).sz = 2 from rfl, Nat.mul_one, Nat.add_zero] at hx12_0); have hf12_0 := hfr12 0; (try simp only [show (k89).sz = 2 from rfl, Nat.mul_one, Nat.add_zero] at hf12_0); have hx12_1 := hcc12 1 _ rfl; (try simp only [show (k89).sz = 2 from rfl, Nat.mul_one, Nat.add_zero] at hx12_1); have hf12_1 := hfr12 1; (try simp only [show (k89).sz = 2 from rfl, Nat.mul_one, Nat.add_zero] at hf12_1); clear hcl12 hcc12 hfr12; (try clear hM12)) | ((with_reducible refine gate_store (t := 89) (p := 21) rfl ?_); refine store_event (t := 89) (p := 21) (v := ?vo_w13) (w1 := ((w11.setCell ⟨go10, (x4_1 : Int).toNat * 2, none⟩ (.int .i64 t128)).setCell ⟨go10, (x4_1 : Int).toNat * 2 + 1, none⟩ (.int .i64 t129))) ?hg ?ho ?hn ?hr ?_; (case ho => rfl); (case hg => rfl); (case hn => rfl); (case hr => first | (go_simp; done) | (go_simp; rfl)); intro w13 hw; have hg : w11.grownBy w13 (some go10) := (by rw [hw]; exact HP12.2); have hp_ : Kd.R k89 89 w13 w.heap.size (fun _ => True) (.slice (some ⟨go10, 0, none⟩) x3_1.length co10) y130 := (by rw [hw, Ny130.out]; exact HP12.1); clear HP12; replace HO_3 := Aside0.mk (hp_); replace HB := Aside0.mk ((by rw [hw]; exact below_set (below_set (HB.out) GB10.out) GB10.out : Below w.heap.size w w13)); clear hg hw hp_))
   go_roundg k1
   case measure => have := HK1.out; omega
   case rel => exact ⟨(y130), (wrap64 (x4_1 + 1)), sr_, H', ⟨by have := HK1.out; omega⟩, ⟨kr_ HO_3.out⟩, ⟨hb_⟩⟩

end Go.Proofs.Ytffpeklekkpbjaa.QFnExactSeekIn
