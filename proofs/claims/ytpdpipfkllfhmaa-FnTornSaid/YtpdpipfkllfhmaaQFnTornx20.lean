/- Functions that one statement reaches: of each a plain function, and the proof that calls come to it. Conditions: those that each contract names. Written by a program of this repository. -/
import Derived.Test.YtpdpipfkllfhmaaVFnTorna
import Derived.Test.YtpdpipfkllfhmaaQFnTornx2
import Derived.Test.YtpdpipfkllfhmaaQFnTornx13
import Derived.Test.YtpdpipfkllfhmaaQFnTornx15
namespace Go.Proofs.Ytpdpipfkllfhmaa.QFnTorn
open Go.RowKit Go.Proofs.YtpdpipfkllfhmaaW.PrintWords Go.Proofs.YtpdpipfkllfhmaaW.PrintLast Go.Proofs.YtpdpipfkllfhmaaW.PrintMore
attribute [local go_sem] max2_int min2_int max_two min_two max_three min_three max_four min_four Go.Proofs.YtpdpipfkllfhmaaW.PrintMore2.isSome_setCell   -- for this text's walks alone
set_option linter.unusedVariables false
set_option linter.unusedSimpArgs false

/-! ### laws_sameTexts: function 73 -/
def laws_sameTexts.l0 : Nat → List ByteArray → List ByteArray → Int → Int → Option (Bool)
 | 0, _, _, _, _ => none
 | k + 1, x0, x1, x12, x13 => if x13 < x12 then (if 0 ≤ x13 then (if x13 < (x0.length : Int) then (if x13 < (x1.length : Int) then (if (rdOf ByteArray.empty x0 x13).toList = (rdOf ByteArray.empty x1 x13).toList then (laws_sameTexts.l0 k x0 x1 x12 (wrap64 (x13 + 1))) else (some false)) else (none)) else (none)) else (none)) else (some true)
def laws_sameTexts.f (k : Nat) (l0 : List ByteArray) (l1 : List ByteArray) : Option (Bool) := if (l0.length : Int) = (l1.length : Int) then (laws_sameTexts.l0 k l0 l1 (l0.length : Int) 0) else (some false)
theorem laws_sameTexts.mono_l : ∀ k, (∀ y0 y1 y2 y3, LeO (laws_sameTexts.l0 k y0 y1 y2 y3) (laws_sameTexts.l0 (k + 1) y0 y1 y2 y3))
 | 0 => fun _ _ _ _ r h => by simp [laws_sameTexts.l0] at h
 | k + 1 => by
  have ih0 := laws_sameTexts.mono_l k
  ·intro y0 y1 y2 y3
   unfold laws_sameTexts.l0
   repeat' first
   | (with_reducible first | apply ih0 | exact LeO.refl _ | exact LeO.none _ | refine LeO.ite ?_ ?_ | refine LeO.bind ?_ (fun _ => ?_))
theorem laws_sameTexts.mono : ∀ a0 a1 k, LeO (laws_sameTexts.f k a0 a1) (laws_sameTexts.f (k + 1) a0 a1) := by
 intro a0 a1 k
 have ih0 := laws_sameTexts.mono_l k
 unfold laws_sameTexts.f
 repeat' first
   | (with_reducible first | apply ih0 | exact LeO.refl _ | exact LeO.none _ | refine LeO.ite ?_ ?_ | refine LeO.bind ?_ (fun _ => ?_))
set_option maxHeartbeats 8000000 in
set_option maxRecDepth 100000 in
theorem laws_sameTexts.calls (k : Nat) (A0 : Option Addr) (c0 : Nat) (l0 : List ByteArray) (A1 : Option Addr) (c1 : Nat) (l1 : List ByteArray) (r : Bool) (w : World) (hr0 : Kd.C Kd.string w A0 l0.length l0) (hc0 : l0.length ≤ c0) (hr1 : Kd.C Kd.string w A1 l1.length l1) (hc1 : l1.length ≤ c1) (h : laws_sameTexts.f k l0 l1 = some r) :
  Calls Try.prog 73 #[.slice A0 l0.length c0, .slice A1 l1.length c1] w fun e w' => e = .returned (.bool r) ∧ Drawn0 w w' := by
 have HR0 := Aside0.mk hr0
 have HC0 := Aside0.mk hc0
 clear hr0 hc0
 have HR1 := Aside0.mk hr1
 have HC1 := Aside0.mk hc1
 clear hr1 hc1
 have H : (if (l0.length : Int) = (l1.length : Int) then (laws_sameTexts.l0 k l0 l1 (l0.length : Int) 0) else (some false)) = some r := h
 clear h
 replace H := ite_ H
 obtain ⟨c3, H⟩ | ⟨c3, H⟩ := H
 rotate_left
 ·have c3b0 : ((l0.length : Int) == (l1.length : Int)) = false := beq_eq_false_iff_ne.mpr c3
  have c3b1 : ((l0.length : Int) != (l1.length : Int)) = true := bne_iff_ne.mpr c3
  have c3b2 : (l0.length == l1.length) = false := by first | simpa using c3 | (simp at c3 ⊢; omega)
  obtain rfl := Option.some.inj H
  go_enter Try.func73, Try.ntmps73
  go_wp2
  repeat (go_quiet (fail); try go_wp2)
  go_ret
  exact ⟨by first | rfl | (simp; done) | (simp [*]; done), dr_⟩
 have c3b0 : ((l0.length : Int) == (l1.length : Int)) = true := beq_iff_eq.mpr c3
 have c3b1 : ((l0.length : Int) != (l1.length : Int)) = false := bne_eq_false_iff_eq.mpr c3
 have c3b2 : (l0.length == l1.length) = true := by first | simpa using c3 | (simp at c3 ⊢; omega)
 clear c3
 have H' := Aside0.mk H
 clear H
 go_enter Try.func73, Try.ntmps73
 go_wp2
 repeat (go_quiet (fail); try go_wp2)
 go_loopg [13] k (fun kq v13 w' => ∃ (x13_1 : Int), v13 = .int .i64 x13_1 ∧ Aside0 (laws_sameTexts.l0 kq l0 l1 (l0.length : Int) x13_1 = some r) ∧ Aside0 (kq ≤ k) ∧ Drawn0 w w')
 case atStart => exact ⟨(0), sr_, H', ⟨Nat.le_refl _⟩, dr_⟩
 case round =>
  clear H'
  try clear c1
  try clear c3
  try clear c3b0
  try clear c3b1
  try clear c3b2
  obtain ⟨x13_1, rfl, HA, HK1, ⟨m1, rfl⟩⟩ := hrel
  cases gk with
  | zero => exact absurd HA.out (by simp [laws_sameTexts.l0])
  | succ k1 =>
   have H := HA.out
   clear HA
   simp only [laws_sameTexts.l0] at H
   replace H := ite_ H
   obtain ⟨c4, H⟩ | ⟨c4, H⟩ := H
   rotate_left
   ·have c4b0 := decide_eq_false c4
    clear c4
    obtain rfl := Option.some.inj H
    go_wp2
    repeat (go_quiet (fail); try go_wp2)
    go_ret
    exact ⟨by first | rfl | (simp; done) | (simp [*]; done), dr_⟩
   have c4b0 := decide_eq_true c4
   clear c4
   replace H := ifs_ H
   obtain ⟨c5, H⟩ := H
   have c5b0 := decide_eq_true c5
   clear c5
   replace H := ifs_ H
   obtain ⟨c6, H⟩ := H
   have c6b0 := decide_eq_true c6
   clear c6
   replace H := ifs_ H
   obtain ⟨c7, H⟩ := H
   have c7b0 := decide_eq_true c7
   clear c7
   replace H := ite_ H
   obtain ⟨c8, H⟩ | ⟨c8, H⟩ := H
   rotate_left
   ·have c8b0 : ((rdOf ByteArray.empty l0 x13_1).toList == (rdOf ByteArray.empty l1 x13_1).toList) = false := beq_eq_false_iff_ne.mpr c8
    have c8b1 : ((rdOf ByteArray.empty l0 x13_1).toList != (rdOf ByteArray.empty l1 x13_1).toList) = true := bne_iff_ne.mpr c8
    obtain rfl := Option.some.inj H
    have p490 : 0 ≤ (x13_1 : Int) := oa_
    have q490 : x13_1 < (l0.length : Int) := oa_
    obtain ⟨ad490, e490, hx490_0⟩ := Kd.at_string HR0.out x13_1 p490 q490
    cases e490
    replace p490 := eq_true p490
    replace q490 := eq_true q490
    have p491 : 0 ≤ (x13_1 : Int) := oa_
    have q491 : x13_1 < (l1.length : Int) := oa_
    obtain ⟨ad491, e491, hx491_0⟩ := Kd.at_string HR1.out x13_1 p491 q491
    cases e491
    replace p491 := eq_true p491
    replace q491 := eq_true q491
    go_wp2
    repeat (go_quiet (fail); try go_wp2)
    go_ret
    exact ⟨by first | rfl | (simp; done) | (simp [*]; done), dr_⟩
   have c8b0 : ((rdOf ByteArray.empty l0 x13_1).toList == (rdOf ByteArray.empty l1 x13_1).toList) = true := beq_iff_eq.mpr c8
   have c8b1 : ((rdOf ByteArray.empty l0 x13_1).toList != (rdOf ByteArray.empty l1 x13_1).toList) = false := bne_eq_false_iff_eq.mpr c8
   clear c8
   have H' := Aside0.mk H
   clear H
   have p490 : 0 ≤ (x13_1 : Int) := oa_
   have q490 : x13_1 < (l0.length : Int) := oa_
   obtain ⟨ad490, e490, hx490_0⟩ := Kd.at_string HR0.out x13_1 p490 q490
   cases e490
   replace p490 := eq_true p490
   replace q490 := eq_true q490
   have p491 : 0 ≤ (x13_1 : Int) := oa_
   have q491 : x13_1 < (l1.length : Int) := oa_
   obtain ⟨ad491, e491, hx491_0⟩ := Kd.at_string HR1.out x13_1 p491 q491
   cases e491
   replace p491 := eq_true p491
   replace q491 := eq_true q491
   go_wp2
   repeat (go_quiet (fail); try go_wp2)
   go_roundg k1
   case measure => have := HK1.out; omega
   case rel => exact ⟨(wrap64 (x13_1 + 1)), sr_, H', ⟨by have := HK1.out; omega⟩, dr_⟩

/-! ### laws_sameBatch: function 29 -/
def laws_sameBatch.f (k : Nat) (a0_0 : Int) (a0_1 : Int) (a0_2 : Int) (a0_3 : Int) (l0_4 : List ByteArray) (a1_0 : Int) (a1_1 : Int) (a1_2 : Int) (a1_3 : Int) (l1_4 : List ByteArray) : Option (Bool) := if a0_0 = a1_0 then (if a0_1 = a1_1 then (if a0_2 = a1_2 then (if a0_3 = a1_3 then ((laws_sameTexts.f k l0_4 l1_4).bind fun t494 => (some t494)) else (some false)) else (some false)) else (some false)) else (some false)
theorem laws_sameBatch.mono : ∀ a0 a1 a2 a3 a4 a5 a6 a7 a8 a9 k, LeO (laws_sameBatch.f k a0 a1 a2 a3 a4 a5 a6 a7 a8 a9) (laws_sameBatch.f (k + 1) a0 a1 a2 a3 a4 a5 a6 a7 a8 a9) := by
 intro a0 a1 a2 a3 a4 a5 a6 a7 a8 a9 k
 unfold laws_sameBatch.f
 repeat' first
   | (with_reducible first | apply laws_sameTexts.mono | exact LeO.refl _ | exact LeO.none _ | refine LeO.ite ?_ ?_ | refine LeO.bind ?_ (fun _ => ?_))
set_option maxHeartbeats 8000000 in
set_option maxRecDepth 100000 in
theorem laws_sameBatch.calls (k : Nat) (a0_0 : Int) (a0_1 : Int) (a0_2 : Int) (a0_3 : Int) (A0_4 : Option Addr) (c0_4 : Nat) (l0_4 : List ByteArray) (a1_0 : Int) (a1_1 : Int) (a1_2 : Int) (a1_3 : Int) (A1_4 : Option Addr) (c1_4 : Nat) (l1_4 : List ByteArray) (r : Bool) (w : World) (hr0_4 : Kd.C Kd.string w A0_4 l0_4.length l0_4) (hc0_4 : l0_4.length ≤ c0_4) (hr1_4 : Kd.C Kd.string w A1_4 l1_4.length l1_4) (hc1_4 : l1_4.length ≤ c1_4) (h : laws_sameBatch.f k a0_0 a0_1 a0_2 a0_3 l0_4 a1_0 a1_1 a1_2 a1_3 l1_4 = some r) :
  Calls Try.prog 29 #[.agg #[.int .i64 a0_0, .int .i64 a0_1, .int .i64 a0_2, .int .i64 a0_3, .slice A0_4 l0_4.length c0_4], .agg #[.int .i64 a1_0, .int .i64 a1_1, .int .i64 a1_2, .int .i64 a1_3, .slice A1_4 l1_4.length c1_4]] w fun e w' => e = .returned (.bool r) ∧ Below w.heap.size w w' := by
 have hu44 := Try.underlying44
 have HR0_4 := Aside0.mk hr0_4
 have HC0_4 := Aside0.mk hc0_4
 clear hr0_4 hc0_4
 have HR1_4 := Aside0.mk hr1_4
 have HC1_4 := Aside0.mk hc1_4
 clear hr1_4 hc1_4
 have HB := Aside0.mk (Below.refl w.heap.size w)
 have H : (if a0_0 = a1_0 then (if a0_1 = a1_1 then (if a0_2 = a1_2 then (if a0_3 = a1_3 then ((laws_sameTexts.f k l0_4 l1_4).bind fun t494 => (some t494)) else (some false)) else (some false)) else (some false)) else (some false)) = some r := h
 clear h
 replace H := ite_ H
 obtain ⟨c3, H⟩ | ⟨c3, H⟩ := H
 rotate_left
 ·have c3b0 : (a0_0 == a1_0) = false := beq_eq_false_iff_ne.mpr c3
  have c3b1 : (a0_0 != a1_0) = true := bne_iff_ne.mpr c3
  obtain rfl := Option.some.inj H
  go_enter Try.func29, Try.ntmps29
  go_wp2_with (first | ((with_reducible refine gate_dst (N := 2) rfl ?_); refine bq_ (N := 2) #[.int .i64 a0_0, .int .i64 a0_1, .int .i64 a0_2, .int .i64 a0_3, .slice A0_4 l0_4.length c0_4] 44 ?_; intro gb492 hg w28 BK492 hb; have GE492 := ge_ hg; replace HB := nb_ hb; clear hb hg) | ((with_reducible refine gate_dst (N := 3) rfl ?_); refine bq_ (N := 3) #[.int .i64 a1_0, .int .i64 a1_1, .int .i64 a1_2, .int .i64 a1_3, .slice A1_4 l1_4.length c1_4] 44 ?_; intro gb493 hg w29 BK493 hb; have GE493 := ge1_ hg GE492; replace HB := nc_ GE492 hb; have NB492_493 := nl_ BK492 hg; have NB493_492 := ng_ BK492 hg; replace BK492 := bK_ BK492 hb; clear hb hg; have hnb30 := NB492_493.out; have hnc30 := NB493_492.out; obtain ⟨hcz31_0, hcz31_1, hcz31_2, hcz31_3, hcz31_4, hfz31_0, hfz31_1, hfz31_2, hfz31_3, hfz31_4⟩ := cf5_ BK492.out; obtain ⟨hcz32_0, hcz32_1, hcz32_2, hcz32_3, hcz32_4, hfz32_0, hfz32_1, hfz32_2, hfz32_3, hfz32_4⟩ := cf5_ BK493.out))
  go_ret
  exact ⟨er_, hs2_ GE492.out GE493.out⟩
 have c3b0 : (a0_0 == a1_0) = true := beq_iff_eq.mpr c3
 have c3b1 : (a0_0 != a1_0) = false := bne_eq_false_iff_eq.mpr c3
 clear c3
 replace H := ite_ H
 obtain ⟨c4, H⟩ | ⟨c4, H⟩ := H
 rotate_left
 ·have c4b0 : (a0_1 == a1_1) = false := beq_eq_false_iff_ne.mpr c4
  have c4b1 : (a0_1 != a1_1) = true := bne_iff_ne.mpr c4
  obtain rfl := Option.some.inj H
  go_enter Try.func29, Try.ntmps29
  go_wp2_with (first | ((with_reducible refine gate_dst (N := 2) rfl ?_); refine bq_ (N := 2) #[.int .i64 a0_0, .int .i64 a0_1, .int .i64 a0_2, .int .i64 a0_3, .slice A0_4 l0_4.length c0_4] 44 ?_; intro gb492 hg w23 BK492 hb; have GE492 := ge_ hg; replace HB := nb_ hb; clear hb hg) | ((with_reducible refine gate_dst (N := 3) rfl ?_); refine bq_ (N := 3) #[.int .i64 a1_0, .int .i64 a1_1, .int .i64 a1_2, .int .i64 a1_3, .slice A1_4 l1_4.length c1_4] 44 ?_; intro gb493 hg w24 BK493 hb; have GE493 := ge1_ hg GE492; replace HB := nc_ GE492 hb; have NB492_493 := nl_ BK492 hg; have NB493_492 := ng_ BK492 hg; replace BK492 := bK_ BK492 hb; clear hb hg; have hnb25 := NB492_493.out; have hnc25 := NB493_492.out; obtain ⟨hcz26_0, hcz26_1, hcz26_2, hcz26_3, hcz26_4, hfz26_0, hfz26_1, hfz26_2, hfz26_3, hfz26_4⟩ := cf5_ BK492.out; obtain ⟨hcz27_0, hcz27_1, hcz27_2, hcz27_3, hcz27_4, hfz27_0, hfz27_1, hfz27_2, hfz27_3, hfz27_4⟩ := cf5_ BK493.out))
  go_ret
  exact ⟨er_, hs2_ GE492.out GE493.out⟩
 have c4b0 : (a0_1 == a1_1) = true := beq_iff_eq.mpr c4
 have c4b1 : (a0_1 != a1_1) = false := bne_eq_false_iff_eq.mpr c4
 clear c4
 replace H := ite_ H
 obtain ⟨c5, H⟩ | ⟨c5, H⟩ := H
 rotate_left
 ·have c5b0 : (a0_2 == a1_2) = false := beq_eq_false_iff_ne.mpr c5
  have c5b1 : (a0_2 != a1_2) = true := bne_iff_ne.mpr c5
  obtain rfl := Option.some.inj H
  go_enter Try.func29, Try.ntmps29
  go_wp2_with (first | ((with_reducible refine gate_dst (N := 2) rfl ?_); refine bq_ (N := 2) #[.int .i64 a0_0, .int .i64 a0_1, .int .i64 a0_2, .int .i64 a0_3, .slice A0_4 l0_4.length c0_4] 44 ?_; intro gb492 hg w18 BK492 hb; have GE492 := ge_ hg; replace HB := nb_ hb; clear hb hg) | ((with_reducible refine gate_dst (N := 3) rfl ?_); refine bq_ (N := 3) #[.int .i64 a1_0, .int .i64 a1_1, .int .i64 a1_2, .int .i64 a1_3, .slice A1_4 l1_4.length c1_4] 44 ?_; intro gb493 hg w19 BK493 hb; have GE493 := ge1_ hg GE492; replace HB := nc_ GE492 hb; have NB492_493 := nl_ BK492 hg; have NB493_492 := ng_ BK492 hg; replace BK492 := bK_ BK492 hb; clear hb hg; have hnb20 := NB492_493.out; have hnc20 := NB493_492.out; obtain ⟨hcz21_0, hcz21_1, hcz21_2, hcz21_3, hcz21_4, hfz21_0, hfz21_1, hfz21_2, hfz21_3, hfz21_4⟩ := cf5_ BK492.out; obtain ⟨hcz22_0, hcz22_1, hcz22_2, hcz22_3, hcz22_4, hfz22_0, hfz22_1, hfz22_2, hfz22_3, hfz22_4⟩ := cf5_ BK493.out))
  go_ret
  exact ⟨er_, hs2_ GE492.out GE493.out⟩
 have c5b0 : (a0_2 == a1_2) = true := beq_iff_eq.mpr c5
 have c5b1 : (a0_2 != a1_2) = false := bne_eq_false_iff_eq.mpr c5
 clear c5
 replace H := ite_ H
 obtain ⟨c6, H⟩ | ⟨c6, H⟩ := H
 rotate_left
 ·have c6b0 : (a0_3 == a1_3) = false := beq_eq_false_iff_ne.mpr c6
  have c6b1 : (a0_3 != a1_3) = true := bne_iff_ne.mpr c6
  obtain rfl := Option.some.inj H
  go_enter Try.func29, Try.ntmps29
  go_wp2_with (first | ((with_reducible refine gate_dst (N := 2) rfl ?_); refine bq_ (N := 2) #[.int .i64 a0_0, .int .i64 a0_1, .int .i64 a0_2, .int .i64 a0_3, .slice A0_4 l0_4.length c0_4] 44 ?_; intro gb492 hg w13 BK492 hb; have GE492 := ge_ hg; replace HB := nb_ hb; clear hb hg) | ((with_reducible refine gate_dst (N := 3) rfl ?_); refine bq_ (N := 3) #[.int .i64 a1_0, .int .i64 a1_1, .int .i64 a1_2, .int .i64 a1_3, .slice A1_4 l1_4.length c1_4] 44 ?_; intro gb493 hg w14 BK493 hb; have GE493 := ge1_ hg GE492; replace HB := nc_ GE492 hb; have NB492_493 := nl_ BK492 hg; have NB493_492 := ng_ BK492 hg; replace BK492 := bK_ BK492 hb; clear hb hg; have hnb15 := NB492_493.out; have hnc15 := NB493_492.out; obtain ⟨hcz16_0, hcz16_1, hcz16_2, hcz16_3, hcz16_4, hfz16_0, hfz16_1, hfz16_2, hfz16_3, hfz16_4⟩ := cf5_ BK492.out; obtain ⟨hcz17_0, hcz17_1, hcz17_2, hcz17_3, hcz17_4, hfz17_0, hfz17_1, hfz17_2, hfz17_3, hfz17_4⟩ := cf5_ BK493.out))
  go_ret
  exact ⟨er_, hs2_ GE492.out GE493.out⟩
 have c6b0 : (a0_3 == a1_3) = true := beq_iff_eq.mpr c6
 have c6b1 : (a0_3 != a1_3) = false := bne_eq_false_iff_eq.mpr c6
 clear c6
 replace H := bnd_ H
 obtain ⟨t494, A7, H⟩ := H
 obtain rfl := Option.some.inj H
 go_enter Try.func29, Try.ntmps29
 go_wp2_with (first | ((with_reducible refine gate_dst (N := 2) rfl ?_); refine bq_ (N := 2) #[.int .i64 a0_0, .int .i64 a0_1, .int .i64 a0_2, .int .i64 a0_3, .slice A0_4 l0_4.length c0_4] 44 ?_; intro gb492 hg w8 BK492 hb; have GE492 := ge_ hg; replace HB := nb_ hb; clear hb hg) | ((with_reducible refine gate_dst (N := 3) rfl ?_); refine bq_ (N := 3) #[.int .i64 a1_0, .int .i64 a1_1, .int .i64 a1_2, .int .i64 a1_3, .slice A1_4 l1_4.length c1_4] 44 ?_; intro gb493 hg w9 BK493 hb; have GE493 := ge1_ hg GE492; replace HB := nc_ GE492 hb; have NB492_493 := nl_ BK492 hg; have NB493_492 := ng_ BK492 hg; replace BK492 := bK_ BK492 hb; clear hb hg; have hnb10 := NB492_493.out; have hnc10 := NB493_492.out; obtain ⟨hcz11_0, hcz11_1, hcz11_2, hcz11_3, hcz11_4, hfz11_0, hfz11_1, hfz11_2, hfz11_3, hfz11_4⟩ := cf5_ BK492.out; obtain ⟨hcz12_0, hcz12_1, hcz12_2, hcz12_3, hcz12_4, hfz12_0, hfz12_1, hfz12_2, hfz12_3, hfz12_4⟩ := cf5_ BK493.out) | (go_at_call 73; (with_reducible refine (laws_sameTexts.calls k _ _ l0_4 _ _ l1_4 t494 _ ?side1 ?side2 ?side3 ?side4 A7.out).mono ?_); (case side1 => exact cs_ ((Kd.C_below HR0_4.out HB.out))); (case side2 => exact HC0_4.out); (case side3 => exact cs_ ((Kd.C_below HR1_4.out HB.out))); (case side4 => exact HC1_4.out); rintro e w' ⟨rfl, ⟨nd, rfl⟩⟩))
 go_ret
 exact ⟨er_, hs2_ GE492.out GE493.out⟩

/-! ### laws_sameBatches: function 46 -/
def laws_sameBatches.l0 : Nat → List (S44) → List (S44) → Int → Int → Option (Bool)
 | 0, _, _, _, _ => none
 | k + 1, x0, x1, x12, x13 => if x13 < x12 then (if 0 ≤ x13 then (if x13 < (x0.length : Int) then (if x13 < (x1.length : Int) then ((laws_sameBatch.f k ((rd_T44 x0 x13).f0) ((rd_T44 x0 x13).f1) ((rd_T44 x0 x13).f2) ((rd_T44 x0 x13).f3) ((rd_T44 x0 x13).f4) ((rd_T44 x1 x13).f0) ((rd_T44 x1 x13).f1) ((rd_T44 x1 x13).f2) ((rd_T44 x1 x13).f3) ((rd_T44 x1 x13).f4)).bind fun t497 => (if t497 = true then (laws_sameBatches.l0 k x0 x1 x12 (wrap64 (x13 + 1))) else (some false))) else (none)) else (none)) else (none)) else (some true)
def laws_sameBatches.f (k : Nat) (l0 : List (S44)) (l1 : List (S44)) : Option (Bool) := if (l0.length : Int) = (l1.length : Int) then (laws_sameBatches.l0 k l0 l1 (l0.length : Int) 0) else (some false)
theorem laws_sameBatches.mono_l : ∀ k, (∀ y0 y1 y2 y3, LeO (laws_sameBatches.l0 k y0 y1 y2 y3) (laws_sameBatches.l0 (k + 1) y0 y1 y2 y3))
 | 0 => fun _ _ _ _ r h => by simp [laws_sameBatches.l0] at h
 | k + 1 => by
  have ih0 := laws_sameBatches.mono_l k
  ·intro y0 y1 y2 y3
   unfold laws_sameBatches.l0
   repeat' first
   | (with_reducible first | apply ih0 | apply laws_sameBatch.mono | exact LeO.refl _ | exact LeO.none _ | refine LeO.ite ?_ ?_ | refine LeO.bind ?_ (fun _ => ?_))
theorem laws_sameBatches.mono : ∀ a0 a1 k, LeO (laws_sameBatches.f k a0 a1) (laws_sameBatches.f (k + 1) a0 a1) := by
 intro a0 a1 k
 have ih0 := laws_sameBatches.mono_l k
 unfold laws_sameBatches.f
 repeat' first
   | (with_reducible first | apply ih0 | apply laws_sameBatch.mono | exact LeO.refl _ | exact LeO.none _ | refine LeO.ite ?_ ?_ | refine LeO.bind ?_ (fun _ => ?_))
def laws_sameBatches.T6 : Bool × List (List Nat × List Nat) := (true, [([], []), ([], []), ([0, 1], [0, 1]), ([2], [2]), ([], []), ([], []), ([4, 5], [4, 5]), ([6], [6]), ([3, 7], [3, 7]), ([8], [8])])
def laws_sameBatches.B6 : List Nat := [0, 0, 3, 7, 0, 0, 48, 112, 255, 511]
theorem laws_sameBatches.tab6 : rtab .any (opsOf Try.f46 6) = laws_sameBatches.T6 := by kernel_rfl
theorem laws_sameBatches.bits6 : waitsOk laws_sameBatches.T6.2 laws_sameBatches.B6 = true := by kernel_rfl
set_option maxHeartbeats 8000000 in
set_option maxRecDepth 100000 in
theorem laws_sameBatches.calls (k : Nat) (A0 : Option Addr) (c0 : Nat) (l0 : List (S44)) (A1 : Option Addr) (c1 : Nat) (l1 : List (S44)) (r : Bool) (w : World) (hr0 : Kd.C k44 w A0 l0.length l0) (hc0 : l0.length ≤ c0) (hr1 : Kd.C k44 w A1 l1.length l1) (hc1 : l1.length ≤ c1) (h : laws_sameBatches.f k l0 l1 = some r) :
  Calls Try.prog 46 #[.slice A0 l0.length c0, .slice A1 l1.length c1] w fun e w' => e = .returned (.bool r) ∧ Below w.heap.size w w' := by
 have hu44 := Try.underlying44
 have HR0 := Aside0.mk hr0
 have HC0 := Aside0.mk hc0
 clear hr0 hc0
 have HR1 := Aside0.mk hr1
 have HC1 := Aside0.mk hc1
 clear hr1 hc1
 have HB := Aside0.mk (Below.refl w.heap.size w)
 have H : (if (l0.length : Int) = (l1.length : Int) then (laws_sameBatches.l0 k l0 l1 (l0.length : Int) 0) else (some false)) = some r := h
 clear h
 replace H := ite_ H
 obtain ⟨c3, H⟩ | ⟨c3, H⟩ := H
 rotate_left
 ·have c3b0 : ((l0.length : Int) == (l1.length : Int)) = false := beq_eq_false_iff_ne.mpr c3
  have c3b1 : ((l0.length : Int) != (l1.length : Int)) = true := bne_iff_ne.mpr c3
  have c3b2 : (l0.length == l1.length) = false := by first | simpa using c3 | (simp at c3 ⊢; omega)
  obtain rfl := Option.some.inj H
  go_enter Try.func46, Try.ntmps46
  go_wp2
  go_ret
  exact ⟨er_, hb_⟩
 have c3b0 : ((l0.length : Int) == (l1.length : Int)) = true := beq_iff_eq.mpr c3
 have c3b1 : ((l0.length : Int) != (l1.length : Int)) = false := bne_eq_false_iff_eq.mpr c3
 have c3b2 : (l0.length == l1.length) = true := by first | simpa using c3 | (simp at c3 ⊢; omega)
 clear c3
 have H' := Aside0.mk H
 clear H
 go_enter Try.func46, Try.ntmps46
 go_wp2
 go_loopg [13] k (fun kq v13 w' => ∃ (x13_1 : Int), v13 = .int .i64 x13_1 ∧ Aside0 (laws_sameBatches.l0 kq l0 l1 (l0.length : Int) x13_1 = some r) ∧ Aside0 (kq ≤ k) ∧ Aside0 (Below w.heap.size w w'))
 case atStart => exact ⟨(0), sr_, H', ⟨Nat.le_refl _⟩, ⟨hb_⟩⟩
 case round =>
  clear H'
  try clear c1
  try clear c3
  try clear c3b0
  try clear c3b1
  try clear c3b2
  obtain ⟨x13_1, rfl, HA, HK1, HB⟩ := hrel
  cases gk with
  | zero => exact absurd HA.out (by simp [laws_sameBatches.l0])
  | succ k1 =>
   have H := HA.out
   clear HA
   simp only [laws_sameBatches.l0] at H
   replace H := ite_ H
   obtain ⟨c4, H⟩ | ⟨c4, H⟩ := H
   rotate_left
   ·have c4b0 := decide_eq_false c4
    clear c4
    obtain rfl := Option.some.inj H
    go_wp2
    go_ret
    exact ⟨er_, hb_⟩
   have c4b0 := decide_eq_true c4
   clear c4
   replace H := ifs_ H
   obtain ⟨c5, H⟩ := H
   have c5b0 := decide_eq_true c5
   clear c5
   replace H := ifs_ H
   obtain ⟨c6, H⟩ := H
   have c6b0 := decide_eq_true c6
   clear c6
   replace H := ifs_ H
   obtain ⟨c7, H⟩ := H
   have c7b0 := decide_eq_true c7
   clear c7
   replace H := bnd_ H
   obtain ⟨t497, A8, H⟩ := H
   replace H := ifb_ H
   obtain ⟨rfl, H⟩ | ⟨rfl, H⟩ := H
   rotate_left
   ·obtain rfl := Option.some.inj H
    try go_wp2
    replace HB := qH_ HB
    have p495 : 0 ≤ (x13_1 : Int) := oa_
    have q495 : x13_1 < (l0.length : Int) := oa_
    obtain ⟨ad495, A495_4, c495_4, e495, hx495_0, hx495_1, hx495_2, hx495_3, hx495_4, hl495_4, hi495_4⟩ := at_T44 HR0.out x13_1 p495 q495
    have hw495_4 := hx495_4
    have hw495_3 := hx495_3
    have hw495_2 := hx495_2
    have hw495_1 := hx495_1
    have hw495_0 := hx495_0
    cases e495
    replace hx495_0 := pc_ HB.out hx495_0
    replace hx495_1 := pc_ HB.out hx495_1
    replace hx495_2 := pc_ HB.out hx495_2
    replace hx495_3 := pc_ HB.out hx495_3
    replace hx495_4 := pc_ HB.out hx495_4
    have HR495_4 := Aside0.mk hi495_4
    have HC495_4 := Aside0.mk hl495_4
    clear hi495_4 hl495_4
    replace p495 := eq_true p495
    replace q495 := eq_true q495
    have p496 : 0 ≤ (x13_1 : Int) := oa_
    have q496 : x13_1 < (l1.length : Int) := oa_
    obtain ⟨ad496, A496_4, c496_4, e496, hx496_0, hx496_1, hx496_2, hx496_3, hx496_4, hl496_4, hi496_4⟩ := at_T44 HR1.out x13_1 p496 q496
    have hw496_4 := hx496_4
    have hw496_3 := hx496_3
    have hw496_2 := hx496_2
    have hw496_1 := hx496_1
    have hw496_0 := hx496_0
    cases e496
    replace hx496_0 := pc_ HB.out hx496_0
    replace hx496_1 := pc_ HB.out hx496_1
    replace hx496_2 := pc_ HB.out hx496_2
    replace hx496_3 := pc_ HB.out hx496_3
    replace hx496_4 := pc_ HB.out hx496_4
    have HR496_4 := Aside0.mk hi496_4
    have HC496_4 := Aside0.mk hl496_4
    clear hi496_4 hl496_4
    replace p496 := eq_true p496
    replace q496 := eq_true q496
    refine start_ (n := 10) (S := fun w' => w'.cell? (ad495.add ((x13_1).toNat * 5)) = some (.int .i64 ((rd_T44 l0 x13_1).f0)) ∧ w'.cell? ⟨(ad495.add ((x13_1).toNat * 5)).block, (ad495.add ((x13_1).toNat * 5)).off + 1, none⟩ = some (.int .i64 ((rd_T44 l0 x13_1).f1)) ∧ w'.cell? ⟨(ad495.add ((x13_1).toNat * 5)).block, (ad495.add ((x13_1).toNat * 5)).off + 2, none⟩ = some (.int .i64 ((rd_T44 l0 x13_1).f2)) ∧ w'.cell? ⟨(ad495.add ((x13_1).toNat * 5)).block, (ad495.add ((x13_1).toNat * 5)).off + 3, none⟩ = some (.int .i64 ((rd_T44 l0 x13_1).f3)) ∧ w'.cell? ⟨(ad495.add ((x13_1).toNat * 5)).block, (ad495.add ((x13_1).toNat * 5)).off + 4, none⟩ = some (.slice A495_4 ((rd_T44 l0 x13_1).f4).length c495_4) ∧ w'.cell? (ad496.add ((x13_1).toNat * 5)) = some (.int .i64 ((rd_T44 l1 x13_1).f0)) ∧ w'.cell? ⟨(ad496.add ((x13_1).toNat * 5)).block, (ad496.add ((x13_1).toNat * 5)).off + 1, none⟩ = some (.int .i64 ((rd_T44 l1 x13_1).f1)) ∧ w'.cell? ⟨(ad496.add ((x13_1).toNat * 5)).block, (ad496.add ((x13_1).toNat * 5)).off + 2, none⟩ = some (.int .i64 ((rd_T44 l1 x13_1).f2)) ∧ w'.cell? ⟨(ad496.add ((x13_1).toNat * 5)).block, (ad496.add ((x13_1).toNat * 5)).off + 3, none⟩ = some (.int .i64 ((rd_T44 l1 x13_1).f3)) ∧ w'.cell? ⟨(ad496.add ((x13_1).toNat * 5)).block, (ad496.add ((x13_1).toNat * 5)).off + 4, none⟩ = some (.slice A496_4 ((rd_T44 l1 x13_1).f4).length c496_4)) (ds := []) (List.replicate 10 false).toArray (by kernel_rfl) rfl rfl ⟨(pc_ HB.out hw495_0), (pc_ HB.out hw495_1), (pc_ HB.out hw495_2), (pc_ HB.out hw495_3), (pc_ HB.out hw495_4), (pc_ HB.out hw496_0), (pc_ HB.out hw496_1), (pc_ HB.out hw496_2), (pc_ HB.out hw496_3), (pc_ HB.out hw496_4)⟩ (fun hHeld => ?_); refine with_tabW laws_sameBatches.tab6 laws_sameBatches.bits6 (fun HT_ HW_ => ?_)
    generalize wr.drew = w12 at HB HR495_4 HR496_4 hx495_0 hx495_1 hx495_2 hx495_3 hx495_4 hx496_0 hx496_1 hx496_2 hx496_3 hx496_4 hHeld ⊢
    refine pv_ 0 16 ?_
    refine pv_ 1 17 ?_
    refine pv_ 2 18 ?_
    refine pv_ 4 20 ?_
    refine pv_ 5 21 ?_
    refine pv_ 6 22 ?_
    refine tk_ 3 19 ?_
    refine tk_ 7 23 ?_
    refine on_ 8 24 (fun K hK => ?_)
    refine gs_ Try.func29 #[.agg #[.int .i64 ((rd_T44 l0 x13_1).f0), .int .i64 ((rd_T44 l0 x13_1).f1), .int .i64 ((rd_T44 l0 x13_1).f2), .int .i64 ((rd_T44 l0 x13_1).f3), .slice A495_4 ((rd_T44 l0 x13_1).f4).length c495_4], .agg #[.int .i64 ((rd_T44 l1 x13_1).f0), .int .i64 ((rd_T44 l1 x13_1).f1), .int .i64 ((rd_T44 l1 x13_1).f2), .int .i64 ((rd_T44 l1 x13_1).f3), .slice A496_4 ((rd_T44 l1 x13_1).f4).length c496_4]] rfl ma_ ?_
    with_reducible refine (laws_sameBatch.calls k1 ((rd_T44 l0 x13_1).f0) ((rd_T44 l0 x13_1).f1) ((rd_T44 l0 x13_1).f2) ((rd_T44 l0 x13_1).f3) _ _ ((rd_T44 l0 x13_1).f4) ((rd_T44 l1 x13_1).f0) ((rd_T44 l1 x13_1).f1) ((rd_T44 l1 x13_1).f2) ((rd_T44 l1 x13_1).f3) _ _ ((rd_T44 l1 x13_1).f4) false _ ?side1 ?side2 ?side3 ?side4 A8.out).mono ?_
    (case side1 => exact cs_ ((Kd.C_below HR495_4.out HB.out)))
    (case side2 => exact HC495_4.out)
    (case side3 => exact cs_ ((Kd.C_below HR496_4.out HB.out)))
    (case side4 => exact HC496_4.out)
    rintro e w13 ⟨rfl, hb⟩
    refine ⟨_, rfl, ?_⟩
    replace HB := nb_ hb
    (try clear hb)
    (try clear hb2)
    (try clear hk)
    (try clear hi)
    refine hK.out _ _ ⟨(pc_ HB.out hw495_0), (pc_ HB.out hw495_1), (pc_ HB.out hw495_2), (pc_ HB.out hw495_3), (pc_ HB.out hw495_4), (pc_ HB.out hw496_0), (pc_ HB.out hw496_1), (pc_ HB.out hw496_2), (pc_ HB.out hw496_3), (pc_ HB.out hw496_4)⟩ (fun hHeld => ?_)
    clear hK K
    refine no_ ?_
    refine pv_ 9 25 ?_
    refine done_ (done_of HT_.out (by kernel_rfl)) ?_
    try go_wp2
    go_ret
    exact ⟨er_, hb_⟩
   have H' := Aside0.mk H
   clear H
   try go_wp2
   replace HB := qH_ HB
   have p495 : 0 ≤ (x13_1 : Int) := oa_
   have q495 : x13_1 < (l0.length : Int) := oa_
   obtain ⟨ad495, A495_4, c495_4, e495, hx495_0, hx495_1, hx495_2, hx495_3, hx495_4, hl495_4, hi495_4⟩ := at_T44 HR0.out x13_1 p495 q495
   have hw495_4 := hx495_4
   have hw495_3 := hx495_3
   have hw495_2 := hx495_2
   have hw495_1 := hx495_1
   have hw495_0 := hx495_0
   cases e495
   replace hx495_0 := pc_ HB.out hx495_0
   replace hx495_1 := pc_ HB.out hx495_1
   replace hx495_2 := pc_ HB.out hx495_2
   replace hx495_3 := pc_ HB.out hx495_3
   replace hx495_4 := pc_ HB.out hx495_4
   have HR495_4 := Aside0.mk hi495_4
   have HC495_4 := Aside0.mk hl495_4
   clear hi495_4 hl495_4
   replace p495 := eq_true p495
   replace q495 := eq_true q495
   have p496 : 0 ≤ (x13_1 : Int) := oa_
   have q496 : x13_1 < (l1.length : Int) := oa_
   obtain ⟨ad496, A496_4, c496_4, e496, hx496_0, hx496_1, hx496_2, hx496_3, hx496_4, hl496_4, hi496_4⟩ := at_T44 HR1.out x13_1 p496 q496
   have hw496_4 := hx496_4
   have hw496_3 := hx496_3
   have hw496_2 := hx496_2
   have hw496_1 := hx496_1
   have hw496_0 := hx496_0
   cases e496
   replace hx496_0 := pc_ HB.out hx496_0
   replace hx496_1 := pc_ HB.out hx496_1
   replace hx496_2 := pc_ HB.out hx496_2
   replace hx496_3 := pc_ HB.out hx496_3
   replace hx496_4 := pc_ HB.out hx496_4
   have HR496_4 := Aside0.mk hi496_4
   have HC496_4 := Aside0.mk hl496_4
   clear hi496_4 hl496_4
   replace p496 := eq_true p496
   replace q496 := eq_true q496
   refine start_ (n := 10) (S := fun w' => w'.cell? (ad495.add ((x13_1).toNat * 5)) = some (.int .i64 ((rd_T44 l0 x13_1).f0)) ∧ w'.cell? ⟨(ad495.add ((x13_1).toNat * 5)).block, (ad495.add ((x13_1).toNat * 5)).off + 1, none⟩ = some (.int .i64 ((rd_T44 l0 x13_1).f1)) ∧ w'.cell? ⟨(ad495.add ((x13_1).toNat * 5)).block, (ad495.add ((x13_1).toNat * 5)).off + 2, none⟩ = some (.int .i64 ((rd_T44 l0 x13_1).f2)) ∧ w'.cell? ⟨(ad495.add ((x13_1).toNat * 5)).block, (ad495.add ((x13_1).toNat * 5)).off + 3, none⟩ = some (.int .i64 ((rd_T44 l0 x13_1).f3)) ∧ w'.cell? ⟨(ad495.add ((x13_1).toNat * 5)).block, (ad495.add ((x13_1).toNat * 5)).off + 4, none⟩ = some (.slice A495_4 ((rd_T44 l0 x13_1).f4).length c495_4) ∧ w'.cell? (ad496.add ((x13_1).toNat * 5)) = some (.int .i64 ((rd_T44 l1 x13_1).f0)) ∧ w'.cell? ⟨(ad496.add ((x13_1).toNat * 5)).block, (ad496.add ((x13_1).toNat * 5)).off + 1, none⟩ = some (.int .i64 ((rd_T44 l1 x13_1).f1)) ∧ w'.cell? ⟨(ad496.add ((x13_1).toNat * 5)).block, (ad496.add ((x13_1).toNat * 5)).off + 2, none⟩ = some (.int .i64 ((rd_T44 l1 x13_1).f2)) ∧ w'.cell? ⟨(ad496.add ((x13_1).toNat * 5)).block, (ad496.add ((x13_1).toNat * 5)).off + 3, none⟩ = some (.int .i64 ((rd_T44 l1 x13_1).f3)) ∧ w'.cell? ⟨(ad496.add ((x13_1).toNat * 5)).block, (ad496.add ((x13_1).toNat * 5)).off + 4, none⟩ = some (.slice A496_4 ((rd_T44 l1 x13_1).f4).length c496_4)) (ds := []) (List.replicate 10 false).toArray (by kernel_rfl) rfl rfl ⟨(pc_ HB.out hw495_0), (pc_ HB.out hw495_1), (pc_ HB.out hw495_2), (pc_ HB.out hw495_3), (pc_ HB.out hw495_4), (pc_ HB.out hw496_0), (pc_ HB.out hw496_1), (pc_ HB.out hw496_2), (pc_ HB.out hw496_3), (pc_ HB.out hw496_4)⟩ (fun hHeld => ?_); refine with_tabW laws_sameBatches.tab6 laws_sameBatches.bits6 (fun HT_ HW_ => ?_)
   generalize wr.drew = w10 at HB HR495_4 HR496_4 hx495_0 hx495_1 hx495_2 hx495_3 hx495_4 hx496_0 hx496_1 hx496_2 hx496_3 hx496_4 hHeld ⊢
   refine pv_ 0 16 ?_
   refine pv_ 1 17 ?_
   refine pv_ 2 18 ?_
   refine pv_ 4 20 ?_
   refine pv_ 5 21 ?_
   refine pv_ 6 22 ?_
   refine tk_ 3 19 ?_
   refine tk_ 7 23 ?_
   refine on_ 8 24 (fun K hK => ?_)
   refine gs_ Try.func29 #[.agg #[.int .i64 ((rd_T44 l0 x13_1).f0), .int .i64 ((rd_T44 l0 x13_1).f1), .int .i64 ((rd_T44 l0 x13_1).f2), .int .i64 ((rd_T44 l0 x13_1).f3), .slice A495_4 ((rd_T44 l0 x13_1).f4).length c495_4], .agg #[.int .i64 ((rd_T44 l1 x13_1).f0), .int .i64 ((rd_T44 l1 x13_1).f1), .int .i64 ((rd_T44 l1 x13_1).f2), .int .i64 ((rd_T44 l1 x13_1).f3), .slice A496_4 ((rd_T44 l1 x13_1).f4).length c496_4]] rfl ma_ ?_
   with_reducible refine (laws_sameBatch.calls k1 ((rd_T44 l0 x13_1).f0) ((rd_T44 l0 x13_1).f1) ((rd_T44 l0 x13_1).f2) ((rd_T44 l0 x13_1).f3) _ _ ((rd_T44 l0 x13_1).f4) ((rd_T44 l1 x13_1).f0) ((rd_T44 l1 x13_1).f1) ((rd_T44 l1 x13_1).f2) ((rd_T44 l1 x13_1).f3) _ _ ((rd_T44 l1 x13_1).f4) true _ ?side1 ?side2 ?side3 ?side4 A8.out).mono ?_
   (case side1 => exact cs_ ((Kd.C_below HR495_4.out HB.out)))
   (case side2 => exact HC495_4.out)
   (case side3 => exact cs_ ((Kd.C_below HR496_4.out HB.out)))
   (case side4 => exact HC496_4.out)
   rintro e w11 ⟨rfl, hb⟩
   refine ⟨_, rfl, ?_⟩
   replace HB := nb_ hb
   (try clear hb)
   (try clear hb2)
   (try clear hk)
   (try clear hi)
   refine hK.out _ _ ⟨(pc_ HB.out hw495_0), (pc_ HB.out hw495_1), (pc_ HB.out hw495_2), (pc_ HB.out hw495_3), (pc_ HB.out hw495_4), (pc_ HB.out hw496_0), (pc_ HB.out hw496_1), (pc_ HB.out hw496_2), (pc_ HB.out hw496_3), (pc_ HB.out hw496_4)⟩ (fun hHeld => ?_)
   clear hK K
   refine no_ ?_
   refine pv_ 9 25 ?_
   refine done_ (done_of HT_.out (by kernel_rfl)) ?_
   try go_wp2
   go_roundg k1
   case measure => have := HK1.out; omega
   case rel => exact ⟨(wrap64 (x13_1 + 1)), sr_, H', ⟨by have := HK1.out; omega⟩, ⟨hb_⟩⟩
/-! ### spec_DrawSyncFile: function 36 -/
def spec_DrawSyncFile.m (k : Nat) (s0_0 : List Int) (s0_1 : Int) (s0_2 : Int) : Option ((List (S56)) × Int × Int × Int) := (spec_l1Cur_disk.f k s0_0 s0_1 s0_2).bind fun bt531 => ((spec_l1Cur_pick.f s0_0 bt531.2.1 bt531.2.2 (wrap64 ((bt531.1.length : Int) + 2))).bind fun bt537 => (some (bt531.1, wrap64 (bt537.1 - 1), bt537.2.1, bt537.2.2)))
theorem spec_DrawSyncFile.mono_m : ∀ a0 a1 a2 k, LeO (spec_DrawSyncFile.m k a0 a1 a2) (spec_DrawSyncFile.m (k + 1) a0 a1 a2) := by
 intro a0 a1 a2 k
 unfold spec_DrawSyncFile.m
 repeat' first
   | (with_reducible first | apply spec_l1Cur_disk.mono | exact LeO.refl _ | exact LeO.none _ | refine LeO.ite ?_ ?_ | refine LeO.bind ?_ (fun _ => ?_))
def spec_DrawSyncFile.T3 : Bool × List (List Nat × List Nat) := (true, [([], []), ([], []), ([], []), ([2], [2]), ([3], [3]), ([4], [4]), ([1, 5], [1, 5]), ([6], [6]), ([0, 6, 0], [0]), ([7, 8, 0, 1, 2, 3, 4, 5, 6, 7, 8], [7])])
def spec_DrawSyncFile.B3 : List Nat := [0, 0, 0, 4, 12, 28, 62, 126, 127, 511]
theorem spec_DrawSyncFile.tab3 : rtab .any (opsOf Try.f36 3) = spec_DrawSyncFile.T3 := by kernel_rfl
theorem spec_DrawSyncFile.bits3 : waitsOk spec_DrawSyncFile.T3.2 spec_DrawSyncFile.B3 = true := by kernel_rfl
def spec_DrawSyncFile.f (k : Nat) (l0 : List Int) : Option ((List (S56)) × Int) := (spec_DrawSyncFile.m k l0 0 0).bind fun b => some (b.1, b.2.1)
theorem spec_DrawSyncFile.mono : ∀ a0 k, LeO (spec_DrawSyncFile.f k a0) (spec_DrawSyncFile.f (k + 1) a0) := fun a0 k => LeO.bind (spec_DrawSyncFile.mono_m _ _ _ _) (fun _ => LeO.refl _)
set_option maxHeartbeats 8000000 in
set_option maxRecDepth 100000 in
theorem spec_DrawSyncFile.calls (k : Nat) (A0 : Option Addr) (c0 : Nat) (l0 : List Int) (r1 : List (S56)) (r2 : Int) (w : World) (hr0 : Kd.C (Kd.int .u8) w A0 l0.length l0) (_hc0 : l0.length ≤ c0) (h : spec_DrawSyncFile.f k l0 = some (r1, r2)) :
  Calls Try.prog 36 #[.slice A0 l0.length c0] w fun e w' => ∃ v0_ : Value, e = .returned (.tuple #[.agg #[v0_], .int .i64 r2]) ∧ Kd.R k56 56 w' w.heap.size (fun _ => True) v0_ r1 ∧ Below w.heap.size w w' := by
 have hu_92 := Try.underlying92
 have HR0_ := Aside0.mk hr0
 clear hr0
 obtain ⟨⟨q0_, q1_, q2_, q3_⟩, h_, e_⟩ := Option.bind_eq_some_iff.1 h
 clear h
 have e_ := Option.some.inj e_
 simp only [Prod.mk.injEq] at e_
 obtain ⟨e0_, e1_⟩ := e_
 obtain rfl := e0_.symm
 obtain rfl := e1_.symm
 have h := h_
 clear h_
 have hu31 := Try.underlying31
 have H : ((spec_l1Cur_disk.f k l0 0 0).bind fun bt531 => ((spec_l1Cur_pick.f l0 bt531.2.1 bt531.2.2 (wrap64 ((bt531.1.length : Int) + 2))).bind fun bt537 => (some (bt531.1, wrap64 (bt537.1 - 1), bt537.2.1, bt537.2.2)))) = some (r1, r2, q2_, q3_) := h
 clear h
 replace H := bnd_ H
 obtain ⟨⟨t531, t534, t535⟩, A2, H⟩ := H
 replace H := red_ H
 replace H := bnd_ H
 obtain ⟨⟨t537, t538, t539⟩, A3, H⟩ := H
 replace H := red_ H
 simp only [Option.some.injEq, Prod.mk.injEq] at H
 obtain ⟨rfl, rfl, rfl, rfl⟩ := H
 go_enter Try.func36, Try.ntmps36
 have HW0 := Aside0.mk (Nat.le_refl w.heap.size)
 have HB := Aside0.mk (Below.refl w.heap.size w)
 go_upto_region 2 with (first | ((with_reducible refine gate_dst (N := 2) rfl ?_); (try (refine gate_guard (by rfl) ?_; dsimp only)); refine be_ (N := 2) #[.slice none 0 0] 31 ?_; intro gb530 hg w530_ hbox hb; have BK530 := Aside0.mk hbox; have GW530 := Aside0.mk (show w.heap.size ≤ gb530 from by rw [hg]; exact HB.out.size); have GE530 := GW530; replace HB := Aside0.mk (below_step HB.out hb); clear hbox hb hg) | ((with_reducible refine gate_dst (N := 8) rfl ?_); (try (refine gate_guard (by rfl) ?_; dsimp only)); refine be_ (N := 8) #[.slice A0 l0.length c0, .int .i64 0, .int .u64 0] 92 ?_; intro g hg wg_ hbox hb; have HI0 : Aside0 (IsS92 w wg_ g l0 0 0) := ⟨⟨A0, c0, hbox, by rw [hg]; exact HB.out.size, HR0_.out⟩⟩; have NB0_530 := Aside0.mk (show g ≠ gb530 from by rw [hg]; exact Nat.ne_of_gt (blk_lt BK530.out)); have NB530_0 := Aside0.mk (Ne.symm NB0_530.out); replace BK530 := Aside0.mk (blk_below BK530.out hb); replace HB := Aside0.mk (below_step HB.out hb); have HK := Aside0.mk (KeepBut.of_below HB.out g none); have HL := HW0; clear hbox hb hg))
 try go_wp2_with (first | ((with_reducible refine gate_dst (N := 2) rfl ?_); refine bq_ (N := 2) #[.slice none 0 0] 31 ?_; intro gb530 hg w4 BK530 hb; replace HB := Aside0.mk (below_step (hs_ (IsS92.ge HI0.out)) hb); have GW530 := Aside0.mk ((by rw [hg]; exact (keep_size (w := w) (g := g) (row := none) (kp0_)) : w.heap.size ≤ gb530)); have GE530 := Aside0.mk ((Nat.le_trans HW0.out (by rw [hg]; exact (keep_size (w := w) (g := g) (row := none) (kp0_)) : w.heap.size ≤ gb530) : w.heap.size ≤ gb530)); replace HK := Aside0.mk (KeepBut.trans (kp0_) (KeepBut.of_below hb g none) (.inl rfl)); have NB0_530 := Aside0.mk ((by rw [hg]; exact Nat.ne_of_lt (IsS92.lt (show IsS92 w _ g l0 0 0 from iS92_0_)) : g ≠ gb530)); have NB530_0 := Aside0.mk ((by rw [hg]; exact Nat.ne_of_gt (IsS92.lt (show IsS92 w _ g l0 0 0 from iS92_0_)) : gb530 ≠ g)); replace HI0 := Aside0.mk (IsS92.below (iS92_0_) hb); clear hb hg) | ((with_reducible refine gate_callee (f := 70) rfl ?_); refine gl_ 10 Try.func70 #[.pointer (some ⟨g, 0, none⟩)] rfl ma_ ?_; (with_reducible refine (spec_l1Cur_disk.calls k g l0 0 0 t531 t534 t535 w _ ?side1 ?side2 A2.out).mono ?_); (case side1 => exact iS92_1_ NB0_530.out); (case side2 => exact hs2_ (IsS92.ge HI0.out) GE530.out); rintro e w5 ⟨v532, rfl, ho0, hi, hb, hk⟩; refine ⟨_, rfl, ?_⟩; replace BK530 := Aside0.mk (KeepBut.blk hk (g' := gb530) (o := .cells #[.slice none 0 0] 31 (0, 0)) (kb_ BK530.out) NB530_0.out (by simp)); have HO533 := Aside0.mk (Kd.R_lower ho0 (keep_size (w := w) (g := g) (row := none) (kp1_ GW530.out))); replace HK := Aside0.mk (KeepBut.trans (kp1_ GW530.out) hk (.inl rfl)); replace HB := Aside0.mk (hb); replace HI0 := Aside0.mk (hi); (try clear hb); (try clear hb2); (try clear hk); (try clear hi); (try clear ho0)) | ((with_reducible refine gate_dst (N := 5) rfl ?_); refine bq_ (N := 5) #[.slice none 0 0] 31 ?_; intro gb536 hg w6 BK536 hb; replace HO533 := rB_ HO533 hb; replace HB := Aside0.mk (below_step (hs2_ (IsS92.ge HI0.out) GE530.out) hb); have GW536 := Aside0.mk ((by rw [hg]; exact (keep_size (w := w) (g := g) (row := none) (kp1_ GW530.out)) : w.heap.size ≤ gb536)); have GE536 := Aside0.mk ((Nat.le_trans HW0.out (by rw [hg]; exact (keep_size (w := w) (g := g) (row := none) (kp1_ GW530.out)) : w.heap.size ≤ gb536) : w.heap.size ≤ gb536)); replace HK := Aside0.mk (KeepBut.trans (kp1_ GW530.out) (KeepBut.of_below hb g none) (.inl rfl)); have NB530_536 := nl_ BK530 hg; have NB536_530 := ng_ BK530 hg; replace BK530 := bK_ BK530 hb; have NB0_536 := Aside0.mk ((by rw [hg]; exact Nat.ne_of_lt (IsS92.lt (show IsS92 w _ g l0 t534 t535 from iS92_1_ NB0_530.out)) : g ≠ gb536)); have NB536_0 := Aside0.mk ((by rw [hg]; exact Nat.ne_of_gt (IsS92.lt (show IsS92 w _ g l0 t534 t535 from iS92_1_ NB0_530.out)) : gb536 ≠ g)); replace HI0 := Aside0.mk (IsS92.below (iS92_1_ NB0_530.out) hb); clear hb hg; obtain ⟨Ao7, co7, eo7⟩ := Kd.R_slice HO533.out; subst eo7; have hnb8 := NB536_530.out; have hnc8 := NB530_536.out; have hnb9 := NB536_0.out; have hnc9 := NB0_536.out; obtain ⟨hcz10_0, hfz10_0⟩ := cf1_ BK536.out))
 have n0_ : Aside0 (Kd.R k56 56 (w6.setCell ⟨gb536, 0, none⟩ (.slice Ao7 t531.length co7)) w.heap.size (fun _ => True) (.slice Ao7 t531.length co7) t531) := ⟨rF_ (Kd.R_mono (Kd.R_far (p := ⟨gb536, 0, none⟩) (Kd.R_types HO533.out BK536.out (by decide)) (fun _ hk => hk.2) (.slice Ao7 t531.length co7)) (fun _ hk => trivial))⟩
 have n1_ : Aside0 ((w6.setCell ⟨gb536, 0, none⟩ (.slice Ao7 t531.length co7)).heap[gb530]? = some (.cells #[.slice none 0 0] 31 (0, 0))) := ⟨uf_ BK530 NB530_536.out⟩
 have n2_ : Aside0 ((w6.setCell ⟨gb536, 0, none⟩ (.slice Ao7 t531.length co7)).heap[gb536]? = some (.cells #[.slice Ao7 t531.length co7] 31 (0, 0))) := ⟨up_ BK536⟩
 have n3_ : Aside0 (IsS92 w (w6.setCell ⟨gb536, 0, none⟩ (.slice Ao7 t531.length co7)) g l0 t534 t535) := ⟨iS92_2_ NB0_530.out NB0_536.out⟩
 have n4_ : Aside0 (KeepBut w (w6.setCell ⟨gb536, 0, none⟩ (.slice Ao7 t531.length co7)) g none) := ⟨kp2_ GW530.out GW536.out⟩
 have n5_ : Aside0 (Below w.heap.size w (w6.setCell ⟨gb536, 0, none⟩ (.slice Ao7 t531.length co7))) := ⟨hs3_ (IsS92.ge HI0.out) GE530.out GE536.out⟩
 (try clear HO533)
 (try clear BK530)
 (try clear BK536)
 (try clear HI0)
 (try clear HK)
 (try clear HB)
 generalize (w6.setCell ⟨gb536, 0, none⟩ (.slice Ao7 t531.length co7)) = w11 at n0_ n1_ n2_ n3_ n4_ n5_ ⊢
 have HO533 := n0_
 have BK530 := n1_
 have BK536 := n2_
 have HI0 := n3_
 have HK := n4_
 have HB := n5_
 clear n0_ n1_ n2_ n3_ n4_ n5_
 replace HO533 := qR_ HO533
 replace BK530 := qK_ BK530
 replace BK536 := qK_ BK536
 replace HI0 := Aside0.mk (IsS92.drew HI0.out)
 replace HK := Aside0.mk (keep_drew HK.out)
 replace HB := qH_ HB
 refine start_ (n := 10) (S := fun w' => w'.cell? ⟨gb536, 0, none⟩ = some (.slice Ao7 t531.length co7)) (ds := []) (List.replicate 10 false).toArray (by kernel_rfl) rfl rfl (bt_ BK536 0) (fun hHeld => ?_); refine with_tabW spec_DrawSyncFile.tab3 spec_DrawSyncFile.bits3 (fun HT_ HW_ => ?_)
 generalize w11.drew = w12 at HO533 BK530 BK536 HI0 HK HB hHeld ⊢
 refine pv_ 1 12 ?_
 refine pv_ 2 13 ?_
 refine take_ (i := 0) (N := some 11) (v := ?_) (a' := ?_) #[true, true, true, false, false, false, false, false, false, false] rfl rfl (take_ofW HT_.out HW_.out (by kernel_rfl)) (fun _ _ _ h => h) (Or.inl ⟨by rfl, ?_⟩) hHeld ?_ ?_
 rotate_left
 ·intro w' s0
  go_simp
  with_reducible rfl
 rotate_left
 ·simp only [Act.put, List.setIfInBounds_toArray, List.set_cons_zero, List.set_cons_succ, i64_w, i32_w]
  rfl
 refine take_ (i := 3) (N := some 14) (v := ?_) (a' := ?_) #[true, true, true, true, false, false, false, false, false, false] rfl rfl (take_ofW HT_.out HW_.out (by kernel_rfl)) (fun _ _ _ h => h) (Or.inl ⟨by rfl, ?_⟩) hHeld ?_ ?_
 rotate_left
 ·intro w' s0
  go_simp
  with_reducible rfl
 rotate_left
 ·simp only [Act.put, List.setIfInBounds_toArray, List.set_cons_zero, List.set_cons_succ, i64_w, i32_w]
  rfl
 refine pv_ 4 15 ?_
 refine pv_ 5 16 ?_
 refine on_ 6 17 (fun K hK => ?_)
 refine gs_ Try.func74 #[.pointer (some ⟨g, 0, none⟩), .int .i64 (wrap64 ((t531.length : Int) + 2))] rfl ma_ ?_
 with_reducible refine (spec_l1Cur_pick.calls g l0 t534 t535 (wrap64 ((t531.length : Int) + 2)) t537 t538 t539 w _ ?side1 ?side2 A3.out).mono ?_
 (case side1 => exact iS92_2_ NB0_530.out NB0_536.out)
 (case side2 => exact hs3_ (IsS92.ge HI0.out) GE530.out GE536.out)
 rintro e w13 ⟨rfl, hi, hb, hk⟩
 refine ⟨_, rfl, ?_⟩
 replace BK530 := Aside0.mk (KeepBut.blk hk (g' := gb530) (o := .cells #[.slice none 0 0] 31 (0, 0)) (kb_ BK530.out) NB530_0.out (by simp))
 replace HO533 := Aside0.mk (Kd.R_mono (Kd.R_keep (IsS92.apart (show IsS92 w _ g l0 t534 t535 from iS92_2_ NB0_530.out NB0_536.out) (kr_ HO533.out) (by decide)) hk (fun _ h => h.2)) (fun _ h => h.1))
 replace BK536 := Aside0.mk (KeepBut.blk hk (g' := gb536) (o := .cells #[.slice Ao7 t531.length co7] 31 (0, 0)) (kb_ BK536.out) NB536_0.out (by simp))
 replace HK := Aside0.mk (KeepBut.trans (kp2_ GW530.out GW536.out) hk (.inl rfl))
 replace HB := Aside0.mk (hb)
 replace HI0 := Aside0.mk (hi)
 (try clear hb)
 (try clear hb2)
 (try clear hk)
 (try clear hi)
 refine hK.out _ _ (bt_ BK536 0) (fun hHeld => ?_)
 clear hK K
 refine no_ ?_
 refine pv_ 7 18 ?_
 refine one_ (i := 8) (N := none) #[true, true, true, true, true, true, true, true, true, false] rfl rfl (one_of HT_.out (by kernel_rfl)) (by decide) (fun K hK => ?_)
 obtain ⟨hs14, hfs14⟩ := cf1_ BK530.out
 have hns14_1 := NB536_530.out
 have hms14_1 := NB530_536.out
 refine skip_ (w1 := ?_) (by rfl) rfl ?_ ?_
 rotate_left
 ·go_simp
  rfl
 refine hK.out _ _ (((cell_far (p := ⟨gb530, _, none⟩) NB536_530.out _).trans (hHeld))) (fun hHeld => ?_)
 clear hK K
 refine pv_ 9 3 ?_
 refine done_ (done_of HT_.out (by kernel_rfl)) ?_
 try go_wp2
 refine bodyPost_ret (results_ct rfl _ _ gb530 31 #[.slice Ao7 t531.length co7] (0, 0) _ rfl (up_ BK530) Try.underlying31 rfl (by kernel_rfl)) rfl ?_
 exact ⟨_, er_, rF_ (Kd.R_mono (Kd.R_far (p := ⟨gb530, 0, none⟩) (Kd.R_types HO533.out BK530.out (by decide)) (fun _ hk => hk.2) (.slice Ao7 t531.length co7)) (fun _ hk => trivial)), hs3_ (IsS92.ge HI0.out) GE530.out GE536.out⟩

-- NOT PRINTED: function 47 (spec_DrawRecoverFile)

-- NOT PRINTED: function 7 (laws_FnTorn)



/-! ### spec_DrawRecoverFile: function 47 -/
def spec_DrawRecoverFile.f (k : Nat) (l0 : List Int) : Option ((List (S56)) × Int) := (spec_DrawSyncFile.f k l0).bind fun bt499 => (some (bt499.1, bt499.2))
theorem spec_DrawRecoverFile.mono : ∀ a0 k, LeO (spec_DrawRecoverFile.f k a0) (spec_DrawRecoverFile.f (k + 1) a0) := by
 intro a0 k
 unfold spec_DrawRecoverFile.f
 repeat' first
   | (with_reducible first | apply spec_DrawSyncFile.mono | exact LeO.refl _ | exact LeO.none _ | refine LeO.ite ?_ ?_ | refine LeO.bind ?_ (fun _ => ?_))
set_option maxHeartbeats 8000000 in
set_option maxRecDepth 100000 in
theorem spec_DrawRecoverFile.calls (k : Nat) (A0 : Option Addr) (c0 : Nat) (l0 : List Int) (r1 : List (S56)) (r2 : Int) (w : World) (hr0 : Kd.C (Kd.int .u8) w A0 l0.length l0) (hc0 : l0.length ≤ c0) (h : spec_DrawRecoverFile.f k l0 = some (r1, r2)) :
  Calls Try.prog 47 #[.slice A0 l0.length c0] w fun e w' => ∃ v0_ : Value, e = .returned (.tuple #[.agg #[v0_], .int .i64 r2]) ∧ Kd.R k56 56 w' w.heap.size (fun _ => True) v0_ r1 ∧ Below w.heap.size w w' := by
 have hu31 := Try.underlying31
 have HR0 := Aside0.mk hr0
 have HC0 := Aside0.mk hc0
 clear hr0 hc0
 have HB := Aside0.mk (Below.refl w.heap.size w)
 have H : ((spec_DrawSyncFile.f k l0).bind fun bt499 => (some (bt499.1, bt499.2))) = some (r1, r2) := h
 clear h
 replace H := bnd_ H
 obtain ⟨⟨t499, t502⟩, A2, H⟩ := H
 replace H := red_ H
 simp only [Option.some.injEq, Prod.mk.injEq] at H
 obtain ⟨rfl, rfl⟩ := H
 go_enter Try.func47, Try.ntmps47
 go_wp2_with (first | ((with_reducible refine gate_dst (N := 2) rfl ?_); refine bq_ (N := 2) #[.slice none 0 0] 31 ?_; intro gb498 hg w3 BK498 hb; have GE498 := ge_ hg; replace HB := nb_ hb; clear hb hg) | ((with_reducible refine gate_callee (f := 36) rfl ?_); refine gl_ 5 Try.func36 #[.slice A0 l0.length c0] rfl ma_ ?_; (with_reducible refine (spec_DrawSyncFile.calls k _ _ l0 t499 t502 _ ?side1 ?side2 A2.out).mono ?_); (case side1 => exact cs_ ((Kd.C_below HR0.out HB.out))); (case side2 => exact HC0.out); rintro e w4 ⟨v500, rfl, ho0, hb⟩; refine ⟨_, rfl, ?_⟩; have HO501 := Aside0.mk (Kd.R_lower ho0 (below_size (hs_ GE498.out))); replace BK498 := bK_ BK498 hb; replace HB := nc_ GE498 hb; (try clear hb); (try clear hb2); (try clear hk); (try clear hi); (try clear ho0); obtain ⟨Ao5, co5, eo5⟩ := Kd.R_slice HO501.out; subst eo5; obtain ⟨hcz6_0, hfz6_0⟩ := cf1_ BK498.out))
 refine bodyPost_ret (results_ct rfl _ _ gb498 31 #[.slice Ao5 t499.length co5] (0, 0) _ rfl (up_ BK498) Try.underlying31 rfl (by kernel_rfl)) rfl ?_
 exact ⟨_, er_, rF_ (Kd.R_mono (Kd.R_far (p := ⟨gb498, 0, none⟩) (Kd.R_types HO501.out BK498.out (by decide)) (fun _ hk => hk.2) (.slice Ao5 t499.length co5)) (fun _ hk => trivial)), hs_ GE498.out⟩
end Go.Proofs.Ytpdpipfkllfhmaa.QFnTorn
