/- Functions that one statement reaches: of each a plain function, and the proof that calls come to it. Conditions: those that each contract names. Written by a program of this repository. -/
import Derived.Test.YtojdaolclcmalaaVPlayAsksa
import Derived.Test.YtojdaolclcmalaaQFnExactPlayAsksx2
import Derived.Test.YtojdaolclcmalaaQFnExactPlayAsksx4
namespace Go.Proofs.Ytojdaolclcmalaa.QFnExactPlayAsks
open Go.RowKit Go.Proofs.YtojdaolclcmalaaW.PrintWords Go.Proofs.YtojdaolclcmalaaW.PrintLast Go.Proofs.YtojdaolclcmalaaW.PrintMore
attribute [local go_sem] max2_int min2_int max_two min_two max_three min_three max_four min_four Go.Proofs.YtojdaolclcmalaaW.PrintMore2.isSome_setCell   -- for this text's walks alone
set_option linter.unusedVariables false
set_option linter.unusedSimpArgs false

/-! ### laws_eqIntS: function 23 -/
def laws_eqIntS.l0 : Nat → List Int → List Int → Int → Option (Bool)
 | 0, _, _, _ => none
 | k + 1, x0, x1, x5 => if x5 < (x0.length : Int) then (if 0 ≤ x5 then (if x5 < (x1.length : Int) then (if (rd x0 x5) = (rd x1 x5) then (laws_eqIntS.l0 k x0 x1 (wrap64 (x5 + 1))) else (some false)) else (none)) else (none)) else (some true)
def laws_eqIntS.f (k : Nat) (l0 : List Int) (l1 : List Int) : Option (Bool) := if (l0.length : Int) = (l1.length : Int) then (laws_eqIntS.l0 k l0 l1 0) else (some false)
theorem laws_eqIntS.mono_l : ∀ k, (∀ y0 y1 y2, LeO (laws_eqIntS.l0 k y0 y1 y2) (laws_eqIntS.l0 (k + 1) y0 y1 y2))
 | 0 => fun _ _ _ r h => by simp [laws_eqIntS.l0] at h
 | k + 1 => by
  have ih0 := laws_eqIntS.mono_l k
  ·intro y0 y1 y2
   unfold laws_eqIntS.l0
   repeat' first
   | (with_reducible first | apply ih0 | exact LeO.refl _ | exact LeO.none _ | refine LeO.ite ?_ ?_ | refine LeO.bind ?_ (fun _ => ?_))
theorem laws_eqIntS.mono : ∀ a0 a1 k, LeO (laws_eqIntS.f k a0 a1) (laws_eqIntS.f (k + 1) a0 a1) := by
 intro a0 a1 k
 have ih0 := laws_eqIntS.mono_l k
 unfold laws_eqIntS.f
 repeat' first
   | (with_reducible first | apply ih0 | exact LeO.refl _ | exact LeO.none _ | refine LeO.ite ?_ ?_ | refine LeO.bind ?_ (fun _ => ?_))
set_option maxHeartbeats 8000000 in
set_option maxRecDepth 100000 in
theorem laws_eqIntS.calls (k : Nat) (A0 : Option Addr) (c0 : Nat) (l0 : List Int) (A1 : Option Addr) (c1 : Nat) (l1 : List Int) (r : Bool) (w : World) (hr0 : Kd.C (Kd.int .i64) w A0 l0.length l0) (hc0 : l0.length ≤ c0) (hr1 : Kd.C (Kd.int .i64) w A1 l1.length l1) (hc1 : l1.length ≤ c1) (h : laws_eqIntS.f k l0 l1 = some r) :
  Calls Try.prog 23 #[.slice A0 l0.length c0, .slice A1 l1.length c1] w fun e w' => e = .returned (.bool r) ∧ Drawn0 w w' := by
 have HR0 := am_ hr0
 have HC0 := am_ hc0
 clear hr0 hc0
 have HR1 := am_ hr1
 have HC1 := am_ hc1
 clear hr1 hc1
 have H : (if (l0.length : Int) = (l1.length : Int) then (laws_eqIntS.l0 k l0 l1 0) else (some false)) = some r := h
 clear h
 replace H := ite_ H
 obtain ⟨c3, H⟩ | ⟨c3, H⟩ := H
 rotate_left
 ·have c3b0 : ((l0.length : Int) == (l1.length : Int)) = false := beq_eq_false_iff_ne.mpr c3
  have c3b1 : ((l0.length : Int) != (l1.length : Int)) = true := bne_iff_ne.mpr c3
  have c3b2 : (l0.length == l1.length) = false := by first | simpa using c3 | (simp at c3 ⊢; omega)
  obtain rfl := Option.some.inj H
  go_enter Try.func23, Try.ntmps23
  go_wp2
  repeat (go_quiet (fail); try go_wp2)
  go_ret
  exact ⟨by first | rfl | (simp; done) | (simp [*]; done), dr_⟩
 have c3b0 : ((l0.length : Int) == (l1.length : Int)) = true := beq_iff_eq.mpr c3
 have c3b1 : ((l0.length : Int) != (l1.length : Int)) = false := bne_eq_false_iff_eq.mpr c3
 have c3b2 : (l0.length == l1.length) = true := by first | simpa using c3 | (simp at c3 ⊢; omega)
 clear c3
 have H' := am_ H
 clear H
 go_enter Try.func23, Try.ntmps23
 go_wp2
 repeat (go_quiet (fail); try go_wp2)
 go_loopg [5] k (fun kq v5 w' => ∃ (x5_1 : Int), v5 = .int .i64 x5_1 ∧ Aside0 (laws_eqIntS.l0 kq l0 l1 x5_1 = some r) ∧ Aside0 (kq ≤ k) ∧ Drawn0 w w')
 case atStart => exact ⟨(0), sr_, H', ⟨Nat.le_refl _⟩, dr_⟩
 case round =>
  clear H'
  try clear c1
  try clear c3
  try clear c3b0
  try clear c3b1
  try clear c3b2
  obtain ⟨x5_1, rfl, HA, HK1, ⟨m1, rfl⟩⟩ := hrel
  cases gk with
  | zero => exact absurd HA.out (by simp [laws_eqIntS.l0])
  | succ k1 =>
   have H := HA.out
   clear HA
   simp only [laws_eqIntS.l0] at H
   replace H := ite_ H
   obtain ⟨c4, H⟩ | ⟨c4, H⟩ := H
   rotate_left
   ·have c4b0 := decide_eq_false c4
    clear c4
    obtain rfl := Option.some.inj H
    go_wp2
    repeat (go_quiet (fail); try go_wp2)
    go_ret
    exact ⟨by first | rfl | (simp; done) | (simp [*]; done), dr_⟩
   have c4b0 := decide_eq_true c4
   clear c4
   replace H := ifs_ H
   obtain ⟨c5, H⟩ := H
   have c5b0 := decide_eq_true c5
   clear c5
   replace H := ifs_ H
   obtain ⟨c6, H⟩ := H
   have c6b0 := decide_eq_true c6
   clear c6
   replace H := ite_ H
   obtain ⟨c7, H⟩ | ⟨c7, H⟩ := H
   rotate_left
   ·have c7b0 : ((rd l0 x5_1) == (rd l1 x5_1)) = false := beq_eq_false_iff_ne.mpr c7
    have c7b1 : ((rd l0 x5_1) != (rd l1 x5_1)) = true := bne_iff_ne.mpr c7
    obtain rfl := Option.some.inj H
    have p361 : 0 ≤ (x5_1 : Int) := oa_
    have q361 : x5_1 < (l0.length : Int) := oa_
    obtain ⟨ad361, e361, hx361_0⟩ := Kd.at_int HR0.out x5_1 p361 q361
    cases e361
    replace p361 := eq_true p361
    replace q361 := eq_true q361
    have p362 : 0 ≤ (x5_1 : Int) := oa_
    have q362 : x5_1 < (l1.length : Int) := oa_
    obtain ⟨ad362, e362, hx362_0⟩ := Kd.at_int HR1.out x5_1 p362 q362
    cases e362
    replace p362 := eq_true p362
    replace q362 := eq_true q362
    go_wp2
    repeat (go_quiet (fail); try go_wp2)
    go_ret
    exact ⟨by first | rfl | (simp; done) | (simp [*]; done), dr_⟩
   have c7b0 : ((rd l0 x5_1) == (rd l1 x5_1)) = true := beq_iff_eq.mpr c7
   have c7b1 : ((rd l0 x5_1) != (rd l1 x5_1)) = false := bne_eq_false_iff_eq.mpr c7
   clear c7
   have H' := am_ H
   clear H
   have p361 : 0 ≤ (x5_1 : Int) := oa_
   have q361 : x5_1 < (l0.length : Int) := oa_
   obtain ⟨ad361, e361, hx361_0⟩ := Kd.at_int HR0.out x5_1 p361 q361
   cases e361
   replace p361 := eq_true p361
   replace q361 := eq_true q361
   have p362 : 0 ≤ (x5_1 : Int) := oa_
   have q362 : x5_1 < (l1.length : Int) := oa_
   obtain ⟨ad362, e362, hx362_0⟩ := Kd.at_int HR1.out x5_1 p362 q362
   cases e362
   replace p362 := eq_true p362
   replace q362 := eq_true q362
   go_wp2
   repeat (go_quiet (fail); try go_wp2)
   go_roundg k1
   case measure => have := HK1.out; omega
   case rel => exact ⟨(wrap64 (x5_1 + 1)), sr_, H', ⟨by have := HK1.out; omega⟩, dr_⟩

/-! ### laws_eqAsk: function 33 -/
def laws_eqAsk.f (k : Nat) (a0_0 : Int) (a0_1 : Int) (a0_2 : Int) (l0_3 : List ByteArray) (a1_0 : Int) (a1_1 : Int) (a1_2 : Int) (l1_3 : List ByteArray) : Option (Bool) := if a0_0 = a1_0 then (if a0_1 = a1_1 then (if a0_2 = a1_2 then ((laws_eqStringS.f k l0_3 l1_3).bind fun t365 => (if t365 = true then (some true) else (some false))) else (some false)) else (some false)) else (some false)
theorem laws_eqAsk.mono : ∀ a0 a1 a2 a3 a4 a5 a6 a7 k, LeO (laws_eqAsk.f k a0 a1 a2 a3 a4 a5 a6 a7) (laws_eqAsk.f (k + 1) a0 a1 a2 a3 a4 a5 a6 a7) := by
 intro a0 a1 a2 a3 a4 a5 a6 a7 k
 unfold laws_eqAsk.f
 repeat' first
   | (with_reducible first | apply laws_eqStringS.mono | exact LeO.refl _ | exact LeO.none _ | refine LeO.ite ?_ ?_ | refine LeO.bind ?_ (fun _ => ?_))
set_option maxHeartbeats 8000000 in
set_option maxRecDepth 100000 in
theorem laws_eqAsk.calls (k : Nat) (a0_0 : Int) (a0_1 : Int) (a0_2 : Int) (A0_3 : Option Addr) (c0_3 : Nat) (l0_3 : List ByteArray) (a1_0 : Int) (a1_1 : Int) (a1_2 : Int) (A1_3 : Option Addr) (c1_3 : Nat) (l1_3 : List ByteArray) (r : Bool) (w : World) (hr0_3 : Kd.C Kd.string w A0_3 l0_3.length l0_3) (hc0_3 : l0_3.length ≤ c0_3) (hr1_3 : Kd.C Kd.string w A1_3 l1_3.length l1_3) (hc1_3 : l1_3.length ≤ c1_3) (h : laws_eqAsk.f k a0_0 a0_1 a0_2 l0_3 a1_0 a1_1 a1_2 l1_3 = some r) :
  Calls Try.prog 33 #[.agg #[.int .i64 a0_0, .int .i64 a0_1, .int .i64 a0_2, .slice A0_3 l0_3.length c0_3], .agg #[.int .i64 a1_0, .int .i64 a1_1, .int .i64 a1_2, .slice A1_3 l1_3.length c1_3]] w fun e w' => e = .returned (.bool r) ∧ Below w.heap.size w w' := by
 have hu57 := Try.underlying57
 have HR0_3 := am_ hr0_3
 have HC0_3 := am_ hc0_3
 clear hr0_3 hc0_3
 have HR1_3 := am_ hr1_3
 have HC1_3 := am_ hc1_3
 clear hr1_3 hc1_3
 have HB := am_ (Below.refl w.heap.size w)
 have H : (if a0_0 = a1_0 then (if a0_1 = a1_1 then (if a0_2 = a1_2 then ((laws_eqStringS.f k l0_3 l1_3).bind fun t365 => (if t365 = true then (some true) else (some false))) else (some false)) else (some false)) else (some false)) = some r := h
 clear h
 replace H := ite_ H
 obtain ⟨c3, H⟩ | ⟨c3, H⟩ := H
 rotate_left
 ·have c3b0 : (a0_0 == a1_0) = false := beq_eq_false_iff_ne.mpr c3
  have c3b1 : (a0_0 != a1_0) = true := bne_iff_ne.mpr c3
  obtain rfl := Option.some.inj H
  go_enter Try.func33, Try.ntmps33
  go_wp2_with (first | ((with_reducible refine gate_dst (N := 2) rfl ?_); refine bq_ (N := 2) #[.int .i64 a0_0, .int .i64 a0_1, .int .i64 a0_2, .slice A0_3 l0_3.length c0_3] 57 ?_; intro gb363 hg w28 BK363 hb; have GE363 := ge_ hg; replace HB := nb_ hb; clear hb hg) | ((with_reducible refine gate_dst (N := 3) rfl ?_); refine bq_ (N := 3) #[.int .i64 a1_0, .int .i64 a1_1, .int .i64 a1_2, .slice A1_3 l1_3.length c1_3] 57 ?_; intro gb364 hg w29 BK364 hb; have GE364 := ge1_ hg GE363; replace HB := nc_ GE363 hb; have NB363_364 := nl_ BK363 hg; have NB364_363 := ng_ BK363 hg; replace BK363 := bK_ BK363 hb; clear hb hg; have hnb30 := NB363_364.out; have hnc30 := NB364_363.out; obtain ⟨hcz31_0, hcz31_1, hcz31_2, hcz31_3, hfz31_0, hfz31_1, hfz31_2, hfz31_3⟩ := cf4_ BK363.out; obtain ⟨hcz32_0, hcz32_1, hcz32_2, hcz32_3, hfz32_0, hfz32_1, hfz32_2, hfz32_3⟩ := cf4_ BK364.out))
  go_ret
  exact ⟨er_, hs2_ GE363.out GE364.out⟩
 have c3b0 : (a0_0 == a1_0) = true := beq_iff_eq.mpr c3
 have c3b1 : (a0_0 != a1_0) = false := bne_eq_false_iff_eq.mpr c3
 clear c3
 replace H := ite_ H
 obtain ⟨c4, H⟩ | ⟨c4, H⟩ := H
 rotate_left
 ·have c4b0 : (a0_1 == a1_1) = false := beq_eq_false_iff_ne.mpr c4
  have c4b1 : (a0_1 != a1_1) = true := bne_iff_ne.mpr c4
  obtain rfl := Option.some.inj H
  go_enter Try.func33, Try.ntmps33
  go_wp2_with (first | ((with_reducible refine gate_dst (N := 2) rfl ?_); refine bq_ (N := 2) #[.int .i64 a0_0, .int .i64 a0_1, .int .i64 a0_2, .slice A0_3 l0_3.length c0_3] 57 ?_; intro gb363 hg w23 BK363 hb; have GE363 := ge_ hg; replace HB := nb_ hb; clear hb hg) | ((with_reducible refine gate_dst (N := 3) rfl ?_); refine bq_ (N := 3) #[.int .i64 a1_0, .int .i64 a1_1, .int .i64 a1_2, .slice A1_3 l1_3.length c1_3] 57 ?_; intro gb364 hg w24 BK364 hb; have GE364 := ge1_ hg GE363; replace HB := nc_ GE363 hb; have NB363_364 := nl_ BK363 hg; have NB364_363 := ng_ BK363 hg; replace BK363 := bK_ BK363 hb; clear hb hg; have hnb25 := NB363_364.out; have hnc25 := NB364_363.out; obtain ⟨hcz26_0, hcz26_1, hcz26_2, hcz26_3, hfz26_0, hfz26_1, hfz26_2, hfz26_3⟩ := cf4_ BK363.out; obtain ⟨hcz27_0, hcz27_1, hcz27_2, hcz27_3, hfz27_0, hfz27_1, hfz27_2, hfz27_3⟩ := cf4_ BK364.out))
  go_ret
  exact ⟨er_, hs2_ GE363.out GE364.out⟩
 have c4b0 : (a0_1 == a1_1) = true := beq_iff_eq.mpr c4
 have c4b1 : (a0_1 != a1_1) = false := bne_eq_false_iff_eq.mpr c4
 clear c4
 replace H := ite_ H
 obtain ⟨c5, H⟩ | ⟨c5, H⟩ := H
 rotate_left
 ·have c5b0 : (a0_2 == a1_2) = false := beq_eq_false_iff_ne.mpr c5
  have c5b1 : (a0_2 != a1_2) = true := bne_iff_ne.mpr c5
  obtain rfl := Option.some.inj H
  go_enter Try.func33, Try.ntmps33
  go_wp2_with (first | ((with_reducible refine gate_dst (N := 2) rfl ?_); refine bq_ (N := 2) #[.int .i64 a0_0, .int .i64 a0_1, .int .i64 a0_2, .slice A0_3 l0_3.length c0_3] 57 ?_; intro gb363 hg w18 BK363 hb; have GE363 := ge_ hg; replace HB := nb_ hb; clear hb hg) | ((with_reducible refine gate_dst (N := 3) rfl ?_); refine bq_ (N := 3) #[.int .i64 a1_0, .int .i64 a1_1, .int .i64 a1_2, .slice A1_3 l1_3.length c1_3] 57 ?_; intro gb364 hg w19 BK364 hb; have GE364 := ge1_ hg GE363; replace HB := nc_ GE363 hb; have NB363_364 := nl_ BK363 hg; have NB364_363 := ng_ BK363 hg; replace BK363 := bK_ BK363 hb; clear hb hg; have hnb20 := NB363_364.out; have hnc20 := NB364_363.out; obtain ⟨hcz21_0, hcz21_1, hcz21_2, hcz21_3, hfz21_0, hfz21_1, hfz21_2, hfz21_3⟩ := cf4_ BK363.out; obtain ⟨hcz22_0, hcz22_1, hcz22_2, hcz22_3, hfz22_0, hfz22_1, hfz22_2, hfz22_3⟩ := cf4_ BK364.out))
  go_ret
  exact ⟨er_, hs2_ GE363.out GE364.out⟩
 have c5b0 : (a0_2 == a1_2) = true := beq_iff_eq.mpr c5
 have c5b1 : (a0_2 != a1_2) = false := bne_eq_false_iff_eq.mpr c5
 clear c5
 replace H := bnd_ H
 obtain ⟨t365, A6, H⟩ := H
 replace H := ifb_ H
 obtain ⟨rfl, H⟩ | ⟨rfl, H⟩ := H
 ·obtain rfl := Option.some.inj H
  go_enter Try.func33, Try.ntmps33
  go_wp2_with (first | ((with_reducible refine gate_dst (N := 2) rfl ?_); refine bq_ (N := 2) #[.int .i64 a0_0, .int .i64 a0_1, .int .i64 a0_2, .slice A0_3 l0_3.length c0_3] 57 ?_; intro gb363 hg w8 BK363 hb; have GE363 := ge_ hg; replace HB := nb_ hb; clear hb hg) | ((with_reducible refine gate_dst (N := 3) rfl ?_); refine bq_ (N := 3) #[.int .i64 a1_0, .int .i64 a1_1, .int .i64 a1_2, .slice A1_3 l1_3.length c1_3] 57 ?_; intro gb364 hg w9 BK364 hb; have GE364 := ge1_ hg GE363; replace HB := nc_ GE363 hb; have NB363_364 := nl_ BK363 hg; have NB364_363 := ng_ BK363 hg; replace BK363 := bK_ BK363 hb; clear hb hg; have hnb10 := NB363_364.out; have hnc10 := NB364_363.out; obtain ⟨hcz11_0, hcz11_1, hcz11_2, hcz11_3, hfz11_0, hfz11_1, hfz11_2, hfz11_3⟩ := cf4_ BK363.out; obtain ⟨hcz12_0, hcz12_1, hcz12_2, hcz12_3, hfz12_0, hfz12_1, hfz12_2, hfz12_3⟩ := cf4_ BK364.out) | ((with_reducible refine gate_callee (f := 14) rfl ?_); refine gl_ 24 Try.func14 #[.slice A0_3 l0_3.length c0_3, .slice A1_3 l1_3.length c1_3] rfl ma_ ?_; (with_reducible refine (laws_eqStringS.calls k _ _ l0_3 _ _ l1_3 true _ ?side1 ?side2 ?side3 ?side4 A6.out).mono ?_); (case side1 => exact cs_ ((Kd.C_below HR0_3.out HB.out))); (case side2 => exact HC0_3.out); (case side3 => exact cs_ ((Kd.C_below HR1_3.out HB.out))); (case side4 => exact HC1_3.out); rintro e w' ⟨rfl, ⟨nd, rfl⟩⟩; refine ⟨_, rfl, ?_⟩))
  go_ret
  exact ⟨er_, hs2_ GE363.out GE364.out⟩
 obtain rfl := Option.some.inj H
 go_enter Try.func33, Try.ntmps33
 go_wp2_with (first | ((with_reducible refine gate_dst (N := 2) rfl ?_); refine bq_ (N := 2) #[.int .i64 a0_0, .int .i64 a0_1, .int .i64 a0_2, .slice A0_3 l0_3.length c0_3] 57 ?_; intro gb363 hg w13 BK363 hb; have GE363 := ge_ hg; replace HB := nb_ hb; clear hb hg) | ((with_reducible refine gate_dst (N := 3) rfl ?_); refine bq_ (N := 3) #[.int .i64 a1_0, .int .i64 a1_1, .int .i64 a1_2, .slice A1_3 l1_3.length c1_3] 57 ?_; intro gb364 hg w14 BK364 hb; have GE364 := ge1_ hg GE363; replace HB := nc_ GE363 hb; have NB363_364 := nl_ BK363 hg; have NB364_363 := ng_ BK363 hg; replace BK363 := bK_ BK363 hb; clear hb hg; have hnb15 := NB363_364.out; have hnc15 := NB364_363.out; obtain ⟨hcz16_0, hcz16_1, hcz16_2, hcz16_3, hfz16_0, hfz16_1, hfz16_2, hfz16_3⟩ := cf4_ BK363.out; obtain ⟨hcz17_0, hcz17_1, hcz17_2, hcz17_3, hfz17_0, hfz17_1, hfz17_2, hfz17_3⟩ := cf4_ BK364.out) | ((with_reducible refine gate_callee (f := 14) rfl ?_); refine gl_ 24 Try.func14 #[.slice A0_3 l0_3.length c0_3, .slice A1_3 l1_3.length c1_3] rfl ma_ ?_; (with_reducible refine (laws_eqStringS.calls k _ _ l0_3 _ _ l1_3 false _ ?side1 ?side2 ?side3 ?side4 A6.out).mono ?_); (case side1 => exact cs_ ((Kd.C_below HR0_3.out HB.out))); (case side2 => exact HC0_3.out); (case side3 => exact cs_ ((Kd.C_below HR1_3.out HB.out))); (case side4 => exact HC1_3.out); rintro e w' ⟨rfl, ⟨nd, rfl⟩⟩; refine ⟨_, rfl, ?_⟩))
 go_ret
 exact ⟨er_, hs2_ GE363.out GE364.out⟩

/-! ### laws_eqAskS: function 24 -/
def laws_eqAskS.l0 : Nat → List (S57) → List (S57) → Int → Option (Bool)
 | 0, _, _, _ => none
 | k + 1, x0, x1, x5 => if x5 < (x0.length : Int) then (if 0 ≤ x5 then (if x5 < (x1.length : Int) then ((laws_eqAsk.f k ((rd_T57 x0 x5).f0) ((rd_T57 x0 x5).f1) ((rd_T57 x0 x5).f2) ((rd_T57 x0 x5).f3) ((rd_T57 x1 x5).f0) ((rd_T57 x1 x5).f1) ((rd_T57 x1 x5).f2) ((rd_T57 x1 x5).f3)).bind fun t368 => (if t368 = true then (laws_eqAskS.l0 k x0 x1 (wrap64 (x5 + 1))) else (some false))) else (none)) else (none)) else (some true)
def laws_eqAskS.f (k : Nat) (l0 : List (S57)) (l1 : List (S57)) : Option (Bool) := if (l0.length : Int) = (l1.length : Int) then (laws_eqAskS.l0 k l0 l1 0) else (some false)
theorem laws_eqAskS.mono_l : ∀ k, (∀ y0 y1 y2, LeO (laws_eqAskS.l0 k y0 y1 y2) (laws_eqAskS.l0 (k + 1) y0 y1 y2))
 | 0 => fun _ _ _ r h => by simp [laws_eqAskS.l0] at h
 | k + 1 => by
  have ih0 := laws_eqAskS.mono_l k
  ·intro y0 y1 y2
   unfold laws_eqAskS.l0
   repeat' first
   | (with_reducible first | apply ih0 | apply laws_eqAsk.mono | exact LeO.refl _ | exact LeO.none _ | refine LeO.ite ?_ ?_ | refine LeO.bind ?_ (fun _ => ?_))
theorem laws_eqAskS.mono : ∀ a0 a1 k, LeO (laws_eqAskS.f k a0 a1) (laws_eqAskS.f (k + 1) a0 a1) := by
 intro a0 a1 k
 have ih0 := laws_eqAskS.mono_l k
 unfold laws_eqAskS.f
 repeat' first
   | (with_reducible first | apply ih0 | apply laws_eqAsk.mono | exact LeO.refl _ | exact LeO.none _ | refine LeO.ite ?_ ?_ | refine LeO.bind ?_ (fun _ => ?_))
def laws_eqAskS.T6 : Bool × List (List Nat × List Nat) := (true, [([], []), ([], []), ([0, 1], [0, 1]), ([2], [2]), ([], []), ([], []), ([4, 5], [4, 5]), ([6], [6]), ([3, 7], [3, 7]), ([8], [8])])
def laws_eqAskS.B6 : List Nat := [0, 0, 3, 7, 0, 0, 48, 112, 255, 511]
theorem laws_eqAskS.tab6 : rtab .any (opsOf Try.f24 6) = laws_eqAskS.T6 := by kernel_rfl
theorem laws_eqAskS.bits6 : waitsOk laws_eqAskS.T6.2 laws_eqAskS.B6 = true := by kernel_rfl
set_option maxHeartbeats 8000000 in
set_option maxRecDepth 100000 in
theorem laws_eqAskS.calls (k : Nat) (A0 : Option Addr) (c0 : Nat) (l0 : List (S57)) (A1 : Option Addr) (c1 : Nat) (l1 : List (S57)) (r : Bool) (w : World) (hr0 : Kd.C k57 w A0 l0.length l0) (hc0 : l0.length ≤ c0) (hr1 : Kd.C k57 w A1 l1.length l1) (hc1 : l1.length ≤ c1) (h : laws_eqAskS.f k l0 l1 = some r) :
  Calls Try.prog 24 #[.slice A0 l0.length c0, .slice A1 l1.length c1] w fun e w' => e = .returned (.bool r) ∧ Below w.heap.size w w' := by
 have hu57 := Try.underlying57
 have HR0 := am_ hr0
 have HC0 := am_ hc0
 clear hr0 hc0
 have HR1 := am_ hr1
 have HC1 := am_ hc1
 clear hr1 hc1
 have HB := am_ (Below.refl w.heap.size w)
 have H : (if (l0.length : Int) = (l1.length : Int) then (laws_eqAskS.l0 k l0 l1 0) else (some false)) = some r := h
 clear h
 replace H := ite_ H
 obtain ⟨c3, H⟩ | ⟨c3, H⟩ := H
 rotate_left
 ·have c3b0 : ((l0.length : Int) == (l1.length : Int)) = false := beq_eq_false_iff_ne.mpr c3
  have c3b1 : ((l0.length : Int) != (l1.length : Int)) = true := bne_iff_ne.mpr c3
  have c3b2 : (l0.length == l1.length) = false := by first | simpa using c3 | (simp at c3 ⊢; omega)
  obtain rfl := Option.some.inj H
  go_enter Try.func24, Try.ntmps24
  go_wp2
  go_ret
  exact ⟨er_, hb_⟩
 have c3b0 : ((l0.length : Int) == (l1.length : Int)) = true := beq_iff_eq.mpr c3
 have c3b1 : ((l0.length : Int) != (l1.length : Int)) = false := bne_eq_false_iff_eq.mpr c3
 have c3b2 : (l0.length == l1.length) = true := by first | simpa using c3 | (simp at c3 ⊢; omega)
 clear c3
 have H' := am_ H
 clear H
 go_enter Try.func24, Try.ntmps24
 go_wp2
 go_loopg [5] k (fun kq v5 w' => ∃ (x5_1 : Int), v5 = .int .i64 x5_1 ∧ Aside0 (laws_eqAskS.l0 kq l0 l1 x5_1 = some r) ∧ Aside0 (kq ≤ k) ∧ Aside0 (Below w.heap.size w w'))
 case atStart => exact ⟨(0), sr_, H', ⟨Nat.le_refl _⟩, ⟨hb_⟩⟩
 case round =>
  clear H'
  try clear c1
  try clear c3
  try clear c3b0
  try clear c3b1
  try clear c3b2
  obtain ⟨x5_1, rfl, HA, HK1, HB⟩ := hrel
  cases gk with
  | zero => exact absurd HA.out (by simp [laws_eqAskS.l0])
  | succ k1 =>
   have H := HA.out
   clear HA
   simp only [laws_eqAskS.l0] at H
   replace H := ite_ H
   obtain ⟨c4, H⟩ | ⟨c4, H⟩ := H
   rotate_left
   ·have c4b0 := decide_eq_false c4
    clear c4
    obtain rfl := Option.some.inj H
    go_wp2
    go_ret
    exact ⟨er_, hb_⟩
   have c4b0 := decide_eq_true c4
   clear c4
   replace H := ifs_ H
   obtain ⟨c5, H⟩ := H
   have c5b0 := decide_eq_true c5
   clear c5
   replace H := ifs_ H
   obtain ⟨c6, H⟩ := H
   have c6b0 := decide_eq_true c6
   clear c6
   replace H := bnd_ H
   obtain ⟨t368, A7, H⟩ := H
   replace H := ifb_ H
   obtain ⟨rfl, H⟩ | ⟨rfl, H⟩ := H
   rotate_left
   ·obtain rfl := Option.some.inj H
    try go_wp2
    replace HB := qH_ HB
    have p366 : 0 ≤ (x5_1 : Int) := oa_
    have q366 : x5_1 < (l0.length : Int) := oa_
    obtain ⟨ad366, A366_3, c366_3, e366, hx366_0, hx366_1, hx366_2, hx366_3, hl366_3, hi366_3⟩ := at_T57 HR0.out x5_1 p366 q366
    have hw366_3 := hx366_3
    have hw366_2 := hx366_2
    have hw366_1 := hx366_1
    have hw366_0 := hx366_0
    cases e366
    replace hx366_0 := pc_ HB.out hx366_0
    replace hx366_1 := pc_ HB.out hx366_1
    replace hx366_2 := pc_ HB.out hx366_2
    replace hx366_3 := pc_ HB.out hx366_3
    have HR366_3 := am_ hi366_3
    have HC366_3 := am_ hl366_3
    clear hi366_3 hl366_3
    replace p366 := eq_true p366
    replace q366 := eq_true q366
    have p367 : 0 ≤ (x5_1 : Int) := oa_
    have q367 : x5_1 < (l1.length : Int) := oa_
    obtain ⟨ad367, A367_3, c367_3, e367, hx367_0, hx367_1, hx367_2, hx367_3, hl367_3, hi367_3⟩ := at_T57 HR1.out x5_1 p367 q367
    have hw367_3 := hx367_3
    have hw367_2 := hx367_2
    have hw367_1 := hx367_1
    have hw367_0 := hx367_0
    cases e367
    replace hx367_0 := pc_ HB.out hx367_0
    replace hx367_1 := pc_ HB.out hx367_1
    replace hx367_2 := pc_ HB.out hx367_2
    replace hx367_3 := pc_ HB.out hx367_3
    have HR367_3 := am_ hi367_3
    have HC367_3 := am_ hl367_3
    clear hi367_3 hl367_3
    replace p367 := eq_true p367
    replace q367 := eq_true q367
    refine start_ (n := 10) (S := fun w' => w'.cell? (ad366.add ((x5_1).toNat * 4)) = some (.int .i64 ((rd_T57 l0 x5_1).f0)) ∧ w'.cell? ⟨(ad366.add ((x5_1).toNat * 4)).block, (ad366.add ((x5_1).toNat * 4)).off + 1, none⟩ = some (.int .i64 ((rd_T57 l0 x5_1).f1)) ∧ w'.cell? ⟨(ad366.add ((x5_1).toNat * 4)).block, (ad366.add ((x5_1).toNat * 4)).off + 2, none⟩ = some (.int .i64 ((rd_T57 l0 x5_1).f2)) ∧ w'.cell? ⟨(ad366.add ((x5_1).toNat * 4)).block, (ad366.add ((x5_1).toNat * 4)).off + 3, none⟩ = some (.slice A366_3 ((rd_T57 l0 x5_1).f3).length c366_3) ∧ w'.cell? (ad367.add ((x5_1).toNat * 4)) = some (.int .i64 ((rd_T57 l1 x5_1).f0)) ∧ w'.cell? ⟨(ad367.add ((x5_1).toNat * 4)).block, (ad367.add ((x5_1).toNat * 4)).off + 1, none⟩ = some (.int .i64 ((rd_T57 l1 x5_1).f1)) ∧ w'.cell? ⟨(ad367.add ((x5_1).toNat * 4)).block, (ad367.add ((x5_1).toNat * 4)).off + 2, none⟩ = some (.int .i64 ((rd_T57 l1 x5_1).f2)) ∧ w'.cell? ⟨(ad367.add ((x5_1).toNat * 4)).block, (ad367.add ((x5_1).toNat * 4)).off + 3, none⟩ = some (.slice A367_3 ((rd_T57 l1 x5_1).f3).length c367_3)) (ds := []) (List.replicate 10 false).toArray (by kernel_rfl) rfl rfl ⟨(pc_ HB.out hw366_0), (pc_ HB.out hw366_1), (pc_ HB.out hw366_2), (pc_ HB.out hw366_3), (pc_ HB.out hw367_0), (pc_ HB.out hw367_1), (pc_ HB.out hw367_2), (pc_ HB.out hw367_3)⟩ (fun hHeld => ?_); refine with_tabW laws_eqAskS.tab6 laws_eqAskS.bits6 (fun HT_ HW_ => ?_)
    generalize wr.drew = w11 at HB HR366_3 HR367_3 hx366_0 hx366_1 hx366_2 hx366_3 hx367_0 hx367_1 hx367_2 hx367_3 hHeld ⊢
    refine pv_ 0 17 ?_
    refine pv_ 1 18 ?_
    refine pv_ 2 19 ?_
    refine pv_ 4 21 ?_
    refine pv_ 5 22 ?_
    refine pv_ 6 23 ?_
    refine tk_ 3 20 ?_
    refine tk_ 7 24 ?_
    refine on_ 8 25 (fun K hK => ?_)
    refine gs_ Try.func33 #[.agg #[.int .i64 ((rd_T57 l0 x5_1).f0), .int .i64 ((rd_T57 l0 x5_1).f1), .int .i64 ((rd_T57 l0 x5_1).f2), .slice A366_3 ((rd_T57 l0 x5_1).f3).length c366_3], .agg #[.int .i64 ((rd_T57 l1 x5_1).f0), .int .i64 ((rd_T57 l1 x5_1).f1), .int .i64 ((rd_T57 l1 x5_1).f2), .slice A367_3 ((rd_T57 l1 x5_1).f3).length c367_3]] rfl ma_ ?_
    with_reducible refine (laws_eqAsk.calls k1 ((rd_T57 l0 x5_1).f0) ((rd_T57 l0 x5_1).f1) ((rd_T57 l0 x5_1).f2) _ _ ((rd_T57 l0 x5_1).f3) ((rd_T57 l1 x5_1).f0) ((rd_T57 l1 x5_1).f1) ((rd_T57 l1 x5_1).f2) _ _ ((rd_T57 l1 x5_1).f3) false _ ?side1 ?side2 ?side3 ?side4 A7.out).mono ?_
    (case side1 => exact cs_ ((Kd.C_below HR366_3.out HB.out)))
    (case side2 => exact HC366_3.out)
    (case side3 => exact cs_ ((Kd.C_below HR367_3.out HB.out)))
    (case side4 => exact HC367_3.out)
    rintro e w12 ⟨rfl, hb⟩
    refine ⟨_, rfl, ?_⟩
    replace HB := nb_ hb
    (try clear hb)
    (try clear hb2)
    (try clear hk)
    (try clear hi)
    refine hK.out _ _ ⟨(pc_ HB.out hw366_0), (pc_ HB.out hw366_1), (pc_ HB.out hw366_2), (pc_ HB.out hw366_3), (pc_ HB.out hw367_0), (pc_ HB.out hw367_1), (pc_ HB.out hw367_2), (pc_ HB.out hw367_3)⟩ (fun hHeld => ?_)
    clear hK K
    refine no_ ?_
    refine pv_ 9 26 ?_
    refine done_ (done_of HT_.out (by kernel_rfl)) ?_
    try go_wp2
    go_ret
    exact ⟨er_, hb_⟩
   have H' := am_ H
   clear H
   try go_wp2
   replace HB := qH_ HB
   have p366 : 0 ≤ (x5_1 : Int) := oa_
   have q366 : x5_1 < (l0.length : Int) := oa_
   obtain ⟨ad366, A366_3, c366_3, e366, hx366_0, hx366_1, hx366_2, hx366_3, hl366_3, hi366_3⟩ := at_T57 HR0.out x5_1 p366 q366
   have hw366_3 := hx366_3
   have hw366_2 := hx366_2
   have hw366_1 := hx366_1
   have hw366_0 := hx366_0
   cases e366
   replace hx366_0 := pc_ HB.out hx366_0
   replace hx366_1 := pc_ HB.out hx366_1
   replace hx366_2 := pc_ HB.out hx366_2
   replace hx366_3 := pc_ HB.out hx366_3
   have HR366_3 := am_ hi366_3
   have HC366_3 := am_ hl366_3
   clear hi366_3 hl366_3
   replace p366 := eq_true p366
   replace q366 := eq_true q366
   have p367 : 0 ≤ (x5_1 : Int) := oa_
   have q367 : x5_1 < (l1.length : Int) := oa_
   obtain ⟨ad367, A367_3, c367_3, e367, hx367_0, hx367_1, hx367_2, hx367_3, hl367_3, hi367_3⟩ := at_T57 HR1.out x5_1 p367 q367
   have hw367_3 := hx367_3
   have hw367_2 := hx367_2
   have hw367_1 := hx367_1
   have hw367_0 := hx367_0
   cases e367
   replace hx367_0 := pc_ HB.out hx367_0
   replace hx367_1 := pc_ HB.out hx367_1
   replace hx367_2 := pc_ HB.out hx367_2
   replace hx367_3 := pc_ HB.out hx367_3
   have HR367_3 := am_ hi367_3
   have HC367_3 := am_ hl367_3
   clear hi367_3 hl367_3
   replace p367 := eq_true p367
   replace q367 := eq_true q367
   refine start_ (n := 10) (S := fun w' => w'.cell? (ad366.add ((x5_1).toNat * 4)) = some (.int .i64 ((rd_T57 l0 x5_1).f0)) ∧ w'.cell? ⟨(ad366.add ((x5_1).toNat * 4)).block, (ad366.add ((x5_1).toNat * 4)).off + 1, none⟩ = some (.int .i64 ((rd_T57 l0 x5_1).f1)) ∧ w'.cell? ⟨(ad366.add ((x5_1).toNat * 4)).block, (ad366.add ((x5_1).toNat * 4)).off + 2, none⟩ = some (.int .i64 ((rd_T57 l0 x5_1).f2)) ∧ w'.cell? ⟨(ad366.add ((x5_1).toNat * 4)).block, (ad366.add ((x5_1).toNat * 4)).off + 3, none⟩ = some (.slice A366_3 ((rd_T57 l0 x5_1).f3).length c366_3) ∧ w'.cell? (ad367.add ((x5_1).toNat * 4)) = some (.int .i64 ((rd_T57 l1 x5_1).f0)) ∧ w'.cell? ⟨(ad367.add ((x5_1).toNat * 4)).block, (ad367.add ((x5_1).toNat * 4)).off + 1, none⟩ = some (.int .i64 ((rd_T57 l1 x5_1).f1)) ∧ w'.cell? ⟨(ad367.add ((x5_1).toNat * 4)).block, (ad367.add ((x5_1).toNat * 4)).off + 2, none⟩ = some (.int .i64 ((rd_T57 l1 x5_1).f2)) ∧ w'.cell? ⟨(ad367.add ((x5_1).toNat * 4)).block, (ad367.add ((x5_1).toNat * 4)).off + 3, none⟩ = some (.slice A367_3 ((rd_T57 l1 x5_1).f3).length c367_3)) (ds := []) (List.replicate 10 false).toArray (by kernel_rfl) rfl rfl ⟨(pc_ HB.out hw366_0), (pc_ HB.out hw366_1), (pc_ HB.out hw366_2), (pc_ HB.out hw366_3), (pc_ HB.out hw367_0), (pc_ HB.out hw367_1), (pc_ HB.out hw367_2), (pc_ HB.out hw367_3)⟩ (fun hHeld => ?_); refine with_tabW laws_eqAskS.tab6 laws_eqAskS.bits6 (fun HT_ HW_ => ?_)
   generalize wr.drew = w9 at HB HR366_3 HR367_3 hx366_0 hx366_1 hx366_2 hx366_3 hx367_0 hx367_1 hx367_2 hx367_3 hHeld ⊢
   refine pv_ 0 17 ?_
   refine pv_ 1 18 ?_
   refine pv_ 2 19 ?_
   refine pv_ 4 21 ?_
   refine pv_ 5 22 ?_
   refine pv_ 6 23 ?_
   refine tk_ 3 20 ?_
   refine tk_ 7 24 ?_
   refine on_ 8 25 (fun K hK => ?_)
   refine gs_ Try.func33 #[.agg #[.int .i64 ((rd_T57 l0 x5_1).f0), .int .i64 ((rd_T57 l0 x5_1).f1), .int .i64 ((rd_T57 l0 x5_1).f2), .slice A366_3 ((rd_T57 l0 x5_1).f3).length c366_3], .agg #[.int .i64 ((rd_T57 l1 x5_1).f0), .int .i64 ((rd_T57 l1 x5_1).f1), .int .i64 ((rd_T57 l1 x5_1).f2), .slice A367_3 ((rd_T57 l1 x5_1).f3).length c367_3]] rfl ma_ ?_
   with_reducible refine (laws_eqAsk.calls k1 ((rd_T57 l0 x5_1).f0) ((rd_T57 l0 x5_1).f1) ((rd_T57 l0 x5_1).f2) _ _ ((rd_T57 l0 x5_1).f3) ((rd_T57 l1 x5_1).f0) ((rd_T57 l1 x5_1).f1) ((rd_T57 l1 x5_1).f2) _ _ ((rd_T57 l1 x5_1).f3) true _ ?side1 ?side2 ?side3 ?side4 A7.out).mono ?_
   (case side1 => exact cs_ ((Kd.C_below HR366_3.out HB.out)))
   (case side2 => exact HC366_3.out)
   (case side3 => exact cs_ ((Kd.C_below HR367_3.out HB.out)))
   (case side4 => exact HC367_3.out)
   rintro e w10 ⟨rfl, hb⟩
   refine ⟨_, rfl, ?_⟩
   replace HB := nb_ hb
   (try clear hb)
   (try clear hb2)
   (try clear hk)
   (try clear hi)
   refine hK.out _ _ ⟨(pc_ HB.out hw366_0), (pc_ HB.out hw366_1), (pc_ HB.out hw366_2), (pc_ HB.out hw366_3), (pc_ HB.out hw367_0), (pc_ HB.out hw367_1), (pc_ HB.out hw367_2), (pc_ HB.out hw367_3)⟩ (fun hHeld => ?_)
   clear hK K
   refine no_ ?_
   refine pv_ 9 26 ?_
   refine done_ (done_of HT_.out (by kernel_rfl)) ?_
   try go_wp2
   go_roundg k1
   case measure => have := HK1.out; omega
   case rel => exact ⟨(wrap64 (x5_1 + 1)), sr_, H', ⟨by have := HK1.out; omega⟩, ⟨hb_⟩⟩

/-! ### laws_markAskS: function 25 -/
def laws_markAskS.l0 : Nat → List S57 → Int → Nat → Option (Int × List S57)
 | 0, _, _, _ => none
 | k + 1, x, m, i => if i < x.length then (laws_markStringS.f k (x.getD i z57).f3 (wrap64 ((wrap64 ((wrap64 (m + 1)) + 1)) + 1))).bind fun t => laws_markAskS.l0 k (x.set i ⟨m, (wrap64 (m + 1)), (wrap64 ((wrap64 (m + 1)) + 1)), t.2⟩) t.1 (i + 1) else some (m, x)
def laws_markAskS.f (k : Nat) (l0 : List S57) (a1 : Int) : Option (Int × List S57) := laws_markAskS.l0 k l0 a1 0
theorem laws_markAskS.mono_l : ∀ k x m i, LeO (laws_markAskS.l0 k x m i) (laws_markAskS.l0 (k + 1) x m i)
 | 0, _, _, _ => fun r h => by simp [laws_markAskS.l0] at h
 | k + 1, x, m, i => by
  rw [laws_markAskS.l0, laws_markAskS.l0]
  exact LeO.ite (LeO.bind (laws_markStringS.mono _ _ _) (fun _ => laws_markAskS.mono_l k _ _ _)) (LeO.refl _)
theorem laws_markAskS.mono : ∀ a0 a1 k, LeO (laws_markAskS.f k a0 a1) (laws_markAskS.f (k + 1) a0 a1) := fun a0 a1 k => laws_markAskS.mono_l k a0 a1 0
theorem laws_markAskS.put {e base g n cap : Nat} {ok oki : Nat → Prop} {W : World} {xs : List S57} {i : Nat} {c : List Value} (h : Kd.H k57 e W base ok (.slice (some ⟨g, 0, none⟩) n cap) xs (i : Int) oki c) (h1 : (i : Int) < n) (j : Nat) (hj : j < 4) (u : Value) (hu : u.oneCell' = true) :
  Kd.H k57 e (W.setCell ⟨g, i * 4 + j, none⟩ u) base ok (.slice (some ⟨g, 0, none⟩) n cap) xs (i : Int) oki (c.take j ++ [u] ++ c.drop (j + 1)) ∧ W.grownBy (W.setCell ⟨g, i * 4 + j, none⟩ u) (some g) :=
 Kd.H_seg h (by omega) h1 (seg := [u]) (j := j) (show j + 1 ≤ 4 from hj) (fun q hq => by rw [List.mem_singleton.1 hq]; exact hu)
set_option maxHeartbeats 8000000 in
set_option maxRecDepth 100000 in
theorem laws_markAskS.calls (k : Nat) (P0_ : Nat → Prop) (u : Value) (l0 : List S57) (a1 : Int) (r1 : Int) (r2 : List S57) (w0 w : World) (hB : Below w0.heap.size w0 w) (ho0 : Kd.S k57 57 w w0.heap.size P0_ u l0) (h : laws_markAskS.f k l0 a1 = some (r1, r2)) :
  Calls Try.prog 25 #[u, .int .i64 a1] w fun e w' => e = .returned (.int .i64 r1) ∧ Kd.S k57 57 w' w0.heap.size P0_ u r2 ∧ Below w0.heap.size w0 w' ∧ Kept w w' P0_ := by
 obtain ⟨A, c, rfl, hc0, hC0⟩ := Kd.S_reads ho0
 have hbig : l0.length ≤ 9223372036854775807 := hC0.2.1
 clear hC0
 have HO := am_ ho0
 have HB := am_ hB
 have HH := am_ h
 clear ho0 hB h
 go_enter Try.func25, Try.ntmps25
 go_wp2
 go_loopg [1, 5] k (fun kq v1 v5 wr => ∃ (x : List S57) (m : Int) (i : Nat), v1 = .int .i64 m ∧ v5 = .int .i64 i ∧ i ≤ l0.length ∧ Aside0 (x.length = l0.length) ∧ Aside0 (laws_markAskS.l0 kq x m i = some (r1, r2)) ∧ Aside0 (kq ≤ k) ∧ Aside0 (Kd.S k57 57 wr w0.heap.size P0_ (.slice A l0.length c) x) ∧ Aside0 (Kept w wr P0_) ∧ Aside0 (Below w0.heap.size w0 wr))
 case atStart => exact ⟨l0, a1, 0, rfl, rfl, Nat.zero_le _, ⟨rfl⟩, HH, ⟨Nat.le_refl _⟩, HO, ⟨Kept.refl _ _⟩, HB⟩
 case round =>
  clear HO HB HH
  obtain ⟨x, m, i, rfl, rfl, hi, HL, HA, HK, HO, HP, HB⟩ := hrel
  cases gk with
  | zero => exact absurd HA.out (by simp [laws_markAskS.l0])
  | succ k1 =>
   have hA := HA.out
   clear HA
   rw [laws_markAskS.l0] at hA
   by_cases hlt : i < l0.length
   ·have hltz : (i : Int) < (l0.length : Int) := by omega
    rw [if_pos (by rw [HL.out]; exact hlt)] at hA
    obtain ⟨t, h1, h2⟩ := Option.bind_eq_some_iff.1 hA
    have H1 := am_ h1
    have H2 := am_ h2
    clear hA h1 h2
    obtain ⟨g, cap, eg, hgb, _⟩ := Kd.S_form HO.out (by rw [HL.out]; omega)
    injection eg with eg1 eg2 eg3
    subst eg1
    clear eg2 eg3
    have HGB := am_ hgb
    have HPG := am_ ((Kd.S_R HO.out).1 g (by simp [Value.ownBlock]))
    clear hgb
    obtain ⟨oki, cs, _, hM, hcc, hfr, hoki, hH⟩ := Kd.S_elem HO.out z57 (i : Int) (by omega) hltz
    rw [Int.toNat_natCast] at hM
    obtain ⟨ve, rfl, ge⟩ := k57_openM hM
    clear hM
    obtain ⟨Ai, ci, rfl⟩ := Kd.R_slice ge
    have hci : ∀ j u_, j < 4 → [.int .i64 (x.getD i z57).f0, .int .i64 (x.getD i z57).f1, .int .i64 (x.getD i z57).f2, .slice Ai (x.getD i z57).f3.length ci][j]? = some u_ → wr.cell? ⟨g, i * 4 + j, none⟩ = some u_ := fun j u_ _ hu => hcc j u_ hu
    have hfi : ∀ j, wr.frozen? ⟨g, i * 4 + j, none⟩ = false := fun j => hfr (i * 4 + j) |> fun h_ => by first | exact h_ | exact hfr j
    have GE := am_ ge
    have HI := am_ hH
    have HQ := am_ hoki
    clear hcc hfr hH ge hoki
    have hc0 : wr.cell? ⟨g, i * 4, none⟩ = some (.int .i64 (x.getD i z57).f0) := hci 0 _ (by decide) rfl
    have hf0 : wr.frozen? ⟨g, i * 4, none⟩ = false := hfi 0
    have hc1 : wr.cell? ⟨g, i * 4 + 1, none⟩ = some (.int .i64 (x.getD i z57).f1) := hci 1 _ (by decide) rfl
    have hf1 : wr.frozen? ⟨g, i * 4 + 1, none⟩ = false := hfi 1
    have hc2 : wr.cell? ⟨g, i * 4 + 2, none⟩ = some (.int .i64 (x.getD i z57).f2) := hci 2 _ (by decide) rfl
    have hf2 : wr.frozen? ⟨g, i * 4 + 2, none⟩ = false := hfi 2
    have hc3 : wr.cell? ⟨g, i * 4 + 3, none⟩ = some (.slice Ai (x.getD i z57).f3.length ci) := hci 3 _ (by decide) rfl
    clear hci hfi
    go_wp2_with fail
    have P0 := laws_markAskS.put HI.out hltz 0 (by decide) (.int .i64 m) rfl
    have P1 := laws_markAskS.put P0.1 hltz 1 (by decide) (.int .i64 (wrap64 (m + 1))) rfl
    have P2 := laws_markAskS.put P1.1 hltz 2 (by decide) (.int .i64 (wrap64 ((wrap64 (m + 1)) + 1))) rfl
    have HG := am_ (show wr.grownBy _ (some g) from (World.grownBy.trans (World.grownBy.trans P0.2 P1.2) P2.2))
    have HI2 := am_ P2.1
    clear P0 P1 P2
    refine (laws_markStringS.calls k1 oki (.slice Ai (x.getD i z57).f3.length ci) (x.getD i z57).f3 (wrap64 ((wrap64 ((wrap64 (m + 1)) + 1)) + 1)) t.1 t.2 w0 _ (pw_below_grown HB.out (some g) HB.out.size HG.out (fun k_ e_ => by obtain rfl := Option.some.inj e_; exact HGB.out)) (Kd.R_grown GE.out HG.out (fun k_ hk_ e_ => (HQ.out k_ hk_).2 (Option.some.inj e_))) H1.out).mono ?_
    rintro e w2 ⟨rfl, hy, hb2, hkp⟩
    have HY := am_ hy
    have HB2 := am_ hb2
    have HKP := am_ hkp
    clear hy hb2 hkp
    have HS := am_ (Kd.H_back (Kd.H_step HI2.out (fun k_ _ hn hlt_ => HKP.out.2 k_ hlt_ hn)) (x' := ⟨m, (wrap64 (m + 1)), (wrap64 ((wrap64 (m + 1)) + 1)), t.2⟩) (okp := oki) (k57_mkM w2 w0.heap.size oki ⟨m, (wrap64 (m + 1)), (wrap64 ((wrap64 (m + 1)) + 1)), t.2⟩ (Kd.R_reok rfl HY.out (fun k_ e_ => GE.out.1 k_ e_))) (fun _ h_ => h_))
    have HP2 := am_ (Kept.then_ (Kept.of_grown HG.out HP.out (fun k_ e_ => .inl (by obtain rfl := Option.some.inj e_; exact HPG.out))) HKP.out (fun k_ h_ => .inl (HQ.out k_ h_).1))
    clear HI HI2 HY HKP GE HP HB HO HQ HG HPG HGB
    go_wp2_with fail
    go_roundg k1
    case measure => have := HK.out; omega
    case rel => exact ⟨x.set i ⟨m, (wrap64 (m + 1)), (wrap64 ((wrap64 (m + 1)) + 1)), t.2⟩, t.1, i + 1, rfl, by go_num, by omega, ⟨by rw [List.length_set]; exact HL.out⟩, H2, ⟨by have := HK.out; omega⟩, HS, HP2, HB2⟩
   ·have hltz : ¬ (i : Int) < (l0.length : Int) := by omega
    have hil : i = l0.length := by omega
    subst hil
    rw [if_neg (by rw [HL.out]; omega)] at hA
    have H2 := am_ (Prod.mk.inj (Option.some.inj hA))
    clear hA
    go_wp2
    go_ret
    exact ⟨by rw [H2.out.1]; rfl, by rw [← H2.out.2]; exact HO.out, HB.out, HP.out⟩



/-! ### laws_markIntS: function 26 -/
def laws_markIntS.l0 : Nat → List Int → Int → Int → Option (Int × List Int)
 | 0, _, _, _ => none
 | k + 1, x0, x1, x5 => if x5 < (x0.length : Int) then (if 0 ≤ x5 then (laws_markIntS.l0 k (x0.set (x5 : Int).toNat x1) (wrap64 (x1 + 1)) (wrap64 (x5 + 1))) else (none)) else (some (x1, x0))
def laws_markIntS.f (k : Nat) (l0 : List Int) (a1 : Int) : Option (Int × List Int) := laws_markIntS.l0 k l0 a1 0
theorem laws_markIntS.mono_l : ∀ k, (∀ y0 y1 y2, LeO (laws_markIntS.l0 k y0 y1 y2) (laws_markIntS.l0 (k + 1) y0 y1 y2))
 | 0 => fun _ _ _ r h => by simp [laws_markIntS.l0] at h
 | k + 1 => by
  have ih0 := laws_markIntS.mono_l k
  ·intro y0 y1 y2
   unfold laws_markIntS.l0
   repeat' first
   | (with_reducible first | apply ih0 | exact LeO.refl _ | exact LeO.none _ | refine LeO.ite ?_ ?_ | refine LeO.bind ?_ (fun _ => ?_))
theorem laws_markIntS.mono : ∀ a0 a1 k, LeO (laws_markIntS.f k a0 a1) (laws_markIntS.f (k + 1) a0 a1) := by
 intro a0 a1 k
 have ih0 := laws_markIntS.mono_l k
 unfold laws_markIntS.f
 repeat' first
   | (with_reducible first | apply ih0 | exact LeO.refl _ | exact LeO.none _ | refine LeO.ite ?_ ?_ | refine LeO.bind ?_ (fun _ => ?_))
set_option maxHeartbeats 8000000 in
set_option maxRecDepth 100000 in
theorem laws_markIntS.calls (k : Nat) (P0_ : Nat → Prop) (u9000_ : Value) (l0 : List Int) (a1 : Int) (r1 : Int) (r2 : List Int) (w0 w : World) (hB : Below w0.heap.size w0 w) (ho0 : Kd.R (Kd.int .i64) 3 w w0.heap.size P0_ u9000_ l0) (h : laws_markIntS.f k l0 a1 = some (r1, r2)) :
  Calls Try.prog 26 #[u9000_, .int .i64 a1] w fun e w' => e = .returned (.int .i64 r1) ∧ Kd.R (Kd.int .i64) 3 w' w0.heap.size (fun k_ => (P0_ k_ ∨ w.heap.size ≤ k_)) u9000_ r2 ∧ Below w0.heap.size w0 w' ∧ Kept w w' (fun k_ => P0_ k_) := by
 have HO0 := am_ (show Kd.R (Kd.int .i64) 3 w w0.heap.size (fun k_ => (P0_ k_ ∨ w.heap.size ≤ k_)) u9000_ l0 from Kd.R_mono ho0 (fun k_ hk => (.inl hk)))
 have HK := am_ (Kept.refl w (fun k_ => P0_ k_))
 have HW0 := am_ hB.size
 have HB := am_ hB
 clear hB
 have H : (laws_markIntS.l0 k l0 a1 0) = some (r1, r2) := h
 clear h
 have H' := am_ H
 clear H
 go_enter Try.func26, Try.ntmps26
 go_wp2
 go_loopg [1, 5] k (fun kq v1 v5 w' => ∃ (x0_1 : List Int) (x1_1 : Int) (x5_1 : Int), v1 = .int .i64 x1_1 ∧ v5 = .int .i64 x5_1 ∧ Aside0 (laws_markIntS.l0 kq x0_1 x1_1 x5_1 = some (r1, r2)) ∧ Aside0 (kq ≤ k) ∧ Aside0 (Kd.R (Kd.int .i64) 3 w' w0.heap.size (fun k_ => (P0_ k_ ∨ w.heap.size ≤ k_)) u9000_ x0_1) ∧ Aside0 (Kept w w' (fun k_ => P0_ k_)) ∧ Aside0 (Below w0.heap.size w0 w'))
 case atStart => exact ⟨(l0), (a1), (0), sr_, sr_, H', ⟨Nat.le_refl _⟩, ⟨kr_ HO0.out⟩, ⟨by repeat (first | (with_reducible first | exact HK.out | apply Kept.alloc | apply Kept.drewN | apply Kept.drew) | exact HK.out)⟩, ⟨hb_⟩⟩
 case round =>
  clear H'
  obtain ⟨x0_1, x1_1, x5_1, rfl, rfl, HA, HK1, HO_0, HK, HB⟩ := hrel
  cases gk with
  | zero => exact absurd HA.out (by simp [laws_markIntS.l0])
  | succ k1 =>
   have H := HA.out
   clear HA
   simp only [laws_markIntS.l0] at H
   replace H := ite_ H
   obtain ⟨c3, H⟩ | ⟨c3, H⟩ := H
   rotate_left
   ·have c3b0 := decide_eq_false c3
    clear c3
    simp only [Option.some.injEq, Prod.mk.injEq] at H
    obtain ⟨rfl, rfl⟩ := H
    obtain ⟨Ao9, co9, eo9⟩ := Kd.R_slice HO_0.out
    subst eo9
    go_wp2
    go_ret
    exact ⟨er_, kr_ HO_0.out, hb_, by repeat (first | (with_reducible first | exact HK.out | apply Kept.alloc | apply Kept.drewN | apply Kept.drew) | exact HK.out)⟩
   have c3b0 := decide_eq_true c3
   clear c3
   replace H := ifs_ H
   obtain ⟨c4, H⟩ := H
   have c4b0 := decide_eq_true c4
   clear c4
   obtain ⟨y369, hy369⟩ : ∃ y_ : List Int, y_ = (x0_1.set (x5_1 : Int).toNat x1_1) := ⟨_, rfl⟩
   replace H : (laws_markIntS.l0 k1 y369 (wrap64 (x1_1 + 1)) (wrap64 (x5_1 + 1))) = some (r1, r2) := by first | (rw [hy369]; with_reducible exact H) | (have H2_ := (Option.bind_some _ _).symm.trans H; rw [hy369]; with_reducible exact H2_) | (have H2_ := (Option.bind_some _ _).symm.trans H; with_reducible exact H2_) | with_reducible exact H | (rw [hy369]; exact H) | exact H
   have Ny369 := am_ hy369
   clear hy369
   have H' := am_ H
   clear H
   obtain ⟨Ao6, co6, eo6⟩ := Kd.R_slice HO_0.out
   subst eo6
   have p5 : 0 ≤ (x5_1 : Int) := oa_
   have q5 : (x5_1 : Int) < ((x0_1.length : Int) : Int) := oa_
   obtain ⟨go5, co5, eo5, gb5, gl5, cl5, HG5⟩ := Kd.R_form HO_0.out (by omega)
   (first | cases eo5 | (injection eo5 with ea_ en_ ec_; (first | subst ea_ | (injection ea_ with ea_; subst ea_)); subst ec_; clear en_))
   have GB5 := am_ gb5
   have GG5 := am_ HG5
   clear gb5 gl5 HG5
   have HMgo5 := am_ (show (P0_ go5 ∨ w.heap.size ≤ go5) from (HO_0.out.1 _ rfl))
   obtain ⟨hx5_0, hf5_0⟩ := Kd.R_celln 0 HO_0.out (x5_1 : Int) p5 q5
   replace p5 := eq_true p5
   replace q5 := eq_true q5
   have HP7 := Kd.R_putg HO_0.out (x5_1 : Int) x1_1
   go_wp2_with (first | ((with_reducible refine gate_store (t := 3) (p := 15) rfl ?_); refine store_event (t := 3) (p := 15) (v := ?vo_w8) (w1 := (wr.setCell ⟨go5, (x5_1 : Int).toNat, none⟩ (.int .i64 x1_1))) ?hg ?ho ?hn ?hr ?_; (case ho => rfl); (case hg => rfl); (case hn => rfl); (case hr => first | (go_simp; done) | (go_simp; rfl)); intro w8 hw; have hg : wr.grownBy w8 (some go5) := (by rw [hw]; exact HP7.2); have hp_ : Kd.R (Kd.int .i64) 3 w8 w0.heap.size (fun k_ => (P0_ k_ ∨ w.heap.size ≤ k_)) (.slice (some ⟨go5, 0, none⟩) x0_1.length co6) y369 := (by rw [hw, Ny369.out]; exact HP7.1); clear HP7; replace HB := am_ ((by rw [hw]; exact below_set (HB.out) GB5.out : Below w0.heap.size w0 w8)); replace HK := am_ (Kept.of_grown (S := (fun k_ => P0_ k_)) hg (by repeat (first | (with_reducible first | exact HK.out | apply Kept.alloc | apply Kept.drewN | apply Kept.drew) | exact HK.out)) (fun k_ e_ => (HO_0.out.1 k_ e_))); replace HO_0 := am_ (hp_); clear hg hw hp_))
   go_roundg k1
   case measure => have := HK1.out; omega
   case rel => exact ⟨(y369), (wrap64 (x1_1 + 1)), (wrap64 (x5_1 + 1)), sr_, sr_, H', ⟨by have := HK1.out; omega⟩, ⟨kr_ HO_0.out⟩, ⟨by repeat (first | (with_reducible first | exact HK.out | apply Kept.alloc | apply Kept.drewN | apply Kept.drew) | exact HK.out)⟩, ⟨hb_⟩⟩
end Go.Proofs.Ytojdaolclcmalaa.QFnExactPlayAsks
