/- Functions that one statement reaches: of each a plain function, and the proof that calls come to it. Conditions: those that each contract names. Written by a program of this repository. -/
import Derived.Test.YtojdaolclcmalaaVRebuildFroma
import Derived.Test.YtojdaolclcmalaaQFnExactRebuildFromx0
namespace Go.Proofs.Ytojdaolclcmalaa.QFnExactRebuildFrom
open Go.RowKit Go.Proofs.YtojdaolclcmalaaW.PrintWords Go.Proofs.YtojdaolclcmalaaW.PrintLast Go.Proofs.YtojdaolclcmalaaW.PrintMore
attribute [local go_sem] max2_int min2_int max_two min_two max_three min_three max_four min_four Go.Proofs.YtojdaolclcmalaaW.PrintMore2.isSome_setCell   -- for this text's walks alone
set_option linter.unusedVariables false
set_option linter.unusedSimpArgs false

/-! ### laws_szStringS: function 61 -/
def laws_szStringS.l0 : Nat → List ByteArray → Int → Int → Option (Int)
 | 0, _, _, _ => none
 | k + 1, x0, x1, x5 => if x5 < (x0.length : Int) then (if 0 ≤ x5 then (if (wrap64 (x1 - ((rdOf ByteArray.empty x0 x5).size : Int))) < 0 then (some (-1)) else (laws_szStringS.l0 k x0 (wrap64 (x1 - ((rdOf ByteArray.empty x0 x5).size : Int))) (wrap64 (x5 + 1)))) else (none)) else (some x1)
def laws_szStringS.f (k : Nat) (l0 : List ByteArray) (a1 : Int) : Option (Int) := if (wrap64 (a1 - (l0.length : Int))) < 0 then (some (-1)) else (laws_szStringS.l0 k l0 (wrap64 (a1 - (l0.length : Int))) 0)
theorem laws_szStringS.mono_l : ∀ k, (∀ y0 y1 y2, LeO (laws_szStringS.l0 k y0 y1 y2) (laws_szStringS.l0 (k + 1) y0 y1 y2))
 | 0 => fun _ _ _ r h => by simp [laws_szStringS.l0] at h
 | k + 1 => by
  have ih0 := laws_szStringS.mono_l k
  ·intro y0 y1 y2
   unfold laws_szStringS.l0
   repeat' first
   | (with_reducible first | apply ih0 | exact LeO.refl _ | exact LeO.none _ | refine LeO.ite ?_ ?_ | refine LeO.bind ?_ (fun _ => ?_))
theorem laws_szStringS.mono : ∀ a0 a1 k, LeO (laws_szStringS.f k a0 a1) (laws_szStringS.f (k + 1) a0 a1) := by
 intro a0 a1 k
 have ih0 := laws_szStringS.mono_l k
 unfold laws_szStringS.f
 repeat' first
   | (with_reducible first | apply ih0 | exact LeO.refl _ | exact LeO.none _ | refine LeO.ite ?_ ?_ | refine LeO.bind ?_ (fun _ => ?_))
set_option maxHeartbeats 8000000 in
set_option maxRecDepth 100000 in
theorem laws_szStringS.calls (k : Nat) (A0 : Option Addr) (c0 : Nat) (l0 : List ByteArray) (a1 : Int) (r : Int) (w : World) (hr0 : Kd.C Kd.string w A0 l0.length l0) (hc0 : l0.length ≤ c0) (h : laws_szStringS.f k l0 a1 = some r) :
  Calls Try.prog 61 #[.slice A0 l0.length c0, .int .i64 a1] w fun e w' => e = .returned (.int .i64 r) ∧ Drawn0 w w' := by
 have HR0 := Aside0.mk hr0
 have HC0 := Aside0.mk hc0
 clear hr0 hc0
 have H : (if (wrap64 (a1 - (l0.length : Int))) < 0 then (some (-1)) else (laws_szStringS.l0 k l0 (wrap64 (a1 - (l0.length : Int))) 0)) = some r := h
 clear h
 replace H := ite_ H
 obtain ⟨c3, H⟩ | ⟨c3, H⟩ := H
 ·have c3b0 := decide_eq_true c3
  clear c3
  obtain rfl := Option.some.inj H
  go_enter Try.func61, Try.ntmps61
  go_wp2
  go_ret
  exact ⟨by first | rfl | (simp; done) | (simp [*]; done), dr_⟩
 have c3b0 := decide_eq_false c3
 clear c3
 have H' := Aside0.mk H
 clear H
 go_enter Try.func61, Try.ntmps61
 go_wp2
 go_loopg [1, 5] k (fun kq v1 v5 w' => ∃ (x1_1 : Int) (x5_1 : Int), v1 = .int .i64 x1_1 ∧ v5 = .int .i64 x5_1 ∧ Aside0 (laws_szStringS.l0 kq l0 x1_1 x5_1 = some r) ∧ Aside0 (kq ≤ k) ∧ Drawn0 w w')
 case atStart => exact ⟨(wrap64 (a1 - (l0.length : Int))), (0), sr_, sr_, H', ⟨Nat.le_refl _⟩, dr_⟩
 case round =>
  clear H'
  try clear c3
  try clear c3b0
  obtain ⟨x1_1, x5_1, rfl, rfl, HA, HK1, ⟨m1, rfl⟩⟩ := hrel
  cases gk with
  | zero => exact absurd HA.out (by simp [laws_szStringS.l0])
  | succ k1 =>
   have H := HA.out
   clear HA
   simp only [laws_szStringS.l0] at H
   replace H := ite_ H
   obtain ⟨c4, H⟩ | ⟨c4, H⟩ := H
   rotate_left
   ·have c4b0 := decide_eq_false c4
    clear c4
    obtain rfl := Option.some.inj H
    go_wp2
    go_ret
    exact ⟨by first | rfl | (simp; done) | (simp [*]; done), dr_⟩
   have c4b0 := decide_eq_true c4
   clear c4
   replace H := ifs_ H
   obtain ⟨c5, H⟩ := H
   have c5b0 := decide_eq_true c5
   clear c5
   replace H := ite_ H
   obtain ⟨c6, H⟩ | ⟨c6, H⟩ := H
   ·have c6b0 := decide_eq_true c6
    clear c6
    obtain rfl := Option.some.inj H
    have p151 : 0 ≤ (x5_1 : Int) := oa_
    have q151 : x5_1 < (l0.length : Int) := oa_
    obtain ⟨ad151, e151, hx151_0⟩ := Kd.at_string HR0.out x5_1 p151 q151
    cases e151
    replace p151 := eq_true p151
    replace q151 := eq_true q151
    go_wp2
    go_ret
    exact ⟨by first | rfl | (simp; done) | (simp [*]; done), dr_⟩
   have c6b0 := decide_eq_false c6
   clear c6
   have H' := Aside0.mk H
   clear H
   have p151 : 0 ≤ (x5_1 : Int) := oa_
   have q151 : x5_1 < (l0.length : Int) := oa_
   obtain ⟨ad151, e151, hx151_0⟩ := Kd.at_string HR0.out x5_1 p151 q151
   cases e151
   replace p151 := eq_true p151
   replace q151 := eq_true q151
   go_wp2
   go_roundg k1
   case measure => have := HK1.out; omega
   case rel => exact ⟨(wrap64 (x1_1 - ((rdOf ByteArray.empty l0 x5_1).size : Int))), (wrap64 (x5_1 + 1)), sr_, sr_, H', ⟨by have := HK1.out; omega⟩, dr_⟩

/-! ### laws_szBatch: function 70 -/
def laws_szBatch.f (k : Nat) (a0_0 : Int) (a0_1 : Int) (a0_2 : Int) (a0_3 : Int) (l0_4 : List ByteArray) (a1 : Int) : Option (Int) := (laws_szStringS.f k l0_4 a1).bind fun t153 => (if t153 < 0 then (some (-1)) else (some t153))
theorem laws_szBatch.mono : ∀ a0 a1 a2 a3 a4 a5 k, LeO (laws_szBatch.f k a0 a1 a2 a3 a4 a5) (laws_szBatch.f (k + 1) a0 a1 a2 a3 a4 a5) := by
 intro a0 a1 a2 a3 a4 a5 k
 unfold laws_szBatch.f
 repeat' first
   | (with_reducible first | apply laws_szStringS.mono | exact LeO.refl _ | exact LeO.none _ | refine LeO.ite ?_ ?_ | refine LeO.bind ?_ (fun _ => ?_))
set_option maxHeartbeats 8000000 in
set_option maxRecDepth 100000 in
theorem laws_szBatch.calls (k : Nat) (a0_0 : Int) (a0_1 : Int) (a0_2 : Int) (a0_3 : Int) (A0_4 : Option Addr) (c0_4 : Nat) (l0_4 : List ByteArray) (a1 : Int) (r : Int) (w : World) (hr0_4 : Kd.C Kd.string w A0_4 l0_4.length l0_4) (hc0_4 : l0_4.length ≤ c0_4) (h : laws_szBatch.f k a0_0 a0_1 a0_2 a0_3 l0_4 a1 = some r) :
  Calls Try.prog 70 #[.agg #[.int .i64 a0_0, .int .i64 a0_1, .int .i64 a0_2, .int .i64 a0_3, .slice A0_4 l0_4.length c0_4], .int .i64 a1] w fun e w' => e = .returned (.int .i64 r) ∧ Below w.heap.size w w' := by
 have hu99 := Try.underlying99
 have HR0_4 := Aside0.mk hr0_4
 have HC0_4 := Aside0.mk hc0_4
 clear hr0_4 hc0_4
 have HB := Aside0.mk (Below.refl w.heap.size w)
 have H : ((laws_szStringS.f k l0_4 a1).bind fun t153 => (if t153 < 0 then (some (-1)) else (some t153))) = some r := h
 clear h
 replace H := bnd_ H
 obtain ⟨t153, A3, H⟩ := H
 replace H := ite_ H
 obtain ⟨c4, H⟩ | ⟨c4, H⟩ := H
 ·have c4b0 := decide_eq_true c4
  clear c4
  obtain rfl := Option.some.inj H
  go_enter Try.func70, Try.ntmps70
  go_wp2_with (first | ((with_reducible refine gate_dst (N := 2) rfl ?_); refine bq_ (N := 2) #[.int .i64 a0_0, .int .i64 a0_1, .int .i64 a0_2, .int .i64 a0_3, .slice A0_4 l0_4.length c0_4] 99 ?_; intro gb152 hg w5 BK152 hb; have GE152 := ge_ hg; replace HB := nb_ hb; clear hb hg; obtain ⟨hcz6_0, hcz6_1, hcz6_2, hcz6_3, hcz6_4, hfz6_0, hfz6_1, hfz6_2, hfz6_3, hfz6_4⟩ := cf5_ BK152.out) | ((with_reducible refine gate_callee (f := 61) rfl ?_); refine gl_ 8 Try.func61 #[.slice A0_4 l0_4.length c0_4, .int .i64 a1] rfl ma_ ?_; (with_reducible refine (laws_szStringS.calls k _ _ l0_4 a1 t153 _ ?side1 ?side2 A3.out).mono ?_); (case side1 => exact cs_ ((Kd.C_below HR0_4.out HB.out))); (case side2 => exact HC0_4.out); rintro e w' ⟨rfl, ⟨nd, rfl⟩⟩; refine ⟨_, rfl, ?_⟩))
  go_ret
  exact ⟨er_, hs_ GE152.out⟩
 have c4b0 := decide_eq_false c4
 clear c4
 obtain rfl := Option.some.inj H
 go_enter Try.func70, Try.ntmps70
 go_wp2_with (first | ((with_reducible refine gate_dst (N := 2) rfl ?_); refine bq_ (N := 2) #[.int .i64 a0_0, .int .i64 a0_1, .int .i64 a0_2, .int .i64 a0_3, .slice A0_4 l0_4.length c0_4] 99 ?_; intro gb152 hg w7 BK152 hb; have GE152 := ge_ hg; replace HB := nb_ hb; clear hb hg; obtain ⟨hcz8_0, hcz8_1, hcz8_2, hcz8_3, hcz8_4, hfz8_0, hfz8_1, hfz8_2, hfz8_3, hfz8_4⟩ := cf5_ BK152.out) | ((with_reducible refine gate_callee (f := 61) rfl ?_); refine gl_ 8 Try.func61 #[.slice A0_4 l0_4.length c0_4, .int .i64 a1] rfl ma_ ?_; (with_reducible refine (laws_szStringS.calls k _ _ l0_4 a1 t153 _ ?side1 ?side2 A3.out).mono ?_); (case side1 => exact cs_ ((Kd.C_below HR0_4.out HB.out))); (case side2 => exact HC0_4.out); rintro e w' ⟨rfl, ⟨nd, rfl⟩⟩; refine ⟨_, rfl, ?_⟩))
 go_ret
 exact ⟨er_, hs_ GE152.out⟩

/-! ### laws_szBatchS: function 41 -/
def laws_szBatchS.l0 : Nat → List (S99) → Int → Int → Option (Int)
 | 0, _, _, _ => none
 | k + 1, x0, x1, x5 => if x5 < (x0.length : Int) then (if 0 ≤ x5 then ((laws_szBatch.f k ((rd_T99 x0 x5).f0) ((rd_T99 x0 x5).f1) ((rd_T99 x0 x5).f2) ((rd_T99 x0 x5).f3) ((rd_T99 x0 x5).f4) x1).bind fun t155 => (if t155 < 0 then (some (-1)) else (laws_szBatchS.l0 k x0 t155 (wrap64 (x5 + 1))))) else (none)) else (some x1)
def laws_szBatchS.f (k : Nat) (l0 : List (S99)) (a1 : Int) : Option (Int) := if (wrap64 (a1 - (l0.length : Int))) < 0 then (some (-1)) else (laws_szBatchS.l0 k l0 (wrap64 (a1 - (l0.length : Int))) 0)
theorem laws_szBatchS.mono_l : ∀ k, (∀ y0 y1 y2, LeO (laws_szBatchS.l0 k y0 y1 y2) (laws_szBatchS.l0 (k + 1) y0 y1 y2))
 | 0 => fun _ _ _ r h => by simp [laws_szBatchS.l0] at h
 | k + 1 => by
  have ih0 := laws_szBatchS.mono_l k
  ·intro y0 y1 y2
   unfold laws_szBatchS.l0
   repeat' first
   | (with_reducible first | apply ih0 | apply laws_szBatch.mono | exact LeO.refl _ | exact LeO.none _ | refine LeO.ite ?_ ?_ | refine LeO.bind ?_ (fun _ => ?_))
theorem laws_szBatchS.mono : ∀ a0 a1 k, LeO (laws_szBatchS.f k a0 a1) (laws_szBatchS.f (k + 1) a0 a1) := by
 intro a0 a1 k
 have ih0 := laws_szBatchS.mono_l k
 unfold laws_szBatchS.f
 repeat' first
   | (with_reducible first | apply ih0 | apply laws_szBatch.mono | exact LeO.refl _ | exact LeO.none _ | refine LeO.ite ?_ ?_ | refine LeO.bind ?_ (fun _ => ?_))
set_option maxHeartbeats 8000000 in
set_option maxRecDepth 100000 in
theorem laws_szBatchS.calls (k : Nat) (A0 : Option Addr) (c0 : Nat) (l0 : List (S99)) (a1 : Int) (r : Int) (w : World) (hr0 : Kd.C k99 w A0 l0.length l0) (hc0 : l0.length ≤ c0) (h : laws_szBatchS.f k l0 a1 = some r) :
  Calls Try.prog 41 #[.slice A0 l0.length c0, .int .i64 a1] w fun e w' => e = .returned (.int .i64 r) ∧ Below w.heap.size w w' := by
 have hu99 := Try.underlying99
 have HR0 := Aside0.mk hr0
 have HC0 := Aside0.mk hc0
 clear hr0 hc0
 have HB := Aside0.mk (Below.refl w.heap.size w)
 have H : (if (wrap64 (a1 - (l0.length : Int))) < 0 then (some (-1)) else (laws_szBatchS.l0 k l0 (wrap64 (a1 - (l0.length : Int))) 0)) = some r := h
 clear h
 replace H := ite_ H
 obtain ⟨c3, H⟩ | ⟨c3, H⟩ := H
 ·have c3b0 := decide_eq_true c3
  clear c3
  obtain rfl := Option.some.inj H
  go_enter Try.func41, Try.ntmps41
  go_wp2
  go_ret
  exact ⟨er_, hb_⟩
 have c3b0 := decide_eq_false c3
 clear c3
 have H' := Aside0.mk H
 clear H
 go_enter Try.func41, Try.ntmps41
 go_wp2
 go_loopg [1, 5] k (fun kq v1 v5 w' => ∃ (x1_1 : Int) (x5_1 : Int), v1 = .int .i64 x1_1 ∧ v5 = .int .i64 x5_1 ∧ Aside0 (laws_szBatchS.l0 kq l0 x1_1 x5_1 = some r) ∧ Aside0 (kq ≤ k) ∧ Aside0 (Below w.heap.size w w'))
 case atStart => exact ⟨(wrap64 (a1 - (l0.length : Int))), (0), sr_, sr_, H', ⟨Nat.le_refl _⟩, ⟨hb_⟩⟩
 case round =>
  clear H'
  try clear c3
  try clear c3b0
  obtain ⟨x1_1, x5_1, rfl, rfl, HA, HK1, HB⟩ := hrel
  cases gk with
  | zero => exact absurd HA.out (by simp [laws_szBatchS.l0])
  | succ k1 =>
   have H := HA.out
   clear HA
   simp only [laws_szBatchS.l0] at H
   replace H := ite_ H
   obtain ⟨c4, H⟩ | ⟨c4, H⟩ := H
   rotate_left
   ·have c4b0 := decide_eq_false c4
    clear c4
    obtain rfl := Option.some.inj H
    go_wp2
    go_ret
    exact ⟨er_, hb_⟩
   have c4b0 := decide_eq_true c4
   clear c4
   replace H := ifs_ H
   obtain ⟨c5, H⟩ := H
   have c5b0 := decide_eq_true c5
   clear c5
   replace H := bnd_ H
   obtain ⟨t155, A6, H⟩ := H
   replace H := ite_ H
   obtain ⟨c7, H⟩ | ⟨c7, H⟩ := H
   ·have c7b0 := decide_eq_true c7
    clear c7
    obtain rfl := Option.some.inj H
    have p154 : 0 ≤ (x5_1 : Int) := oa_
    have q154 : x5_1 < (l0.length : Int) := oa_
    obtain ⟨ad154, A154_4, c154_4, e154, hx154_0, hx154_1, hx154_2, hx154_3, hx154_4, hl154_4, hi154_4⟩ := at_T99 HR0.out x5_1 p154 q154
    cases e154
    replace hx154_0 := pc_ HB.out hx154_0
    replace hx154_1 := pc_ HB.out hx154_1
    replace hx154_2 := pc_ HB.out hx154_2
    replace hx154_3 := pc_ HB.out hx154_3
    replace hx154_4 := pc_ HB.out hx154_4
    have HR154_4 := Aside0.mk hi154_4
    have HC154_4 := Aside0.mk hl154_4
    clear hi154_4 hl154_4
    replace p154 := eq_true p154
    replace q154 := eq_true q154
    go_wp2_with (first | ((with_reducible refine gate_callee (f := 70) rfl ?_); refine gl_ 23 Try.func70 #[.agg #[.int .i64 ((rd_T99 l0 x5_1).f0), .int .i64 ((rd_T99 l0 x5_1).f1), .int .i64 ((rd_T99 l0 x5_1).f2), .int .i64 ((rd_T99 l0 x5_1).f3), .slice A154_4 ((rd_T99 l0 x5_1).f4).length c154_4], .int .i64 x1_1] rfl ma_ ?_; (with_reducible refine (laws_szBatch.calls k1 ((rd_T99 l0 x5_1).f0) ((rd_T99 l0 x5_1).f1) ((rd_T99 l0 x5_1).f2) ((rd_T99 l0 x5_1).f3) _ _ ((rd_T99 l0 x5_1).f4) x1_1 t155 _ ?side1 ?side2 A6.out).mono ?_); (case side1 => exact cs_ ((Kd.C_below HR154_4.out HB.out))); (case side2 => exact HC154_4.out); rintro e w8 ⟨rfl, hb⟩; refine ⟨_, rfl, ?_⟩; replace HB := nb_ hb; (try clear hb); (try clear hb2); (try clear hk); (try clear hi)))
    go_ret
    exact ⟨er_, hb_⟩
   have c7b0 := decide_eq_false c7
   clear c7
   have H' := Aside0.mk H
   clear H
   have p154 : 0 ≤ (x5_1 : Int) := oa_
   have q154 : x5_1 < (l0.length : Int) := oa_
   obtain ⟨ad154, A154_4, c154_4, e154, hx154_0, hx154_1, hx154_2, hx154_3, hx154_4, hl154_4, hi154_4⟩ := at_T99 HR0.out x5_1 p154 q154
   cases e154
   replace hx154_0 := pc_ HB.out hx154_0
   replace hx154_1 := pc_ HB.out hx154_1
   replace hx154_2 := pc_ HB.out hx154_2
   replace hx154_3 := pc_ HB.out hx154_3
   replace hx154_4 := pc_ HB.out hx154_4
   have HR154_4 := Aside0.mk hi154_4
   have HC154_4 := Aside0.mk hl154_4
   clear hi154_4 hl154_4
   replace p154 := eq_true p154
   replace q154 := eq_true q154
   go_wp2_with (first | ((with_reducible refine gate_callee (f := 70) rfl ?_); refine gl_ 23 Try.func70 #[.agg #[.int .i64 ((rd_T99 l0 x5_1).f0), .int .i64 ((rd_T99 l0 x5_1).f1), .int .i64 ((rd_T99 l0 x5_1).f2), .int .i64 ((rd_T99 l0 x5_1).f3), .slice A154_4 ((rd_T99 l0 x5_1).f4).length c154_4], .int .i64 x1_1] rfl ma_ ?_; (with_reducible refine (laws_szBatch.calls k1 ((rd_T99 l0 x5_1).f0) ((rd_T99 l0 x5_1).f1) ((rd_T99 l0 x5_1).f2) ((rd_T99 l0 x5_1).f3) _ _ ((rd_T99 l0 x5_1).f4) x1_1 t155 _ ?side1 ?side2 A6.out).mono ?_); (case side1 => exact cs_ ((Kd.C_below HR154_4.out HB.out))); (case side2 => exact HC154_4.out); rintro e w9 ⟨rfl, hb⟩; refine ⟨_, rfl, ?_⟩; replace HB := nb_ hb; (try clear hb); (try clear hb2); (try clear hk); (try clear hi)))
   go_roundg k1
   case measure => have := HK1.out; omega
   case rel => exact ⟨(t155), (wrap64 (x5_1 + 1)), sr_, sr_, H', ⟨by have := HK1.out; omega⟩, ⟨hb_⟩⟩

/-! ### spec_l5Own: function 58 -/
mutual
def spec_l5Own.l0 : Nat → List (S81) → Int → Int → List (S81) → List (S78) → Int → List (S81) → Int → Option ((List (S81)) × (List (S78)) × Int)
 | 0, _, _, _, _, _, _, _, _ => none
 | k + 1, x12, x13, x14, x157000, x157001, x157002, x159000, x159002 => if x14 < x13 then (if 0 ≤ x14 then (if x14 < (x12.length : Int) then ((some (([] : List (S112)) : List (S112))).bind fun y161 => (if y161.length + ((rd_T81 x12 x14).f3).length < 5864062014805 then (if x159000.length < 2932031007402 then (spec_l5Own.l0 k x12 x13 (wrap64 (x14 + 1)) x157000 x157001 x157002 (x159000 ++ [(⟨(rd_T81 x12 x14).f0, (rd_T81 x12 x14).f1, (rd_T81 x12 x14).f2, (y161 ++ ((rd_T81 x12 x14).f3))⟩ : S81)]) x159002) else (none)) else (none))) else (none)) else (none)) else (spec_l5Own.l1 k x157001 (x157001.length : Int) 0 x159000 ([] : List (S78)) x159002)
def spec_l5Own.l1 : Nat → List (S78) → Int → Int → List (S81) → List (S78) → Int → Option ((List (S81)) × (List (S78)) × Int)
 | 0, _, _, _, _, _, _ => none
 | k + 1, x31, x32, x33, x159000, x159001, x159002 => if x33 < x32 then (if 0 ≤ x33 then (if x33 < (x31.length : Int) then ((some (([] : List ByteArray) : List ByteArray)).bind fun y172 => (if y172.length + ((rd_T78 x31 x33).f4).length < 8796093022208 then (if x159001.length < 2513169434916 then (spec_l5Own.l1 k x31 x32 (wrap64 (x33 + 1)) x159000 (x159001 ++ [(⟨(rd_T78 x31 x33).f0, (rd_T78 x31 x33).f1, (rd_T78 x31 x33).f2, (rd_T78 x31 x33).f3, (y172 ++ ((rd_T78 x31 x33).f4))⟩ : S78)]) x159002) else (none)) else (none))) else (none)) else (none)) else (some (x159000, x159001, x159002))
end
def spec_l5Own.f (k : Nat) (l0_0 : List (S81)) (l0_1 : List (S78)) (a0_2 : Int) : Option ((List (S81)) × (List (S78)) × Int) := spec_l5Own.l0 k l0_0 (l0_0.length : Int) 0 l0_0 l0_1 a0_2 ([] : List (S81)) a0_2
theorem spec_l5Own.mono_l : ∀ k, (∀ y0 y1 y2 y3 y4 y5 y6 y7, LeO (spec_l5Own.l0 k y0 y1 y2 y3 y4 y5 y6 y7) (spec_l5Own.l0 (k + 1) y0 y1 y2 y3 y4 y5 y6 y7)) ∧ (∀ y0 y1 y2 y3 y4 y5, LeO (spec_l5Own.l1 k y0 y1 y2 y3 y4 y5) (spec_l5Own.l1 (k + 1) y0 y1 y2 y3 y4 y5))
 | 0 => ⟨fun _ _ _ _ _ _ _ _ r h => by simp [spec_l5Own.l0] at h, fun _ _ _ _ _ _ r h => by simp [spec_l5Own.l1] at h⟩
 | k + 1 => by
  obtain ⟨ih0, ih1⟩ := spec_l5Own.mono_l k
  refine ⟨?_, ?_⟩
  all_goals intros; first | unfold spec_l5Own.l0 | unfold spec_l5Own.l1
  all_goals repeat' first | (with_reducible first | apply ih0 | apply ih1 | exact LeO.refl _ | exact LeO.none _ | refine LeO.ite ?_ ?_ | refine LeO.bind ?_ (fun _ => ?_))
theorem spec_l5Own.mono : ∀ a0 a1 a2 k, LeO (spec_l5Own.f k a0 a1 a2) (spec_l5Own.f (k + 1) a0 a1 a2) := by
 intro a0 a1 a2 k
 obtain ⟨ih0, ih1⟩ := spec_l5Own.mono_l k
 unfold spec_l5Own.f
 repeat' first
   | (with_reducible first | apply ih0 | apply ih1 | exact LeO.refl _ | exact LeO.none _ | refine LeO.ite ?_ ?_ | refine LeO.bind ?_ (fun _ => ?_))
set_option maxHeartbeats 8000000 in
set_option maxRecDepth 100000 in
theorem spec_l5Own.calls (k : Nat) (A0_0 : Option Addr) (c0_0 : Nat) (l0_0 : List (S81)) (A0_1 : Option Addr) (c0_1 : Nat) (l0_1 : List (S78)) (a0_2 : Int) (r1 : List (S81)) (r2 : List (S78)) (r3 : Int) (w : World) (hr0_0 : Kd.C k81 w A0_0 l0_0.length l0_0) (hc0_0 : l0_0.length ≤ c0_0) (hr0_1 : Kd.C k78 w A0_1 l0_1.length l0_1) (hc0_1 : l0_1.length ≤ c0_1) (h : spec_l5Own.f k l0_0 l0_1 a0_2 = some (r1, r2, r3)) :
  Calls Try.prog 58 #[.agg #[.slice A0_0 l0_0.length c0_0, .slice A0_1 l0_1.length c0_1, .int .i64 a0_2]] w fun e w' => ∃ v0_ v1_ : Value, e = .returned (.agg #[v0_, v1_, .int .i64 r3]) ∧ Kd.S k81 81 w' w.heap.size (fun _ => True) v0_ r1 ∧ Kd.S k78 78 w' w.heap.size (fun _ => True) v1_ r2 ∧ Below w.heap.size w w' := by
 have hu33 := Try.underlying33
 have hu81 := Try.underlying81
 have hu78 := Try.underlying78
 have HR0_0 := Aside0.mk hr0_0
 have HC0_0 := Aside0.mk hc0_0
 clear hr0_0 hc0_0
 have HR0_1 := Aside0.mk hr0_1
 have HC0_1 := Aside0.mk hc0_1
 clear hr0_1 hc0_1
 have HB := Aside0.mk (Below.refl w.heap.size w)
 have H : (spec_l5Own.l0 k l0_0 (l0_0.length : Int) 0 l0_0 l0_1 a0_2 ([] : List (S81)) a0_2) = some (r1, r2, r3) := h
 clear h
 have H' := Aside0.mk H
 clear H
 go_enter Try.func58, Try.ntmps58
 go_wp2_with (first | ((with_reducible refine gate_dst (N := 1) rfl ?_); refine bq_ (N := 1) #[.slice A0_0 l0_0.length c0_0, .slice A0_1 l0_1.length c0_1, .int .i64 a0_2] 33 ?_; intro gb156 hg w2 BK156 hb; have GE156 := ge_ hg; replace HB := nb_ hb; clear hb hg) | ((with_reducible refine gate_dst (N := 2) rfl ?_); refine bq_ (N := 2) #[.slice none 0 0, .slice none 0 0, .int .i64 0] 33 ?_; intro gb157 hg w3 BK157 hb; have GE157 := ge1_ hg GE156; replace HB := nc_ GE156 hb; have NB156_157 := nl_ BK156 hg; have NB157_156 := ng_ BK156 hg; replace BK156 := bK_ BK156 hb; clear hb hg; have hnb4 := NB156_157.out; have hnc4 := NB157_156.out; obtain ⟨hcz5_0, hcz5_1, hcz5_2, hfz5_0, hfz5_1, hfz5_2⟩ := cf3_ BK156.out) | ((with_reducible refine gate_dst (N := 3) rfl ?_); refine bq_ (N := 3) #[.slice none 0 0, .slice none 0 0, .int .i64 0] 33 ?_; intro gb158 hg w6 BK158 hb; have GE158 := ge2_ hg GE156 GE157; replace HB := nc2_ GE156 GE157 hb; have NB156_158 := nl_ BK156 hg; have NB158_156 := ng_ BK156 hg; replace BK156 := bK_ BK156 hb; have NB157_158 := nl_ BK157 hg; have NB158_157 := ng_ BK157 hg; replace BK157 := bK_ BK157 hb; clear hb hg; have hnb7 := NB158_156.out; have hnc7 := NB156_158.out; have hnb8 := NB158_157.out; have hnc8 := NB157_158.out; obtain ⟨hcz9_0, hcz9_1, hcz9_2, hfz9_0, hfz9_1, hfz9_2⟩ := cf3_ BK158.out; obtain ⟨hcz10_0, hcz10_1, hcz10_2, hfz10_0, hfz10_1, hfz10_2⟩ := cf3_ BK156.out))
 go_loopg [14] k (fun kq v14 w' => ∃ (x14_1 : Int) (x159000_1 : List (S81)) (u159000 : Value), v14 = .int .i64 x14_1 ∧ Aside0 (spec_l5Own.l0 kq l0_0 (l0_0.length : Int) x14_1 l0_0 l0_1 a0_2 x159000_1 a0_2 = some (r1, r2, r3)) ∧ Aside0 (kq ≤ k) ∧ Aside0 (Kd.S k81 81 w' w.heap.size (fun _ => True) u159000 x159000_1) ∧ Aside0 (w'.heap[gb156]? = some (.cells #[(.slice A0_0 l0_0.length c0_0), (.slice A0_1 l0_1.length c0_1), .int .i64 a0_2] 33 (0, 0))) ∧ Aside0 (w'.heap[gb157]? = some (.cells #[(.slice none 0 0), (.slice none 0 0), .int .i64 0] 33 (0, 0))) ∧ Aside0 (w'.heap[gb158]? = some (.cells #[u159000, (.slice none 0 0), .int .i64 a0_2] 33 (0, 0))) ∧ Aside0 (Below w.heap.size w w'))
 case atStart => exact ⟨(0), (([] : List (S81))), (.slice none 0 0), sr_, H', ⟨Nat.le_refl _⟩, ⟨by first | exact Kd.S_nil _ _ _ _ _ | exact Kd.N_nil _ _ _ _ _ | exact Kd.V_nil _ _ _ _ _ | exact Kd.Q_nil _ _ _ _ _ | exact Kd.R_nil _ _ _ _ _⟩, ⟨uf_ BK156 NB156_158.out⟩, ⟨uf_ BK157 NB157_158.out⟩, ⟨up_ BK158⟩, ⟨hs3_ GE156.out GE157.out GE158.out⟩⟩
 case round =>
  clear H'
  try clear hcz10_0
  try clear hcz10_1
  try clear hcz10_2
  try clear hcz5_0
  try clear hcz5_1
  try clear hcz5_2
  try clear hcz9_0
  try clear hcz9_1
  try clear hcz9_2
  try clear hfz10_0
  try clear hfz10_1
  try clear hfz10_2
  try clear hfz5_0
  try clear hfz5_1
  try clear hfz5_2
  try clear hfz9_0
  try clear hfz9_1
  try clear hfz9_2
  obtain ⟨x14_1, x159000_1, u159000, rfl, HA, HK1, HO_159000, BK156, BK157, BK158, HB⟩ := hrel
  cases gk with
  | zero => exact absurd HA.out (by simp [spec_l5Own.l0])
  | succ k1 =>
   have H := HA.out
   clear HA
   simp only [spec_l5Own.l0] at H
   replace H := ite_ H
   obtain ⟨c11, H⟩ | ⟨c11, H⟩ := H
   ·have c11b0 := decide_eq_true c11
    clear c11
    replace H := ifs_ H
    obtain ⟨c12, H⟩ := H
    have c12b0 := decide_eq_true c12
    clear c12
    replace H := ifs_ H
    obtain ⟨c13, H⟩ := H
    have c13b0 := decide_eq_true c13
    clear c13
    obtain ⟨y161, hy161⟩ : ∃ y_ : List (S112), y_ = (([] : List (S112))) := ⟨_, rfl⟩
    replace H : (if y161.length + ((rd_T81 l0_0 x14_1).f3).length < 5864062014805 then (if x159000_1.length < 2932031007402 then (spec_l5Own.l0 k1 l0_0 (l0_0.length : Int) (wrap64 (x14_1 + 1)) l0_0 l0_1 a0_2 (x159000_1 ++ [(⟨(rd_T81 l0_0 x14_1).f0, (rd_T81 l0_0 x14_1).f1, (rd_T81 l0_0 x14_1).f2, (y161 ++ ((rd_T81 l0_0 x14_1).f3))⟩ : S81)]) a0_2) else (none)) else (none)) = some (r1, r2, r3) := by first | (rw [hy161]; with_reducible exact H) | (have H2_ := (Option.bind_some _ _).symm.trans H; rw [hy161]; with_reducible exact H2_) | (have H2_ := (Option.bind_some _ _).symm.trans H; with_reducible exact H2_) | with_reducible exact H | (rw [hy161]; exact H) | exact H
    have Ny161 := Aside0.mk hy161
    clear hy161
    replace H := ifs_ H
    obtain ⟨c14, H⟩ := H
    have LMc14 := Aside0.mk c14
    clear c14
    obtain ⟨y164, hy164⟩ : ∃ y_ : List (S112), y_ = (y161 ++ ((rd_T81 l0_0 x14_1).f3)) := ⟨_, rfl⟩
    replace H : (if x159000_1.length < 2932031007402 then (spec_l5Own.l0 k1 l0_0 (l0_0.length : Int) (wrap64 (x14_1 + 1)) l0_0 l0_1 a0_2 (x159000_1 ++ [(⟨(rd_T81 l0_0 x14_1).f0, (rd_T81 l0_0 x14_1).f1, (rd_T81 l0_0 x14_1).f2, y164⟩ : S81)]) a0_2) else (none)) = some (r1, r2, r3) := by first | (rw [hy164]; with_reducible exact H) | (have H2_ := (Option.bind_some _ _).symm.trans H; rw [hy164]; with_reducible exact H2_) | (have H2_ := (Option.bind_some _ _).symm.trans H; with_reducible exact H2_) | with_reducible exact H | (rw [hy164]; exact H) | exact H
    have Ny164 := Aside0.mk hy164
    clear hy164
    replace H := ifs_ H
    obtain ⟨c15, H⟩ := H
    have LMc15 := Aside0.mk c15
    clear c15
    obtain ⟨y167, hy167⟩ : ∃ y_ : List (S81), y_ = (x159000_1 ++ [(⟨(rd_T81 l0_0 x14_1).f0, (rd_T81 l0_0 x14_1).f1, (rd_T81 l0_0 x14_1).f2, y164⟩ : S81)]) := ⟨_, rfl⟩
    replace H : (spec_l5Own.l0 k1 l0_0 (l0_0.length : Int) (wrap64 (x14_1 + 1)) l0_0 l0_1 a0_2 y167 a0_2) = some (r1, r2, r3) := by first | (rw [hy167]; with_reducible exact H) | (have H2_ := (Option.bind_some _ _).symm.trans H; rw [hy167]; with_reducible exact H2_) | (have H2_ := (Option.bind_some _ _).symm.trans H; with_reducible exact H2_) | with_reducible exact H | (rw [hy167]; exact H) | exact H
    have Ny167 := Aside0.mk hy167
    clear hy167
    have H' := Aside0.mk H
    clear H
    have p159 : 0 ≤ (x14_1 : Int) := oa_
    have q159 : x14_1 < (l0_0.length : Int) := oa_
    obtain ⟨ad159, A159_3, c159_3, e159, hx159_0, hx159_1, hx159_2, hx159_3, hl159_3, hi159_3⟩ := at_T81 HR0_0.out x14_1 p159 q159
    cases e159
    replace hx159_0 := pc_ HB.out hx159_0
    replace hx159_1 := pc_ HB.out hx159_1
    replace hx159_2 := pc_ HB.out hx159_2
    replace hx159_3 := pc_ HB.out hx159_3
    have HR159_3 := Aside0.mk hi159_3
    have HC159_3 := Aside0.mk hl159_3
    clear hi159_3 hl159_3
    replace p159 := eq_true p159
    replace q159 := eq_true q159
    go_wp2_with (first | ((with_reducible refine gate_dst (N := 5) rfl ?_); refine bq_ (N := 5) #[.int .i64 0, .int .i64 0, .int .i64 0, .slice none 0 0] 81 ?_; intro gb160 hg w16 BK160 hb; replace HO_159000 := Aside0.mk (Kd.S_below (Kd.S_elderB (ks_ HO_159000.out) gb160 (Nat.le_of_eq hg.symm)) hb); have GE160 := ge3_ hg GE156 GE157 GE158; replace HB := nc3_ GE156 GE157 GE158 hb; have NB156_160 := nl_ BK156 hg; have NB160_156 := ng_ BK156 hg; replace BK156 := bK_ BK156 hb; have NB157_160 := nl_ BK157 hg; have NB160_157 := ng_ BK157 hg; replace BK157 := bK_ BK157 hb; have NB158_160 := nl_ BK158 hg; have NB160_158 := ng_ BK158 hg; replace BK158 := bK_ BK158 hb; clear hb hg; have hnb17 := NB160_156.out; have hnc17 := NB156_160.out; have hnb18 := NB160_157.out; have hnc18 := NB157_160.out; have hnb19 := NB160_158.out; have hnc19 := NB158_160.out; obtain ⟨hcz20_0, hcz20_1, hcz20_2, hcz20_3, hfz20_0, hfz20_1, hfz20_2, hfz20_3⟩ := cf4_ BK160.out) | ((with_reducible refine gate_dst (N := 18) rfl ?_); refine Kd.R_lit k112 _ 112 ?hg (N := 18) ?hd (xs := ([] : List (S112))) (inner := []) (ok := fun _ => True) (okp := fun _ => True) ?hr ?hp (fun _ hk => hk) trivial (Below.refl _ _) (Nat.le_refl _) (by simp) ?_; (case hd => rfl); (case hg => rfl); (case hr => first | (go_simp; done) | (go_simp; rfl)); (case hp => exact (Reps.none _ _)); intro v162 w21 ho22 hb hg_ hnew_; clear hg_ hnew_; (first | rw [← Ny161.out] at ho22 | (simp only [Int.reduceToNat] at ho22; rw [← Ny161.out] at ho22)); replace HO_159000 := Aside0.mk (Kd.S_elder' ((Kd.S_mono (sF_ (Kd.S_mono HO_159000.out (fun k_ hk => (⟨hk, hk.2⟩ : _ ∧ k_ ≠ gb160)))) (fun _ h_ => h_.1))) (Kd.R_base ho22) hb); have HO163 := Aside0.mk (Kd.R_lower ho22 (below_size (hs4_ GE156.out GE157.out GE158.out GE160.out))); replace BK156 := Aside0.mk (blk_below (g := gb156) (o := .cells #[.slice (some ad159) l0_0.length c0_0, .slice A0_1 l0_1.length c0_1, .int .i64 a0_2] 33 (0, 0)) (uf_ BK156 NB156_160.out) hb); replace BK157 := Aside0.mk (blk_below (g := gb157) (o := .cells #[.slice none 0 0, .slice none 0 0, .int .i64 0] 33 (0, 0)) (uf_ BK157 NB157_160.out) hb); replace BK158 := Aside0.mk (blk_below (g := gb158) (o := .cells #[u159000, .slice none 0 0, .int .i64 a0_2] 33 (0, 0)) (uf_ BK158 NB158_160.out) hb); replace BK160 := Aside0.mk (blk_below (g := gb160) (o := .cells #[.int .i64 ((rd_T81 l0_0 x14_1).f0), .int .i64 ((rd_T81 l0_0 x14_1).f1), .int .i64 ((rd_T81 l0_0 x14_1).f2), .slice A159_3 ((rd_T81 l0_0 x14_1).f3).length c159_3] 81 (0, 0)) (up_ BK160) hb); replace HB := nc4_ GE156 GE157 GE158 GE160 hb; clear hb ho22; obtain ⟨hcz23_0, hcz23_1, hcz23_2, hcz23_3, hfz23_0, hfz23_1, hfz23_2, hfz23_3⟩ := cf4_ BK160.out) | ((with_reducible refine gate_builtin (b := .append) (xs := #[.tmp 18, .tmp 20]) rfl ?_); at_builtin; refine Kd.R_append_rows k112 (w0 := w) w.heap.size rfl (.tmp 18) (.tmp 20) 79 112 (.agg #[(.int .i64 0), (.int .i64 0), (.int .i64 0)]) 24 rfl Try.underlying79 info112 rfl (by decide) (by omega) v162 y161 ((rd_T81 l0_0 x14_1).f3) _ _ _ (fun _ => True) (fun _ => False) rfl rfl ?aO ?aR (fun _ _ h => h) (fun _ h => h.elim) ?aF ?aB ?aS ?aL ?_; (case aR => exact cs_ ((Kd.C_below HR159_3.out HB.out))); (case aB => exact (hs4_ GE156.out GE157.out GE158.out GE160.out)); (case aF => exact (fun _ _ => trivial)); (case aO => exact (kr_ HO163.out)); (case aS => exact (below_size (hs4_ GE156.out GE157.out GE158.out GE160.out))); (case aL => have := LMc14.out; omega); intro v165 w24 ho hb hg hat; rw [← Ny164.out] at ho; replace HO_159000 := Aside0.mk (Kd.S_after (ok := (fun k_ => k_ ≠ gb160)) (sF_ (Kd.S_mono HO_159000.out (fun _ hk => ⟨hk.1.2, hk.2⟩))) hg hat); replace BK156 := Aside0.mk (blk_grown (g := gb156) (o := .cells #[.slice (some ad159) l0_0.length c0_0, .slice A0_1 l0_1.length c0_1, .int .i64 a0_2] 33 (0, 0)) (kb_ BK156.out) hg (Kd.R_ne HO163.out BK156.out (by decide))); replace BK157 := Aside0.mk (blk_grown (g := gb157) (o := .cells #[.slice none 0 0, .slice none 0 0, .int .i64 0] 33 (0, 0)) (kb_ BK157.out) hg (Kd.R_ne HO163.out BK157.out (by decide))); replace BK158 := Aside0.mk (blk_grown (g := gb158) (o := .cells #[u159000, .slice none 0 0, .int .i64 a0_2] 33 (0, 0)) (kb_ BK158.out) hg (Kd.R_ne HO163.out BK158.out (by decide))); replace BK160 := Aside0.mk (blk_grown (g := gb160) (o := .cells #[.int .i64 ((rd_T81 l0_0 x14_1).f0), .int .i64 ((rd_T81 l0_0 x14_1).f1), .int .i64 ((rd_T81 l0_0 x14_1).f2), .slice A159_3 ((rd_T81 l0_0 x14_1).f3).length c159_3] 81 (0, 0)) (kb_ BK160.out) hg (Kd.R_ne HO163.out BK160.out (by decide))); replace HB := Aside0.mk (hb); have HO166 := Aside0.mk (ho); clear HO163; clear ho hb hg hat; obtain ⟨Ao25, co25, eo25⟩ := Kd.R_slice HO166.out; subst eo25; obtain ⟨hcz26_0, hcz26_1, hcz26_2, hcz26_3, hfz26_0, hfz26_1, hfz26_2, hfz26_3⟩ := cf4_ BK160.out) | ((with_reducible refine gate_store (t := 79) (p := 22) rfl ?_); refine store_event (t := 79) (p := 22) (v := ?vo_w27) (w1 := (w24.setCell ⟨gb160, 3, none⟩ (.slice Ao25 y164.length co25))) ?hg ?ho ?hn ?hr ?_; (case ho => rfl); (case hg => rfl); (case hn => rfl); (case hr => first | (go_simp; done) | (go_simp; rfl)); intro w27 hw; have n0_ : Aside0 (Kd.S k81 81 w27 w.heap.size (fun k_ => some k_ ≠ (.slice Ao25 y164.length co25 : Value).ownBlock ∧ k_ ≠ gb160) u159000 x159000_1) := ⟨(by rw [hw]; exact (sF_ (Kd.S_mono (Kd.S_far (p := ⟨gb160, 3, none⟩) (Kd.S_mono HO_159000.out (fun k_ hk => (⟨hk, hk.1⟩ : _ ∧ k_ ≠ gb160))) (fun _ hk => hk.2) (.slice Ao25 y164.length co25)) (fun _ hk => ⟨hk.1.2, hk.1.1⟩))))⟩; have n1_ : Aside0 (Kd.R k112 112 w27 w.heap.size (fun _ => True) (.slice Ao25 y164.length co25) y164) := ⟨(by rw [hw]; exact (rF_ (Kd.R_mono (Kd.R_far (p := ⟨gb160, 3, none⟩) (Kd.R_types HO166.out BK160.out (by decide)) (fun _ hk => hk.2) (.slice Ao25 y164.length co25)) (fun _ hk => trivial))))⟩; have n2_ : Aside0 (w27.heap[gb156]? = some (.cells #[.slice (some ad159) l0_0.length c0_0, .slice A0_1 l0_1.length c0_1, .int .i64 a0_2] 33 (0, 0))) := ⟨(by rw [hw]; exact (uf_ BK156 NB156_160.out))⟩; have n3_ : Aside0 (w27.heap[gb157]? = some (.cells #[.slice none 0 0, .slice none 0 0, .int .i64 0] 33 (0, 0))) := ⟨(by rw [hw]; exact (uf_ BK157 NB157_160.out))⟩; have n4_ : Aside0 (w27.heap[gb158]? = some (.cells #[u159000, .slice none 0 0, .int .i64 a0_2] 33 (0, 0))) := ⟨(by rw [hw]; exact (uf_ BK158 NB158_160.out))⟩; have n5_ : Aside0 (w27.heap[gb160]? = some (.cells #[.int .i64 ((rd_T81 l0_0 x14_1).f0), .int .i64 ((rd_T81 l0_0 x14_1).f1), .int .i64 ((rd_T81 l0_0 x14_1).f2), .slice Ao25 y164.length co25] 81 (0, 0))) := ⟨(by rw [hw]; exact (up_ BK160))⟩; have n6_ : Aside0 (Below w.heap.size w w27) := ⟨(by rw [hw]; exact (hs4_ GE156.out GE157.out GE158.out GE160.out))⟩; clear hw; clear HO_159000; clear HO166; clear BK156; clear BK157; clear BK158; clear BK160; clear HB; have HO_159000 := n0_; have HO166 := n1_; have BK156 := n2_; have BK157 := n3_; have BK158 := n4_; have BK160 := n5_; have HB := n6_; clear n0_ n1_ n2_ n3_ n4_ n5_ n6_; have hnb28 := NB158_156.out; have hnc28 := NB156_158.out; have hnb29 := NB158_157.out; have hnc29 := NB157_158.out; obtain ⟨hcz30_0, hcz30_1, hcz30_2, hfz30_0, hfz30_1, hfz30_2⟩ := cf3_ BK158.out; obtain ⟨hcz31_0, hcz31_1, hcz31_2, hcz31_3, hfz31_0, hfz31_1, hfz31_2, hfz31_3⟩ := cf4_ BK160.out) | ((with_reducible refine gate_builtin (b := .append) (xs := #[.tmp 24, .tmp 26]) rfl ?_); at_builtin; refine Kd.S_append k81 (w0 := w) w.heap.size rfl (.tmp 24) (.tmp 26) 30 81 (.agg #[(.int .i64 0), (.int .i64 0), (.int .i64 0), (.slice none 0 0)]) 48 rfl Try.underlying30 info81 rfl (by decide) (by omega) u159000 x159000_1 (⟨(rd_T81 l0_0 x14_1).f0, (rd_T81 l0_0 x14_1).f1, (rd_T81 l0_0 x14_1).f2, y164⟩ : S81) [.int .i64 ((rd_T81 l0_0 x14_1).f0), .int .i64 ((rd_T81 l0_0 x14_1).f1), .int .i64 ((rd_T81 l0_0 x14_1).f2), .slice Ao25 y164.length co25] (fun k_ => k_ ≠ gb160) (fun k_ => some k_ = (.slice Ao25 y164.length co25 : Value).ownBlock) rfl rfl ?aP (fun k_ hk_ => ((Kd.R_mono (ok' := fun k_ => ((fun k_ => k_ ≠ gb160)) k_ ∧ some k_ ≠ (u159000 : Value).ownBlock) (Kd.R_types (Kd.R_apart' (HO166.out) (Kd.S_typed HO_159000.out) (by decide)) BK160.out (by decide)) (fun k_ hk => ⟨hk.2, hk.1.2⟩))).1 k_ hk_.symm) ?aF ?aO ?aB ?aS ?aL ?_; (case aP => exact k81_mkM _ _ _ (⟨(rd_T81 l0_0 x14_1).f0, (rd_T81 l0_0 x14_1).f1, (rd_T81 l0_0 x14_1).f2, y164⟩ : S81) (Kd.R_mono (Kd.R_tight rfl (Kd.R_mono (ok' := fun k_ => ((fun k_ => k_ ≠ gb160)) k_ ∧ some k_ ≠ (u159000 : Value).ownBlock) (Kd.R_types (Kd.R_apart' (HO166.out) (Kd.S_typed HO_159000.out) (by decide)) BK160.out (by decide)) (fun k_ hk => ⟨hk.2, hk.1.2⟩))) (fun _ h_ => h_))); (case aB => exact (hs4_ GE156.out GE157.out GE158.out GE160.out)); (case aF => exact (fun k_ hk => Kd.freshB (g := gb160) (o := .cells #[.int .i64 ((rd_T81 l0_0 x14_1).f0), .int .i64 ((rd_T81 l0_0 x14_1).f1), .int .i64 ((rd_T81 l0_0 x14_1).f2), .slice Ao25 y164.length co25] 81 (0, 0)) (kb_ BK160.out) k_ hk)); (case aO => exact (sF_ (Kd.S_mono HO_159000.out (fun k_ hk => ⟨hk.2, fun e_ => hk.1 e_⟩)))); (case aS => exact (below_size (hs4_ GE156.out GE157.out GE158.out GE160.out))); (case aL => have := LMc15.out; omega); intro v168 w32 ho hb hg hat; rw [← Ny167.out] at ho; replace BK156 := Aside0.mk (blk_grown (g := gb156) (o := .cells #[.slice (some ad159) l0_0.length c0_0, .slice A0_1 l0_1.length c0_1, .int .i64 a0_2] 33 (0, 0)) (kb_ BK156.out) hg (Kd.S_ne HO_159000.out BK156.out (by decide))); replace BK157 := Aside0.mk (blk_grown (g := gb157) (o := .cells #[.slice none 0 0, .slice none 0 0, .int .i64 0] 33 (0, 0)) (kb_ BK157.out) hg (Kd.S_ne HO_159000.out BK157.out (by decide))); replace BK158 := Aside0.mk (blk_grown (g := gb158) (o := .cells #[u159000, .slice none 0 0, .int .i64 a0_2] 33 (0, 0)) (kb_ BK158.out) hg (Kd.S_ne HO_159000.out BK158.out (by decide))); replace BK160 := Aside0.mk (blk_grown (g := gb160) (o := .cells #[.int .i64 ((rd_T81 l0_0 x14_1).f0), .int .i64 ((rd_T81 l0_0 x14_1).f1), .int .i64 ((rd_T81 l0_0 x14_1).f2), .slice Ao25 y164.length co25] 81 (0, 0)) (kb_ BK160.out) hg (Kd.S_away HO_159000.out (fun _ hk => hk.2))); replace HB := Aside0.mk (hb); have HO169 := Aside0.mk (ho); clear HO_159000 HO166; clear ho hb hg hat; obtain ⟨Ao33, co33, eo33⟩ := Kd.S_slice HO169.out; subst eo33; obtain ⟨hcz34_0, hcz34_1, hcz34_2, hfz34_0, hfz34_1, hfz34_2⟩ := cf3_ BK158.out))
    go_roundg k1
    case measure => have := HK1.out; omega
    case rel => exact ⟨(wrap64 (x14_1 + 1)), (y167), (.slice Ao33 y167.length co33), sr_, H', ⟨by have := HK1.out; omega⟩, ⟨sF_ (Kd.S_mono (Kd.S_far (p := ⟨gb158, 0, none⟩) (Kd.S_types HO169.out BK158.out (by decide)) (fun _ hk => hk.2) (.slice Ao33 y167.length co33)) (fun _ hk => trivial))⟩, ⟨uf_ BK156 NB156_158.out⟩, ⟨uf_ BK157 NB157_158.out⟩, ⟨up_ BK158⟩, ⟨hs4_ GE156.out GE157.out GE158.out GE160.out⟩⟩
   have c11b0 := decide_eq_false c11
   clear c11
   have H' := Aside0.mk H
   clear H
   have hnb35 := NB156_157.out
   have hnc35 := NB157_156.out
   have hnb36 := NB156_158.out
   have hnc36 := NB158_156.out
   obtain ⟨hcz37_0, hcz37_1, hcz37_2, hfz37_0, hfz37_1, hfz37_2⟩ := cf3_ BK156.out
   go_wp2
   go_loopg [33] k1 (fun kq v33 w' => ∃ (x33_2 : Int) (x159001_2 : List (S78)) (u159001 : Value), v33 = .int .i64 x33_2 ∧ Aside0 (spec_l5Own.l1 kq l0_1 (l0_1.length : Int) x33_2 x159000_1 x159001_2 a0_2 = some (r1, r2, r3)) ∧ Aside0 (kq ≤ k1) ∧ Aside0 (Kd.S k81 81 w' w.heap.size (fun _ => True) u159000 x159000_1) ∧ Aside0 (Kd.S k78 78 w' w.heap.size (fun _ => True) u159001 x159001_2) ∧ Aside0 (w'.heap[gb156]? = some (.cells #[(.slice A0_0 l0_0.length c0_0), (.slice A0_1 l0_1.length c0_1), .int .i64 a0_2] 33 (0, 0))) ∧ Aside0 (w'.heap[gb157]? = some (.cells #[(.slice none 0 0), (.slice none 0 0), .int .i64 0] 33 (0, 0))) ∧ Aside0 (w'.heap[gb158]? = some (.cells #[u159000, u159001, .int .i64 a0_2] 33 (0, 0))) ∧ Aside0 (Below w.heap.size w w'))
   case atStart => exact ⟨(0), (([] : List (S78))), (.slice none 0 0), sr_, H', ⟨Nat.le_refl _⟩, ⟨ks_ HO_159000.out⟩, ⟨by first | exact Kd.S_nil _ _ _ _ _ | exact Kd.N_nil _ _ _ _ _ | exact Kd.V_nil _ _ _ _ _ | exact Kd.Q_nil _ _ _ _ _ | exact Kd.R_nil _ _ _ _ _⟩, ⟨kb_ BK156.out⟩, ⟨kb_ BK157.out⟩, ⟨kb_ BK158.out⟩, ⟨hs3_ GE156.out GE157.out GE158.out⟩⟩
   case round =>
    clear H'
    try clear c11
    try clear c11b0
    try clear hcz10_0
    try clear hcz10_1
    try clear hcz10_2
    try clear hcz37_0
    try clear hcz37_1
    try clear hcz37_2
    try clear hcz5_0
    try clear hcz5_1
    try clear hcz5_2
    try clear hcz9_0
    try clear hcz9_1
    try clear hcz9_2
    try clear hfz10_0
    try clear hfz10_1
    try clear hfz10_2
    try clear hfz37_0
    try clear hfz37_1
    try clear hfz37_2
    try clear hfz5_0
    try clear hfz5_1
    try clear hfz5_2
    try clear hfz9_0
    try clear hfz9_1
    try clear hfz9_2
    obtain ⟨x33_2, x159001_2, u159001, rfl, HA, HK2, HO_159000, HO_159001, BK156, BK157, BK158, HB⟩ := hrel
    cases gk with
    | zero => exact absurd HA.out (by simp [spec_l5Own.l1])
    | succ k2 =>
     have H := HA.out
     clear HA
     simp only [spec_l5Own.l1] at H
     replace H := ite_ H
     obtain ⟨c38, H⟩ | ⟨c38, H⟩ := H
     rotate_left
     ·have c38b0 := decide_eq_false c38
      clear c38
      simp only [Option.some.injEq, Prod.mk.injEq] at H
      obtain ⟨rfl, rfl, rfl⟩ := H
      have hnb62 := NB158_156.out
      have hnc62 := NB156_158.out
      have hnb63 := NB158_157.out
      have hnc63 := NB157_158.out
      obtain ⟨hcz64_0, hcz64_1, hcz64_2, hfz64_0, hfz64_1, hfz64_2⟩ := cf3_ BK158.out
      obtain ⟨Ao65, co65, eo65⟩ := Kd.S_slice HO_159000.out
      subst eo65
      have hnb66 := NB157_156.out
      have hnc66 := NB156_157.out
      obtain ⟨hcz67_0, hcz67_1, hcz67_2, hfz67_0, hfz67_1, hfz67_2⟩ := cf3_ BK157.out
      obtain ⟨Ao68, co68, eo68⟩ := Kd.S_slice HO_159001.out
      subst eo68
      go_wp2
      refine bodyPost_ret (results_cell_row rfl _ _ gb157 33 #[.slice Ao65 x159000_1.length co65, .slice Ao68 x159001_2.length co68, .int .i64 a0_2] (0, 0) _ rfl (up_ BK157) Try.underlying33 rfl (by kernel_rfl)) rfl ?_
      exact ⟨_, _, er_, Kd.S_mono (sF_ (Kd.S_types HO_159000.out BK157.out (by decide))) (fun _ hk => trivial), Kd.S_mono (sF_ (Kd.S_types HO_159001.out BK157.out (by decide))) (fun _ hk => trivial), hs3_ GE156.out GE157.out GE158.out⟩
     have c38b0 := decide_eq_true c38
     clear c38
     replace H := ifs_ H
     obtain ⟨c39, H⟩ := H
     have c39b0 := decide_eq_true c39
     clear c39
     replace H := ifs_ H
     obtain ⟨c40, H⟩ := H
     have c40b0 := decide_eq_true c40
     clear c40
     obtain ⟨y172, hy172⟩ : ∃ y_ : List ByteArray, y_ = (([] : List ByteArray)) := ⟨_, rfl⟩
     replace H : (if y172.length + ((rd_T78 l0_1 x33_2).f4).length < 8796093022208 then (if x159001_2.length < 2513169434916 then (spec_l5Own.l1 k2 l0_1 (l0_1.length : Int) (wrap64 (x33_2 + 1)) x159000_1 (x159001_2 ++ [(⟨(rd_T78 l0_1 x33_2).f0, (rd_T78 l0_1 x33_2).f1, (rd_T78 l0_1 x33_2).f2, (rd_T78 l0_1 x33_2).f3, (y172 ++ ((rd_T78 l0_1 x33_2).f4))⟩ : S78)]) a0_2) else (none)) else (none)) = some (r1, r2, r3) := by first | (rw [hy172]; with_reducible exact H) | (have H2_ := (Option.bind_some _ _).symm.trans H; rw [hy172]; with_reducible exact H2_) | (have H2_ := (Option.bind_some _ _).symm.trans H; with_reducible exact H2_) | with_reducible exact H | (rw [hy172]; exact H) | exact H
     have Ny172 := Aside0.mk hy172
     clear hy172
     replace H := ifs_ H
     obtain ⟨c41, H⟩ := H
     have LMc41 := Aside0.mk c41
     clear c41
     obtain ⟨y175, hy175⟩ : ∃ y_ : List ByteArray, y_ = (y172 ++ ((rd_T78 l0_1 x33_2).f4)) := ⟨_, rfl⟩
     replace H : (if x159001_2.length < 2513169434916 then (spec_l5Own.l1 k2 l0_1 (l0_1.length : Int) (wrap64 (x33_2 + 1)) x159000_1 (x159001_2 ++ [(⟨(rd_T78 l0_1 x33_2).f0, (rd_T78 l0_1 x33_2).f1, (rd_T78 l0_1 x33_2).f2, (rd_T78 l0_1 x33_2).f3, y175⟩ : S78)]) a0_2) else (none)) = some (r1, r2, r3) := by first | (rw [hy175]; with_reducible exact H) | (have H2_ := (Option.bind_some _ _).symm.trans H; rw [hy175]; with_reducible exact H2_) | (have H2_ := (Option.bind_some _ _).symm.trans H; with_reducible exact H2_) | with_reducible exact H | (rw [hy175]; exact H) | exact H
     have Ny175 := Aside0.mk hy175
     clear hy175
     replace H := ifs_ H
     obtain ⟨c42, H⟩ := H
     have LMc42 := Aside0.mk c42
     clear c42
     obtain ⟨y178, hy178⟩ : ∃ y_ : List (S78), y_ = (x159001_2 ++ [(⟨(rd_T78 l0_1 x33_2).f0, (rd_T78 l0_1 x33_2).f1, (rd_T78 l0_1 x33_2).f2, (rd_T78 l0_1 x33_2).f3, y175⟩ : S78)]) := ⟨_, rfl⟩
     replace H : (spec_l5Own.l1 k2 l0_1 (l0_1.length : Int) (wrap64 (x33_2 + 1)) x159000_1 y178 a0_2) = some (r1, r2, r3) := by first | (rw [hy178]; with_reducible exact H) | (have H2_ := (Option.bind_some _ _).symm.trans H; rw [hy178]; with_reducible exact H2_) | (have H2_ := (Option.bind_some _ _).symm.trans H; with_reducible exact H2_) | with_reducible exact H | (rw [hy178]; exact H) | exact H
     have Ny178 := Aside0.mk hy178
     clear hy178
     have H' := Aside0.mk H
     clear H
     have p170 : 0 ≤ (x33_2 : Int) := oa_
     have q170 : x33_2 < (l0_1.length : Int) := oa_
     obtain ⟨ad170, A170_4, c170_4, e170, hx170_0, hx170_1, hx170_2, hx170_3, hx170_4, hl170_4, hi170_4⟩ := at_T78 HR0_1.out x33_2 p170 q170
     cases e170
     replace hx170_0 := pc_ HB.out hx170_0
     replace hx170_1 := pc_ HB.out hx170_1
     replace hx170_2 := pc_ HB.out hx170_2
     replace hx170_3 := pc_ HB.out hx170_3
     replace hx170_4 := pc_ HB.out hx170_4
     have HR170_4 := Aside0.mk hi170_4
     have HC170_4 := Aside0.mk hl170_4
     clear hi170_4 hl170_4
     replace p170 := eq_true p170
     replace q170 := eq_true q170
     go_wp2_with (first | ((with_reducible refine gate_dst (N := 7) rfl ?_); refine bq_ (N := 7) #[.int .i64 0, .int .i64 0, .int .i64 0, .int .i64 0, .slice none 0 0] 78 ?_; intro gb171 hg w43 BK171 hb; replace HO_159000 := sB_ HO_159000 hb; replace HO_159001 := Aside0.mk (Kd.S_below (Kd.S_elderB (ks_ HO_159001.out) gb171 (Nat.le_of_eq hg.symm)) hb); have GE171 := ge3_ hg GE156 GE157 GE158; replace HB := nc3_ GE156 GE157 GE158 hb; have NB156_171 := nl_ BK156 hg; have NB171_156 := ng_ BK156 hg; replace BK156 := bK_ BK156 hb; have NB157_171 := nl_ BK157 hg; have NB171_157 := ng_ BK157 hg; replace BK157 := bK_ BK157 hb; have NB158_171 := nl_ BK158 hg; have NB171_158 := ng_ BK158 hg; replace BK158 := bK_ BK158 hb; clear hb hg; have hnb44 := NB171_156.out; have hnc44 := NB156_171.out; have hnb45 := NB171_157.out; have hnc45 := NB157_171.out; have hnb46 := NB171_158.out; have hnc46 := NB158_171.out; obtain ⟨hcz47_0, hcz47_1, hcz47_2, hcz47_3, hcz47_4, hfz47_0, hfz47_1, hfz47_2, hfz47_3, hfz47_4⟩ := cf5_ BK171.out) | ((with_reducible refine gate_dst (N := 37) rfl ?_); refine Kd.R_lit Kd.string _ 9 ?hg (N := 37) ?hd (xs := ([] : List ByteArray)) (inner := []) (ok := fun _ => True) (okp := fun _ => True) ?hr ?hp (fun _ hk => hk) trivial (Below.refl _ _) (Nat.le_refl _) (by simp) ?_; (case hd => rfl); (case hg => rfl); (case hr => first | (go_simp; done) | (go_simp; rfl)); (case hp => exact (Reps.none _ _)); intro v173 w48 ho49 hb hg_ hnew_; clear hg_ hnew_; (first | rw [← Ny172.out] at ho49 | (simp only [Int.reduceToNat] at ho49; rw [← Ny172.out] at ho49)); replace HO_159000 := Aside0.mk (Kd.S_below ((Kd.S_mono (sF_ (Kd.S_types HO_159000.out BK171.out (by decide))) (fun _ h_ => h_.1))) hb); replace HO_159001 := Aside0.mk (Kd.S_elder' ((Kd.S_mono (sF_ (Kd.S_mono HO_159001.out (fun k_ hk => (⟨hk, hk.2⟩ : _ ∧ k_ ≠ gb171)))) (fun _ h_ => h_.1))) (Kd.R_base ho49) hb); have HO174 := Aside0.mk (Kd.R_lower ho49 (below_size (hs4_ GE156.out GE157.out GE158.out GE171.out))); replace BK156 := Aside0.mk (blk_below (g := gb156) (o := .cells #[.slice A0_0 l0_0.length c0_0, .slice (some ad170) l0_1.length c0_1, .int .i64 a0_2] 33 (0, 0)) (uf_ BK156 NB156_171.out) hb); replace BK157 := Aside0.mk (blk_below (g := gb157) (o := .cells #[.slice none 0 0, .slice none 0 0, .int .i64 0] 33 (0, 0)) (uf_ BK157 NB157_171.out) hb); replace BK158 := Aside0.mk (blk_below (g := gb158) (o := .cells #[u159000, u159001, .int .i64 a0_2] 33 (0, 0)) (uf_ BK158 NB158_171.out) hb); replace BK171 := Aside0.mk (blk_below (g := gb171) (o := .cells #[.int .i64 ((rd_T78 l0_1 x33_2).f0), .int .i64 ((rd_T78 l0_1 x33_2).f1), .int .i64 ((rd_T78 l0_1 x33_2).f2), .int .i64 ((rd_T78 l0_1 x33_2).f3), .slice A170_4 ((rd_T78 l0_1 x33_2).f4).length c170_4] 78 (0, 0)) (up_ BK171) hb); replace HB := nc4_ GE156 GE157 GE158 GE171 hb; clear hb ho49; obtain ⟨hcz50_0, hcz50_1, hcz50_2, hcz50_3, hcz50_4, hfz50_0, hfz50_1, hfz50_2, hfz50_3, hfz50_4⟩ := cf5_ BK171.out) | ((with_reducible refine gate_builtin (b := .append) (xs := #[.tmp 37, .tmp 39]) rfl ?_); at_builtin; refine Kd.R_append_rows Kd.string (w0 := w) w.heap.size rfl (.tmp 37) (.tmp 39) 27 9 (.string ⟨#[]⟩) 16 rfl Try.underlying27 info9 rfl (by decide) (by omega) v173 y172 ((rd_T78 l0_1 x33_2).f4) _ _ _ (fun _ => True) (fun _ => False) rfl rfl ?aO ?aR (fun _ _ h => h) (fun _ h => h.elim) ?aF ?aB ?aS ?aL ?_; (case aR => exact cs_ ((Kd.C_below HR170_4.out HB.out))); (case aB => exact (hs4_ GE156.out GE157.out GE158.out GE171.out)); (case aF => exact (fun _ _ => trivial)); (case aO => exact (kr_ HO174.out)); (case aS => exact (below_size (hs4_ GE156.out GE157.out GE158.out GE171.out))); (case aL => have := LMc41.out; omega); intro v176 w51 ho hb hg hat; rw [← Ny175.out] at ho; replace HO_159000 := Aside0.mk (Kd.S_over' (ks_ HO_159000.out) (Kd.R_typed (kr_ HO174.out)) (by decide) hg); replace HO_159001 := Aside0.mk (Kd.S_after (ok := (fun k_ => k_ ≠ gb171)) (sF_ (Kd.S_mono HO_159001.out (fun _ hk => ⟨hk.1.2, hk.2⟩))) hg hat); replace BK156 := Aside0.mk (blk_grown (g := gb156) (o := .cells #[.slice A0_0 l0_0.length c0_0, .slice (some ad170) l0_1.length c0_1, .int .i64 a0_2] 33 (0, 0)) (kb_ BK156.out) hg (Kd.R_ne HO174.out BK156.out (by decide))); replace BK157 := Aside0.mk (blk_grown (g := gb157) (o := .cells #[.slice none 0 0, .slice none 0 0, .int .i64 0] 33 (0, 0)) (kb_ BK157.out) hg (Kd.R_ne HO174.out BK157.out (by decide))); replace BK158 := Aside0.mk (blk_grown (g := gb158) (o := .cells #[u159000, u159001, .int .i64 a0_2] 33 (0, 0)) (kb_ BK158.out) hg (Kd.R_ne HO174.out BK158.out (by decide))); replace BK171 := Aside0.mk (blk_grown (g := gb171) (o := .cells #[.int .i64 ((rd_T78 l0_1 x33_2).f0), .int .i64 ((rd_T78 l0_1 x33_2).f1), .int .i64 ((rd_T78 l0_1 x33_2).f2), .int .i64 ((rd_T78 l0_1 x33_2).f3), .slice A170_4 ((rd_T78 l0_1 x33_2).f4).length c170_4] 78 (0, 0)) (kb_ BK171.out) hg (Kd.R_ne HO174.out BK171.out (by decide))); replace HB := Aside0.mk (hb); have HO177 := Aside0.mk (ho); clear HO174; clear ho hb hg hat; obtain ⟨Ao52, co52, eo52⟩ := Kd.R_slice HO177.out; subst eo52; obtain ⟨hcz53_0, hcz53_1, hcz53_2, hcz53_3, hcz53_4, hfz53_0, hfz53_1, hfz53_2, hfz53_3, hfz53_4⟩ := cf5_ BK171.out) | ((with_reducible refine gate_store (t := 27) (p := 41) rfl ?_); refine store_event (t := 27) (p := 41) (v := ?vo_w54) (w1 := (w51.setCell ⟨gb171, 4, none⟩ (.slice Ao52 y175.length co52))) ?hg ?ho ?hn ?hr ?_; (case ho => rfl); (case hg => rfl); (case hn => rfl); (case hr => first | (go_simp; done) | (go_simp; rfl)); intro w54 hw; have n0_ : Aside0 (Kd.S k81 81 w54 w.heap.size (fun _ => True) u159000 x159000_1) := ⟨(by rw [hw]; exact (sF_ (Kd.S_mono (Kd.S_far (p := ⟨gb171, 4, none⟩) (Kd.S_types HO_159000.out BK171.out (by decide)) (fun _ hk => hk.2) (.slice Ao52 y175.length co52)) (fun _ hk => trivial))))⟩; have n1_ : Aside0 (Kd.S k78 78 w54 w.heap.size (fun k_ => some k_ ≠ (.slice Ao52 y175.length co52 : Value).ownBlock ∧ k_ ≠ gb171) u159001 x159001_2) := ⟨(by rw [hw]; exact (sF_ (Kd.S_mono (Kd.S_far (p := ⟨gb171, 4, none⟩) (Kd.S_mono HO_159001.out (fun k_ hk => (⟨hk, hk.1⟩ : _ ∧ k_ ≠ gb171))) (fun _ hk => hk.2) (.slice Ao52 y175.length co52)) (fun _ hk => ⟨hk.1.2, hk.1.1⟩))))⟩; have n2_ : Aside0 (Kd.R Kd.string 9 w54 w.heap.size (fun _ => True) (.slice Ao52 y175.length co52) y175) := ⟨(by rw [hw]; exact (rF_ (Kd.R_mono (Kd.R_far (p := ⟨gb171, 4, none⟩) (Kd.R_types HO177.out BK171.out (by decide)) (fun _ hk => hk.2) (.slice Ao52 y175.length co52)) (fun _ hk => trivial))))⟩; have n3_ : Aside0 (w54.heap[gb156]? = some (.cells #[.slice A0_0 l0_0.length c0_0, .slice (some ad170) l0_1.length c0_1, .int .i64 a0_2] 33 (0, 0))) := ⟨(by rw [hw]; exact (uf_ BK156 NB156_171.out))⟩; have n4_ : Aside0 (w54.heap[gb157]? = some (.cells #[.slice none 0 0, .slice none 0 0, .int .i64 0] 33 (0, 0))) := ⟨(by rw [hw]; exact (uf_ BK157 NB157_171.out))⟩; have n5_ : Aside0 (w54.heap[gb158]? = some (.cells #[u159000, u159001, .int .i64 a0_2] 33 (0, 0))) := ⟨(by rw [hw]; exact (uf_ BK158 NB158_171.out))⟩; have n6_ : Aside0 (w54.heap[gb171]? = some (.cells #[.int .i64 ((rd_T78 l0_1 x33_2).f0), .int .i64 ((rd_T78 l0_1 x33_2).f1), .int .i64 ((rd_T78 l0_1 x33_2).f2), .int .i64 ((rd_T78 l0_1 x33_2).f3), .slice Ao52 y175.length co52] 78 (0, 0))) := ⟨(by rw [hw]; exact (up_ BK171))⟩; have n7_ : Aside0 (Below w.heap.size w w54) := ⟨(by rw [hw]; exact (hs4_ GE156.out GE157.out GE158.out GE171.out))⟩; clear hw; clear HO_159000; clear HO_159001; clear HO177; clear BK156; clear BK157; clear BK158; clear BK171; clear HB; have HO_159000 := n0_; have HO_159001 := n1_; have HO177 := n2_; have BK156 := n3_; have BK157 := n4_; have BK158 := n5_; have BK171 := n6_; have HB := n7_; clear n0_ n1_ n2_ n3_ n4_ n5_ n6_ n7_; have hnb55 := NB158_156.out; have hnc55 := NB156_158.out; have hnb56 := NB158_157.out; have hnc56 := NB157_158.out; obtain ⟨hcz57_0, hcz57_1, hcz57_2, hfz57_0, hfz57_1, hfz57_2⟩ := cf3_ BK158.out; obtain ⟨hcz58_0, hcz58_1, hcz58_2, hcz58_3, hcz58_4, hfz58_0, hfz58_1, hfz58_2, hfz58_3, hfz58_4⟩ := cf5_ BK171.out) | ((with_reducible refine gate_builtin (b := .append) (xs := #[.tmp 43, .tmp 45]) rfl ?_); at_builtin; refine Kd.S_append k78 (w0 := w) w.heap.size rfl (.tmp 43) (.tmp 45) 31 78 (.agg #[(.int .i64 0), (.int .i64 0), (.int .i64 0), (.int .i64 0), (.slice none 0 0)]) 56 rfl Try.underlying31 info78 rfl (by decide) (by omega) u159001 x159001_2 (⟨(rd_T78 l0_1 x33_2).f0, (rd_T78 l0_1 x33_2).f1, (rd_T78 l0_1 x33_2).f2, (rd_T78 l0_1 x33_2).f3, y175⟩ : S78) [.int .i64 ((rd_T78 l0_1 x33_2).f0), .int .i64 ((rd_T78 l0_1 x33_2).f1), .int .i64 ((rd_T78 l0_1 x33_2).f2), .int .i64 ((rd_T78 l0_1 x33_2).f3), .slice Ao52 y175.length co52] (fun k_ => k_ ≠ gb171) (fun k_ => some k_ = (.slice Ao52 y175.length co52 : Value).ownBlock) rfl rfl ?aP (fun k_ hk_ => ((Kd.R_mono (ok' := fun k_ => ((fun k_ => k_ ≠ gb171)) k_ ∧ some k_ ≠ (u159001 : Value).ownBlock) (Kd.R_types (Kd.R_apart' (HO177.out) (Kd.S_typed HO_159001.out) (by decide)) BK171.out (by decide)) (fun k_ hk => ⟨hk.2, hk.1.2⟩))).1 k_ hk_.symm) ?aF ?aO ?aB ?aS ?aL ?_; (case aP => exact k78_mkM _ _ _ (⟨(rd_T78 l0_1 x33_2).f0, (rd_T78 l0_1 x33_2).f1, (rd_T78 l0_1 x33_2).f2, (rd_T78 l0_1 x33_2).f3, y175⟩ : S78) (Kd.R_mono (Kd.R_tight rfl (Kd.R_mono (ok' := fun k_ => ((fun k_ => k_ ≠ gb171)) k_ ∧ some k_ ≠ (u159001 : Value).ownBlock) (Kd.R_types (Kd.R_apart' (HO177.out) (Kd.S_typed HO_159001.out) (by decide)) BK171.out (by decide)) (fun k_ hk => ⟨hk.2, hk.1.2⟩))) (fun _ h_ => h_))); (case aB => exact (hs4_ GE156.out GE157.out GE158.out GE171.out)); (case aF => exact (fun k_ hk => Kd.freshB (g := gb171) (o := .cells #[.int .i64 ((rd_T78 l0_1 x33_2).f0), .int .i64 ((rd_T78 l0_1 x33_2).f1), .int .i64 ((rd_T78 l0_1 x33_2).f2), .int .i64 ((rd_T78 l0_1 x33_2).f3), .slice Ao52 y175.length co52] 78 (0, 0)) (kb_ BK171.out) k_ hk)); (case aO => exact (sF_ (Kd.S_mono HO_159001.out (fun k_ hk => ⟨hk.2, fun e_ => hk.1 e_⟩)))); (case aS => exact (below_size (hs4_ GE156.out GE157.out GE158.out GE171.out))); (case aL => have := LMc42.out; omega); intro v179 w59 ho hb hg hat; rw [← Ny178.out] at ho; replace HO_159000 := Aside0.mk (Kd.S_over' (ks_ HO_159000.out) (Kd.S_typed (ks_ HO_159001.out)) (by decide) hg); replace BK156 := Aside0.mk (blk_grown (g := gb156) (o := .cells #[.slice A0_0 l0_0.length c0_0, .slice (some ad170) l0_1.length c0_1, .int .i64 a0_2] 33 (0, 0)) (kb_ BK156.out) hg (Kd.S_ne HO_159001.out BK156.out (by decide))); replace BK157 := Aside0.mk (blk_grown (g := gb157) (o := .cells #[.slice none 0 0, .slice none 0 0, .int .i64 0] 33 (0, 0)) (kb_ BK157.out) hg (Kd.S_ne HO_159001.out BK157.out (by decide))); replace BK158 := Aside0.mk (blk_grown (g := gb158) (o := .cells #[u159000, u159001, .int .i64 a0_2] 33 (0, 0)) (kb_ BK158.out) hg (Kd.S_ne HO_159001.out BK158.out (by decide))); replace BK171 := Aside0.mk (blk_grown (g := gb171) (o := .cells #[.int .i64 ((rd_T78 l0_1 x33_2).f0), .int .i64 ((rd_T78 l0_1 x33_2).f1), .int .i64 ((rd_T78 l0_1 x33_2).f2), .int .i64 ((rd_T78 l0_1 x33_2).f3), .slice Ao52 y175.length co52] 78 (0, 0)) (kb_ BK171.out) hg (Kd.S_away HO_159001.out (fun _ hk => hk.2))); replace HB := Aside0.mk (hb); have HO180 := Aside0.mk (ho); clear HO_159001 HO177; clear ho hb hg hat; obtain ⟨Ao60, co60, eo60⟩ := Kd.S_slice HO180.out; subst eo60; obtain ⟨hcz61_0, hcz61_1, hcz61_2, hfz61_0, hfz61_1, hfz61_2⟩ := cf3_ BK158.out))
     go_roundg k2
     case measure => have := HK1.out; have := HK2.out; omega
     case rel => exact ⟨(wrap64 (x33_2 + 1)), (y178), (.slice Ao60 y178.length co60), sr_, H', ⟨by have := HK1.out; have := HK2.out; omega⟩, ⟨sF_ (Kd.S_mono (Kd.S_far (p := ⟨gb158, 1, none⟩) (Kd.S_types HO_159000.out BK158.out (by decide)) (fun _ hk => hk.2) (.slice Ao60 y178.length co60)) (fun _ hk => trivial))⟩, ⟨sF_ (Kd.S_mono (Kd.S_far (p := ⟨gb158, 1, none⟩) (Kd.S_types HO180.out BK158.out (by decide)) (fun _ hk => hk.2) (.slice Ao60 y178.length co60)) (fun _ hk => trivial))⟩, ⟨uf_ BK156 NB156_158.out⟩, ⟨uf_ BK157 NB157_158.out⟩, ⟨up_ BK158⟩, ⟨hs4_ GE156.out GE157.out GE158.out GE171.out⟩⟩

/-! ### spec_l1In: function 82 -/
def spec_l1In.f (a0 : Int) (a1 : Int) (a2 : Int) : Option (Bool) := if a0 ≥ a1 then (some (decide (a0 ≤ a2))) else (some false)
set_option maxHeartbeats 8000000 in
set_option maxRecDepth 100000 in
theorem spec_l1In.calls (a0 : Int) (a1 : Int) (a2 : Int) (r : Bool) (w : World) (h : spec_l1In.f a0 a1 a2 = some r) :
  Calls Try.prog 82 #[.int .i64 a0, .int .i64 a1, .int .i64 a2] w fun e w' => e = .returned (.bool r) ∧ Drawn0 w w' := by
 have H : (if a0 ≥ a1 then (some (decide (a0 ≤ a2))) else (some false)) = some r := h
 clear h
 replace H := ite_ H
 obtain ⟨c4, H⟩ | ⟨c4, H⟩ := H
 rotate_left
 ·have c4b0 := dne_ c4
  clear c4
  obtain rfl := Option.some.inj H
  go_enter Try.func82, Try.ntmps82
  go_wp2
  go_ret
  exact ⟨by first | rfl | (simp; done) | (simp [*]; done), dr_⟩
 have c4b0 := dge_ c4
 clear c4
 obtain rfl := Option.some.inj H
 go_enter Try.func82, Try.ntmps82
 go_wp2
 go_ret
 exact ⟨by first | rfl | (simp; done) | (simp [*]; done), dr_⟩

end Go.Proofs.Ytojdaolclcmalaa.QFnExactRebuildFrom
