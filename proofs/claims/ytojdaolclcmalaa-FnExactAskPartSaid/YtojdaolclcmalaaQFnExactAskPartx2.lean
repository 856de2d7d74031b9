/- Functions that one statement reaches: of each a plain function, and the proof that calls come to it. Conditions: those that each contract names. Written by a program of this repository. -/
import Derived.Test.YtojdaolclcmalaaVAskParta
import Derived.Test.YtojdaolclcmalaaQFnExactAskPartx1
namespace Go.Proofs.Ytojdaolclcmalaa.QFnExactAskPart
open Go.RowKit Go.Proofs.YtojdaolclcmalaaW.PrintWords Go.Proofs.YtojdaolclcmalaaW.PrintLast Go.Proofs.YtojdaolclcmalaaW.PrintMore
attribute [local go_sem] max2_int min2_int max_two min_two max_three min_three max_four min_four Go.Proofs.YtojdaolclcmalaaW.PrintMore2.isSome_setCell   -- for this text's walks alone
set_option linter.unusedVariables false
set_option linter.unusedSimpArgs false

/-! ### laws_szStringS: function 61 -/
def laws_szStringS.l0 : Nat → List ByteArray → Int → Int → Option (Int)
 | 0, _, _, _ => none
 | k + 1, x0, x1, x5 => if x5 < (x0.length : Int) then (if 0 ≤ x5 then (if (wrap64 (x1 - ((rdOf ByteArray.empty x0 x5).size : Int))) < 0 then (some (-1)) else (laws_szStringS.l0 k x0 (wrap64 (x1 - ((rdOf ByteArray.empty x0 x5).size : Int))) (wrap64 (x5 + 1)))) else (none)) else (some x1)
def laws_szStringS.f (k : Nat) (l0 : List ByteArray) (a1 : Int) : Option (Int) := if (wrap64 (a1 - (l0.length : Int))) < 0 then (some (-1)) else (laws_szStringS.l0 k l0 (wrap64 (a1 - (l0.length : Int))) 0)
theorem laws_szStringS.mono_l : ∀ k, (∀ y0 y1 y2, LeO (laws_szStringS.l0 k y0 y1 y2) (laws_szStringS.l0 (k + 1) y0 y1 y2))
 | 0 => fun _ _ _ r h => by simp [laws_szStringS.l0] at h
 | k + 1 => by
  have ih0 := laws_szStringS.mono_l k
  ·intro y0 y1 y2
   unfold laws_szStringS.l0
   repeat' first
   | (with_reducible first | apply ih0 | exact LeO.refl _ | exact LeO.none _ | refine LeO.ite ?_ ?_ | refine LeO.bind ?_ (fun _ => ?_))
theorem laws_szStringS.mono : ∀ a0 a1 k, LeO (laws_szStringS.f k a0 a1) (laws_szStringS.f (k + 1) a0 a1) := by
 intro a0 a1 k
 have ih0 := laws_szStringS.mono_l k
 unfold laws_szStringS.f
 repeat' first
   | (with_reducible first | apply ih0 | exact LeO.refl _ | exact LeO.none _ | refine LeO.ite ?_ ?_ | refine LeO.bind ?_ (fun _ => ?_))
set_option maxHeartbeats 8000000 in
set_option maxRecDepth 100000 in
theorem laws_szStringS.calls (k : Nat) (A0 : Option Addr) (c0 : Nat) (l0 : List ByteArray) (a1 : Int) (r : Int) (w : World) (hr0 : Kd.C Kd.string w A0 l0.length l0) (hc0 : l0.length ≤ c0) (h : laws_szStringS.f k l0 a1 = some r) :
  Calls Try.prog 61 #[.slice A0 l0.length c0, .int .i64 a1] w fun e w' => e = .returned (.int .i64 r) ∧ Drawn0 w w' := by
 have kA := am_ hr0
 have nA := am_ hc0
 clear hr0 hc0
 have H : (if (wrap64 (a1 - (l0.length : Int))) < 0 then (some (-1)) else (laws_szStringS.l0 k l0 (wrap64 (a1 - (l0.length : Int))) 0)) = some r := h
 clear h
 replace H := ite_ H
 obtain ⟨c3, H⟩ | ⟨c3, H⟩ := H
 ·have gA := decide_eq_true c3
  clear c3
  obtain rfl := Option.some.inj H
  go_enter Try.func61, Try.ntmps61
  go_wp2
  go_ret
  exact ⟨by first | rfl | (simp; done) | (simp [*]; done), dr_⟩
 have gA := decide_eq_false c3
 clear c3
 have H' := am_ H
 clear H
 go_enter Try.func61, Try.ntmps61
 go_wp2
 go_loopg [1, 5] k (fun kq v1 v5 w' => ∃ (dA : Int) (aA : Int), v1 = .int .i64 dA ∧ v5 = .int .i64 aA ∧ Aside0 (laws_szStringS.l0 kq l0 dA aA = some r) ∧ Aside0 (kq ≤ k) ∧ Drawn0 w w')
 case atStart => exact ⟨(wrap64 (a1 - (l0.length : Int))), (0), sr_, sr_, H', ⟨Nat.le_refl _⟩, dr_⟩
 case round =>
  clear H'
  try clear c3
  try clear gA
  obtain ⟨dA, aA, rfl, rfl, HA, lA, ⟨m1, rfl⟩⟩ := hrel
  cases gk with
  | zero => exact absurd HA.out (by simp [laws_szStringS.l0])
  | succ k1 =>
   have H := HA.out
   clear HA
   simp only [laws_szStringS.l0] at H
   replace H := ite_ H
   obtain ⟨c4, H⟩ | ⟨c4, H⟩ := H
   rotate_left
   ·have iA := decide_eq_false c4
    clear c4
    obtain rfl := Option.some.inj H
    go_wp2
    go_ret
    exact ⟨by first | rfl | (simp; done) | (simp [*]; done), dr_⟩
   have iA := decide_eq_true c4
   clear c4
   replace H := ifs_ H
   obtain ⟨c5, H⟩ := H
   have mA := decide_eq_true c5
   clear c5
   replace H := ite_ H
   obtain ⟨c6, H⟩ | ⟨c6, H⟩ := H
   ·have jA := decide_eq_true c6
    clear c6
    obtain rfl := Option.some.inj H
    have bA : 0 ≤ (aA : Int) := oa_
    have cA : aA < (l0.length : Int) := oa_
    obtain ⟨hA, fA, eA⟩ := Kd.at_string kA.out aA bA cA
    cases fA
    replace bA := eq_true bA
    replace cA := eq_true cA
    go_wp2
    go_ret
    exact ⟨by first | rfl | (simp; done) | (simp [*]; done), dr_⟩
   have jA := decide_eq_false c6
   clear c6
   have H' := am_ H
   clear H
   have bA : 0 ≤ (aA : Int) := oa_
   have cA : aA < (l0.length : Int) := oa_
   obtain ⟨hA, fA, eA⟩ := Kd.at_string kA.out aA bA cA
   cases fA
   replace bA := eq_true bA
   replace cA := eq_true cA
   go_wp2
   go_roundg k1
   case measure => have := lA.out; omega
   case rel => exact ⟨(wrap64 (dA - ((rdOf ByteArray.empty l0 aA).size : Int))), (wrap64 (aA + 1)), sr_, sr_, H', ⟨by have := lA.out; omega⟩, dr_⟩

/-! ### laws_szBatch: function 70 -/
def laws_szBatch.f (k : Nat) (a0_0 : Int) (a0_1 : Int) (a0_2 : Int) (a0_3 : Int) (l0_4 : List ByteArray) (a1 : Int) : Option (Int) := (laws_szStringS.f k l0_4 a1).bind fun t103 => (if t103 < 0 then (some (-1)) else (some t103))
theorem laws_szBatch.mono : ∀ a0 a1 a2 a3 a4 a5 k, LeO (laws_szBatch.f k a0 a1 a2 a3 a4 a5) (laws_szBatch.f (k + 1) a0 a1 a2 a3 a4 a5) := by
 intro a0 a1 a2 a3 a4 a5 k
 unfold laws_szBatch.f
 repeat' first
   | (with_reducible first | apply laws_szStringS.mono | exact LeO.refl _ | exact LeO.none _ | refine LeO.ite ?_ ?_ | refine LeO.bind ?_ (fun _ => ?_))
set_option maxHeartbeats 8000000 in
set_option maxRecDepth 100000 in
theorem laws_szBatch.calls (k : Nat) (a0_0 : Int) (a0_1 : Int) (a0_2 : Int) (a0_3 : Int) (A0_4 : Option Addr) (c0_4 : Nat) (l0_4 : List ByteArray) (a1 : Int) (r : Int) (w : World) (hr0_4 : Kd.C Kd.string w A0_4 l0_4.length l0_4) (hc0_4 : l0_4.length ≤ c0_4) (h : laws_szBatch.f k a0_0 a0_1 a0_2 a0_3 l0_4 a1 = some r) :
  Calls Try.prog 70 #[.agg #[.int .i64 a0_0, .int .i64 a0_1, .int .i64 a0_2, .int .i64 a0_3, .slice A0_4 l0_4.length c0_4], .int .i64 a1] w fun e w' => e = .returned (.int .i64 r) ∧ Below w.heap.size w w' := by
 have hu99 := Try.underlying99
 have dA := am_ hr0_4
 have eA := am_ hc0_4
 clear hr0_4 hc0_4
 have HB := am_ (Below.refl w.heap.size w)
 have H : ((laws_szStringS.f k l0_4 a1).bind fun aA => (if aA < 0 then (some (-1)) else (some aA))) = some r := h
 clear h
 replace H := bnd_ H
 obtain ⟨aA, A3, H⟩ := H
 replace H := ite_ H
 obtain ⟨c4, H⟩ | ⟨c4, H⟩ := H
 ·have gA := decide_eq_true c4
  clear c4
  obtain rfl := Option.some.inj H
  go_enter Try.func70, Try.ntmps70
  go_wp2_with (first | ((with_reducible refine gate_dst (N := 2) rfl ?_); refine bq_ (N := 2) #[.int .i64 a0_0, .int .i64 a0_1, .int .i64 a0_2, .int .i64 a0_3, .slice A0_4 l0_4.length c0_4] 99 ?_; intro fA hg w5 bA hb; have cA := ge_ hg; replace HB := nb_ hb; clear hb hg; obtain ⟨hA, iA, jA, kA, lA, mA, nA, oA, pA, qA⟩ := cf5_ bA.out) | ((with_reducible refine gate_callee (f := 61) rfl ?_); refine gl_ 8 Try.func61 #[.slice A0_4 l0_4.length c0_4, .int .i64 a1] rfl ma_ ?_; (with_reducible refine (laws_szStringS.calls k _ _ l0_4 a1 aA _ ?side1 ?side2 A3.out).mono ?_); (case side1 => exact cs_ ((Kd.C_below dA.out HB.out))); (case side2 => exact eA.out); rintro e w' ⟨rfl, ⟨nd, rfl⟩⟩; refine ⟨_, rfl, ?_⟩))
  go_ret
  exact ⟨er_, hs_ cA.out⟩
 have gA := decide_eq_false c4
 clear c4
 obtain rfl := Option.some.inj H
 go_enter Try.func70, Try.ntmps70
 go_wp2_with (first | ((with_reducible refine gate_dst (N := 2) rfl ?_); refine bq_ (N := 2) #[.int .i64 a0_0, .int .i64 a0_1, .int .i64 a0_2, .int .i64 a0_3, .slice A0_4 l0_4.length c0_4] 99 ?_; intro fA hg w7 bA hb; have cA := ge_ hg; replace HB := nb_ hb; clear hb hg; obtain ⟨rA, sA, tA, uA, vA, wA, xA, yA, zA, aB⟩ := cf5_ bA.out) | ((with_reducible refine gate_callee (f := 61) rfl ?_); refine gl_ 8 Try.func61 #[.slice A0_4 l0_4.length c0_4, .int .i64 a1] rfl ma_ ?_; (with_reducible refine (laws_szStringS.calls k _ _ l0_4 a1 aA _ ?side1 ?side2 A3.out).mono ?_); (case side1 => exact cs_ ((Kd.C_below dA.out HB.out))); (case side2 => exact eA.out); rintro e w' ⟨rfl, ⟨nd, rfl⟩⟩; refine ⟨_, rfl, ?_⟩))
 go_ret
 exact ⟨er_, hs_ cA.out⟩

/-! ### laws_szBatchS: function 41 -/
def laws_szBatchS.l0 : Nat → List (S99) → Int → Int → Option (Int)
 | 0, _, _, _ => none
 | k + 1, x0, x1, x5 => if x5 < (x0.length : Int) then (if 0 ≤ x5 then ((laws_szBatch.f k ((rd_T99 x0 x5).f0) ((rd_T99 x0 x5).f1) ((rd_T99 x0 x5).f2) ((rd_T99 x0 x5).f3) ((rd_T99 x0 x5).f4) x1).bind fun t105 => (if t105 < 0 then (some (-1)) else (laws_szBatchS.l0 k x0 t105 (wrap64 (x5 + 1))))) else (none)) else (some x1)
def laws_szBatchS.f (k : Nat) (l0 : List (S99)) (a1 : Int) : Option (Int) := if (wrap64 (a1 - (l0.length : Int))) < 0 then (some (-1)) else (laws_szBatchS.l0 k l0 (wrap64 (a1 - (l0.length : Int))) 0)
theorem laws_szBatchS.mono_l : ∀ k, (∀ y0 y1 y2, LeO (laws_szBatchS.l0 k y0 y1 y2) (laws_szBatchS.l0 (k + 1) y0 y1 y2))
 | 0 => fun _ _ _ r h => by simp [laws_szBatchS.l0] at h
 | k + 1 => by
  have ih0 := laws_szBatchS.mono_l k
  ·intro y0 y1 y2
   unfold laws_szBatchS.l0
   repeat' first
   | (with_reducible first | apply ih0 | apply laws_szBatch.mono | exact LeO.refl _ | exact LeO.none _ | refine LeO.ite ?_ ?_ | refine LeO.bind ?_ (fun _ => ?_))
theorem laws_szBatchS.mono : ∀ a0 a1 k, LeO (laws_szBatchS.f k a0 a1) (laws_szBatchS.f (k + 1) a0 a1) := by
 intro a0 a1 k
 have ih0 := laws_szBatchS.mono_l k
 unfold laws_szBatchS.f
 repeat' first
   | (with_reducible first | apply ih0 | apply laws_szBatch.mono | exact LeO.refl _ | exact LeO.none _ | refine LeO.ite ?_ ?_ | refine LeO.bind ?_ (fun _ => ?_))
set_option maxHeartbeats 8000000 in
set_option maxRecDepth 100000 in
theorem laws_szBatchS.calls (k : Nat) (A0 : Option Addr) (c0 : Nat) (l0 : List (S99)) (a1 : Int) (r : Int) (w : World) (hr0 : Kd.C k99 w A0 l0.length l0) (hc0 : l0.length ≤ c0) (h : laws_szBatchS.f k l0 a1 = some r) :
  Calls Try.prog 41 #[.slice A0 l0.length c0, .int .i64 a1] w fun e w' => e = .returned (.int .i64 r) ∧ Below w.heap.size w w' := by
 have hu99 := Try.underlying99
 have vA := am_ hr0
 have yA := am_ hc0
 clear hr0 hc0
 have HB := am_ (Below.refl w.heap.size w)
 have H : (if (wrap64 (a1 - (l0.length : Int))) < 0 then (some (-1)) else (laws_szBatchS.l0 k l0 (wrap64 (a1 - (l0.length : Int))) 0)) = some r := h
 clear h
 replace H := ite_ H
 obtain ⟨c3, H⟩ | ⟨c3, H⟩ := H
 ·have rA := decide_eq_true c3
  clear c3
  obtain rfl := Option.some.inj H
  go_enter Try.func41, Try.ntmps41
  go_wp2
  go_ret
  exact ⟨er_, hb_⟩
 have rA := decide_eq_false c3
 clear c3
 have H' := am_ H
 clear H
 go_enter Try.func41, Try.ntmps41
 go_wp2
 go_loopg [1, 5] k (fun kq v1 v5 w' => ∃ (kA : Int) (aA : Int), v1 = .int .i64 kA ∧ v5 = .int .i64 aA ∧ Aside0 (laws_szBatchS.l0 kq l0 kA aA = some r) ∧ Aside0 (kq ≤ k) ∧ Aside0 (Below w.heap.size w w'))
 case atStart => exact ⟨(wrap64 (a1 - (l0.length : Int))), (0), sr_, sr_, H', ⟨Nat.le_refl _⟩, ⟨hb_⟩⟩
 case round =>
  clear H'
  try clear c3
  try clear rA
  obtain ⟨kA, aA, rfl, rfl, HA, wA, HB⟩ := hrel
  cases gk with
  | zero => exact absurd HA.out (by simp [laws_szBatchS.l0])
  | succ k1 =>
   have H := HA.out
   clear HA
   simp only [laws_szBatchS.l0] at H
   replace H := ite_ H
   obtain ⟨c4, H⟩ | ⟨c4, H⟩ := H
   rotate_left
   ·have tA := decide_eq_false c4
    clear c4
    obtain rfl := Option.some.inj H
    go_wp2
    go_ret
    exact ⟨er_, hb_⟩
   have tA := decide_eq_true c4
   clear c4
   replace H := ifs_ H
   obtain ⟨c5, H⟩ := H
   have xA := decide_eq_true c5
   clear c5
   replace H := bnd_ H
   obtain ⟨pA, A6, H⟩ := H
   replace H := ite_ H
   obtain ⟨c7, H⟩ | ⟨c7, H⟩ := H
   ·have uA := decide_eq_true c7
    clear c7
    obtain rfl := Option.some.inj H
    have lA : 0 ≤ (aA : Int) := oa_
    have mA : aA < (l0.length : Int) := oa_
    obtain ⟨sA, nA, oA, qA, bA, cA, dA, eA, fA, gA, hA⟩ := at_T99 vA.out aA lA mA
    cases qA
    replace bA := pc_ HB.out bA
    replace cA := pc_ HB.out cA
    replace dA := pc_ HB.out dA
    replace eA := pc_ HB.out eA
    replace fA := pc_ HB.out fA
    have iA := am_ hA
    have jA := am_ gA
    clear hA gA
    replace lA := eq_true lA
    replace mA := eq_true mA
    go_wp2_with (first | ((with_reducible refine gate_callee (f := 70) rfl ?_); refine gl_ 23 Try.func70 #[.agg #[.int .i64 ((rd_T99 l0 aA).f0), .int .i64 ((rd_T99 l0 aA).f1), .int .i64 ((rd_T99 l0 aA).f2), .int .i64 ((rd_T99 l0 aA).f3), .slice nA ((rd_T99 l0 aA).f4).length oA], .int .i64 kA] rfl ma_ ?_; (with_reducible refine (laws_szBatch.calls k1 ((rd_T99 l0 aA).f0) ((rd_T99 l0 aA).f1) ((rd_T99 l0 aA).f2) ((rd_T99 l0 aA).f3) _ _ ((rd_T99 l0 aA).f4) kA pA _ ?side1 ?side2 A6.out).mono ?_); (case side1 => exact cs_ ((Kd.C_below iA.out HB.out))); (case side2 => exact jA.out); rintro e w8 ⟨rfl, hb⟩; refine ⟨_, rfl, ?_⟩; replace HB := nb_ hb; (try clear hb); (try clear hb2); (try clear hk); (try clear hi)))
    go_ret
    exact ⟨er_, hb_⟩
   have uA := decide_eq_false c7
   clear c7
   have H' := am_ H
   clear H
   have lA : 0 ≤ (aA : Int) := oa_
   have mA : aA < (l0.length : Int) := oa_
   obtain ⟨sA, nA, oA, qA, bA, cA, dA, eA, fA, gA, hA⟩ := at_T99 vA.out aA lA mA
   cases qA
   replace bA := pc_ HB.out bA
   replace cA := pc_ HB.out cA
   replace dA := pc_ HB.out dA
   replace eA := pc_ HB.out eA
   replace fA := pc_ HB.out fA
   have iA := am_ hA
   have jA := am_ gA
   clear hA gA
   replace lA := eq_true lA
   replace mA := eq_true mA
   go_wp2_with (first | ((with_reducible refine gate_callee (f := 70) rfl ?_); refine gl_ 23 Try.func70 #[.agg #[.int .i64 ((rd_T99 l0 aA).f0), .int .i64 ((rd_T99 l0 aA).f1), .int .i64 ((rd_T99 l0 aA).f2), .int .i64 ((rd_T99 l0 aA).f3), .slice nA ((rd_T99 l0 aA).f4).length oA], .int .i64 kA] rfl ma_ ?_; (with_reducible refine (laws_szBatch.calls k1 ((rd_T99 l0 aA).f0) ((rd_T99 l0 aA).f1) ((rd_T99 l0 aA).f2) ((rd_T99 l0 aA).f3) _ _ ((rd_T99 l0 aA).f4) kA pA _ ?side1 ?side2 A6.out).mono ?_); (case side1 => exact cs_ ((Kd.C_below iA.out HB.out))); (case side2 => exact jA.out); rintro e w9 ⟨rfl, hb⟩; refine ⟨_, rfl, ?_⟩; replace HB := nb_ hb; (try clear hb); (try clear hb2); (try clear hk); (try clear hi)))
   go_roundg k1
   case measure => have := wA.out; omega
   case rel => exact ⟨(pA), (wrap64 (aA + 1)), sr_, sr_, H', ⟨by have := wA.out; omega⟩, ⟨hb_⟩⟩

/-! ### laws_szDoneS: function 92 -/
def laws_szDoneS.f (l0 : List (S128)) (a1 : Int) : Option (Int) := if (wrap64 (a1 - (l0.length : Int))) < 0 then (some (-1)) else (some (wrap64 (a1 - (l0.length : Int))))
set_option maxHeartbeats 8000000 in
set_option maxRecDepth 100000 in
theorem laws_szDoneS.calls (A0 : Option Addr) (c0 : Nat) (l0 : List (S128)) (a1 : Int) (r : Int) (w : World) (hr0 : Kd.C k128 w A0 l0.length l0) (hc0 : l0.length ≤ c0) (h : laws_szDoneS.f l0 a1 = some r) :
  Calls Try.prog 92 #[.slice A0 l0.length c0, .int .i64 a1] w fun e w' => e = .returned (.int .i64 r) ∧ Drawn0 w w' := by
 have bA := am_ hr0
 have cA := am_ hc0
 clear hr0 hc0
 have H : (if (wrap64 (a1 - (l0.length : Int))) < 0 then (some (-1)) else (some (wrap64 (a1 - (l0.length : Int))))) = some r := h
 clear h
 replace H := ite_ H
 obtain ⟨c3, H⟩ | ⟨c3, H⟩ := H
 ·have aA := decide_eq_true c3
  clear c3
  obtain rfl := Option.some.inj H
  go_enter Try.func92, Try.ntmps92
  go_wp2
  go_ret
  exact ⟨by first | rfl | (simp; done) | (simp [*]; done), dr_⟩
 have aA := decide_eq_false c3
 clear c3
 obtain rfl := Option.some.inj H
 go_enter Try.func92, Try.ntmps92
 go_wp2
 go_ret
 exact ⟨by first | rfl | (simp; done) | (simp [*]; done), dr_⟩

/-! ### laws_szProducer: function 73 -/
def laws_szProducer.f (a0_0 : Int) (a0_1 : Int) (a0_2 : Int) (l0_3 : List (S128)) (a1 : Int) : Option (Int) := (laws_szDoneS.f l0_3 a1).bind fun t107 => (if t107 < 0 then (some (-1)) else (some t107))
set_option maxHeartbeats 8000000 in
set_option maxRecDepth 100000 in
theorem laws_szProducer.calls (a0_0 : Int) (a0_1 : Int) (a0_2 : Int) (A0_3 : Option Addr) (c0_3 : Nat) (l0_3 : List (S128)) (a1 : Int) (r : Int) (w : World) (hr0_3 : Kd.C k128 w A0_3 l0_3.length l0_3) (hc0_3 : l0_3.length ≤ c0_3) (h : laws_szProducer.f a0_0 a0_1 a0_2 l0_3 a1 = some r) :
  Calls Try.prog 73 #[.agg #[.int .i64 a0_0, .int .i64 a0_1, .int .i64 a0_2, .slice A0_3 l0_3.length c0_3], .int .i64 a1] w fun e w' => e = .returned (.int .i64 r) ∧ Below w.heap.size w w' := by
 have hu105 := Try.underlying105
 have dA := am_ hr0_3
 have eA := am_ hc0_3
 clear hr0_3 hc0_3
 have HB := am_ (Below.refl w.heap.size w)
 have H : ((laws_szDoneS.f l0_3 a1).bind fun aA => (if aA < 0 then (some (-1)) else (some aA))) = some r := h
 clear h
 replace H := bnd_ H
 obtain ⟨aA, A3, H⟩ := H
 replace H := ite_ H
 obtain ⟨c4, H⟩ | ⟨c4, H⟩ := H
 ·have gA := decide_eq_true c4
  clear c4
  obtain rfl := Option.some.inj H
  go_enter Try.func73, Try.ntmps73
  go_wp2_with (first | ((with_reducible refine gate_dst (N := 2) rfl ?_); refine bq_ (N := 2) #[.int .i64 a0_0, .int .i64 a0_1, .int .i64 a0_2, .slice A0_3 l0_3.length c0_3] 105 ?_; intro fA hg w5 bA hb; have cA := ge_ hg; replace HB := nb_ hb; clear hb hg; obtain ⟨hA, iA, jA, kA, lA, mA, nA, oA⟩ := cf4_ bA.out) | ((with_reducible refine gate_callee (f := 92) rfl ?_); refine gl_ 8 Try.func92 #[.slice A0_3 l0_3.length c0_3, .int .i64 a1] rfl ma_ ?_; (with_reducible refine (laws_szDoneS.calls _ _ l0_3 a1 aA _ ?side1 ?side2 A3.out).mono ?_); (case side1 => exact cs_ ((Kd.C_below dA.out HB.out))); (case side2 => exact eA.out); rintro e w' ⟨rfl, ⟨nd, rfl⟩⟩; refine ⟨_, rfl, ?_⟩))
  go_ret
  exact ⟨er_, hs_ cA.out⟩
 have gA := decide_eq_false c4
 clear c4
 obtain rfl := Option.some.inj H
 go_enter Try.func73, Try.ntmps73
 go_wp2_with (first | ((with_reducible refine gate_dst (N := 2) rfl ?_); refine bq_ (N := 2) #[.int .i64 a0_0, .int .i64 a0_1, .int .i64 a0_2, .slice A0_3 l0_3.length c0_3] 105 ?_; intro fA hg w7 bA hb; have cA := ge_ hg; replace HB := nb_ hb; clear hb hg; obtain ⟨pA, qA, rA, sA, tA, uA, vA, wA⟩ := cf4_ bA.out) | ((with_reducible refine gate_callee (f := 92) rfl ?_); refine gl_ 8 Try.func92 #[.slice A0_3 l0_3.length c0_3, .int .i64 a1] rfl ma_ ?_; (with_reducible refine (laws_szDoneS.calls _ _ l0_3 a1 aA _ ?side1 ?side2 A3.out).mono ?_); (case side1 => exact cs_ ((Kd.C_below dA.out HB.out))); (case side2 => exact eA.out); rintro e w' ⟨rfl, ⟨nd, rfl⟩⟩; refine ⟨_, rfl, ?_⟩))
 go_ret
 exact ⟨er_, hs_ cA.out⟩

/-! ### laws_szProducerS: function 47 -/
def laws_szProducerS.l0 : Nat → List (S105) → Int → Int → Option (Int)
 | 0, _, _, _ => none
 | k + 1, x0, x1, x5 => if x5 < (x0.length : Int) then (if 0 ≤ x5 then ((laws_szProducer.f ((rd_T105 x0 x5).f0) ((rd_T105 x0 x5).f1) ((rd_T105 x0 x5).f2) ((rd_T105 x0 x5).f3) x1).bind fun t109 => (if t109 < 0 then (some (-1)) else (laws_szProducerS.l0 k x0 t109 (wrap64 (x5 + 1))))) else (none)) else (some x1)
def laws_szProducerS.f (k : Nat) (l0 : List (S105)) (a1 : Int) : Option (Int) := if (wrap64 (a1 - (l0.length : Int))) < 0 then (some (-1)) else (laws_szProducerS.l0 k l0 (wrap64 (a1 - (l0.length : Int))) 0)
theorem laws_szProducerS.mono_l : ∀ k, (∀ y0 y1 y2, LeO (laws_szProducerS.l0 k y0 y1 y2) (laws_szProducerS.l0 (k + 1) y0 y1 y2))
 | 0 => fun _ _ _ r h => by simp [laws_szProducerS.l0] at h
 | k + 1 => by
  have ih0 := laws_szProducerS.mono_l k
  ·intro y0 y1 y2
   unfold laws_szProducerS.l0
   repeat' first
   | (with_reducible first | apply ih0 | exact LeO.refl _ | exact LeO.none _ | refine LeO.ite ?_ ?_ | refine LeO.bind ?_ (fun _ => ?_))
theorem laws_szProducerS.mono : ∀ a0 a1 k, LeO (laws_szProducerS.f k a0 a1) (laws_szProducerS.f (k + 1) a0 a1) := by
 intro a0 a1 k
 have ih0 := laws_szProducerS.mono_l k
 unfold laws_szProducerS.f
 repeat' first
   | (with_reducible first | apply ih0 | exact LeO.refl _ | exact LeO.none _ | refine LeO.ite ?_ ?_ | refine LeO.bind ?_ (fun _ => ?_))
set_option maxHeartbeats 8000000 in
set_option maxRecDepth 100000 in
theorem laws_szProducerS.calls (k : Nat) (A0 : Option Addr) (c0 : Nat) (l0 : List (S105)) (a1 : Int) (r : Int) (w : World) (hr0 : Kd.C k105 w A0 l0.length l0) (hc0 : l0.length ≤ c0) (h : laws_szProducerS.f k l0 a1 = some r) :
  Calls Try.prog 47 #[.slice A0 l0.length c0, .int .i64 a1] w fun e w' => e = .returned (.int .i64 r) ∧ Below w.heap.size w w' := by
 have hu105 := Try.underlying105
 have uA := am_ hr0
 have xA := am_ hc0
 clear hr0 hc0
 have HB := am_ (Below.refl w.heap.size w)
 have H : (if (wrap64 (a1 - (l0.length : Int))) < 0 then (some (-1)) else (laws_szProducerS.l0 k l0 (wrap64 (a1 - (l0.length : Int))) 0)) = some r := h
 clear h
 replace H := ite_ H
 obtain ⟨c3, H⟩ | ⟨c3, H⟩ := H
 ·have qA := decide_eq_true c3
  clear c3
  obtain rfl := Option.some.inj H
  go_enter Try.func47, Try.ntmps47
  go_wp2
  go_ret
  exact ⟨er_, hb_⟩
 have qA := decide_eq_false c3
 clear c3
 have H' := am_ H
 clear H
 go_enter Try.func47, Try.ntmps47
 go_wp2
 go_loopg [1, 5] k (fun kq v1 v5 w' => ∃ (jA : Int) (aA : Int), v1 = .int .i64 jA ∧ v5 = .int .i64 aA ∧ Aside0 (laws_szProducerS.l0 kq l0 jA aA = some r) ∧ Aside0 (kq ≤ k) ∧ Aside0 (Below w.heap.size w w'))
 case atStart => exact ⟨(wrap64 (a1 - (l0.length : Int))), (0), sr_, sr_, H', ⟨Nat.le_refl _⟩, ⟨hb_⟩⟩
 case round =>
  clear H'
  try clear c3
  try clear qA
  obtain ⟨jA, aA, rfl, rfl, HA, vA, HB⟩ := hrel
  cases gk with
  | zero => exact absurd HA.out (by simp [laws_szProducerS.l0])
  | succ k1 =>
   have H := HA.out
   clear HA
   simp only [laws_szProducerS.l0] at H
   replace H := ite_ H
   obtain ⟨c4, H⟩ | ⟨c4, H⟩ := H
   rotate_left
   ·have sA := decide_eq_false c4
    clear c4
    obtain rfl := Option.some.inj H
    go_wp2
    go_ret
    exact ⟨er_, hb_⟩
   have sA := decide_eq_true c4
   clear c4
   replace H := ifs_ H
   obtain ⟨c5, H⟩ := H
   have wA := decide_eq_true c5
   clear c5
   replace H := bnd_ H
   obtain ⟨oA, A6, H⟩ := H
   replace H := ite_ H
   obtain ⟨c7, H⟩ | ⟨c7, H⟩ := H
   ·have tA := decide_eq_true c7
    clear c7
    obtain rfl := Option.some.inj H
    have kA : 0 ≤ (aA : Int) := oa_
    have lA : aA < (l0.length : Int) := oa_
    obtain ⟨rA, mA, nA, pA, bA, cA, dA, eA, fA, gA⟩ := at_T105 uA.out aA kA lA
    cases pA
    replace bA := pc_ HB.out bA
    replace cA := pc_ HB.out cA
    replace dA := pc_ HB.out dA
    replace eA := pc_ HB.out eA
    have hA := am_ gA
    have iA := am_ fA
    clear gA fA
    replace kA := eq_true kA
    replace lA := eq_true lA
    go_wp2_with (first | ((with_reducible refine gate_callee (f := 73) rfl ?_); refine gl_ 23 Try.func73 #[.agg #[.int .i64 ((rd_T105 l0 aA).f0), .int .i64 ((rd_T105 l0 aA).f1), .int .i64 ((rd_T105 l0 aA).f2), .slice mA ((rd_T105 l0 aA).f3).length nA], .int .i64 jA] rfl ma_ ?_; (with_reducible refine (laws_szProducer.calls ((rd_T105 l0 aA).f0) ((rd_T105 l0 aA).f1) ((rd_T105 l0 aA).f2) _ _ ((rd_T105 l0 aA).f3) jA oA _ ?side1 ?side2 A6.out).mono ?_); (case side1 => exact cs_ ((Kd.C_below hA.out HB.out))); (case side2 => exact iA.out); rintro e w8 ⟨rfl, hb⟩; refine ⟨_, rfl, ?_⟩; replace HB := nb_ hb; (try clear hb); (try clear hb2); (try clear hk); (try clear hi)))
    go_ret
    exact ⟨er_, hb_⟩
   have tA := decide_eq_false c7
   clear c7
   have H' := am_ H
   clear H
   have kA : 0 ≤ (aA : Int) := oa_
   have lA : aA < (l0.length : Int) := oa_
   obtain ⟨rA, mA, nA, pA, bA, cA, dA, eA, fA, gA⟩ := at_T105 uA.out aA kA lA
   cases pA
   replace bA := pc_ HB.out bA
   replace cA := pc_ HB.out cA
   replace dA := pc_ HB.out dA
   replace eA := pc_ HB.out eA
   have hA := am_ gA
   have iA := am_ fA
   clear gA fA
   replace kA := eq_true kA
   replace lA := eq_true lA
   go_wp2_with (first | ((with_reducible refine gate_callee (f := 73) rfl ?_); refine gl_ 23 Try.func73 #[.agg #[.int .i64 ((rd_T105 l0 aA).f0), .int .i64 ((rd_T105 l0 aA).f1), .int .i64 ((rd_T105 l0 aA).f2), .slice mA ((rd_T105 l0 aA).f3).length nA], .int .i64 jA] rfl ma_ ?_; (with_reducible refine (laws_szProducer.calls ((rd_T105 l0 aA).f0) ((rd_T105 l0 aA).f1) ((rd_T105 l0 aA).f2) _ _ ((rd_T105 l0 aA).f3) jA oA _ ?side1 ?side2 A6.out).mono ?_); (case side1 => exact cs_ ((Kd.C_below hA.out HB.out))); (case side2 => exact iA.out); rintro e w9 ⟨rfl, hb⟩; refine ⟨_, rfl, ?_⟩; replace HB := nb_ hb; (try clear hb); (try clear hb2); (try clear hk); (try clear hi)))
   go_roundg k1
   case measure => have := vA.out; omega
   case rel => exact ⟨(oA), (wrap64 (aA + 1)), sr_, sr_, H', ⟨by have := vA.out; omega⟩, ⟨hb_⟩⟩

/-! ### laws_szPart: function 10 -/
def laws_szPart.f (k : Nat) (l0_0 : List (S105)) (l0_1 : List (S99)) (a0_2 : Int) (a1 : Int) : Option (Int) := (laws_szProducerS.f k l0_0 a1).bind fun t111 => (if t111 < 0 then (some (-1)) else ((laws_szBatchS.f k l0_1 t111).bind fun t112 => (if t112 < 0 then (some (-1)) else (some t112))))
theorem laws_szPart.mono : ∀ a0 a1 a2 a3 k, LeO (laws_szPart.f k a0 a1 a2 a3) (laws_szPart.f (k + 1) a0 a1 a2 a3) := by
 intro a0 a1 a2 a3 k
 unfold laws_szPart.f
 repeat' first
   | (with_reducible first | apply laws_szBatchS.mono | apply laws_szProducerS.mono | exact LeO.refl _ | exact LeO.none _ | refine LeO.ite ?_ ?_ | refine LeO.bind ?_ (fun _ => ?_))
set_option maxHeartbeats 8000000 in
set_option maxRecDepth 100000 in
theorem laws_szPart.calls (k : Nat) (A0_0 : Option Addr) (c0_0 : Nat) (l0_0 : List (S105)) (A0_1 : Option Addr) (c0_1 : Nat) (l0_1 : List (S99)) (a0_2 : Int) (a1 : Int) (r : Int) (w : World) (hr0_0 : Kd.C k105 w A0_0 l0_0.length l0_0) (hc0_0 : l0_0.length ≤ c0_0) (hr0_1 : Kd.C k99 w A0_1 l0_1.length l0_1) (hc0_1 : l0_1.length ≤ c0_1) (h : laws_szPart.f k l0_0 l0_1 a0_2 a1 = some r) :
  Calls Try.prog 10 #[.agg #[.slice A0_0 l0_0.length c0_0, .slice A0_1 l0_1.length c0_1, .int .i64 a0_2], .int .i64 a1] w fun e w' => e = .returned (.int .i64 r) ∧ Below w.heap.size w w' := by
 have hu25 := Try.underlying25
 have dA := am_ hr0_0
 have eA := am_ hc0_0
 clear hr0_0 hc0_0
 have gA := am_ hr0_1
 have hA := am_ hc0_1
 clear hr0_1 hc0_1
 have HB := am_ (Below.refl w.heap.size w)
 have H : ((laws_szProducerS.f k l0_0 a1).bind fun cA => (if cA < 0 then (some (-1)) else ((laws_szBatchS.f k l0_1 cA).bind fun fA => (if fA < 0 then (some (-1)) else (some fA))))) = some r := h
 clear h
 replace H := bnd_ H
 obtain ⟨cA, A3, H⟩ := H
 replace H := ite_ H
 obtain ⟨c4, H⟩ | ⟨c4, H⟩ := H
 ·have hB := decide_eq_true c4
  clear c4
  obtain rfl := Option.some.inj H
  go_enter Try.func10, Try.ntmps10
  go_wp2_with (first | ((with_reducible refine gate_dst (N := 2) rfl ?_); refine bq_ (N := 2) #[.slice A0_0 l0_0.length c0_0, .slice A0_1 l0_1.length c0_1, .int .i64 a0_2] 25 ?_; intro iA hg w5 aA hb; have bA := ge_ hg; replace HB := nb_ hb; clear hb hg; obtain ⟨iB, jB, kB, lB, mB, nB⟩ := cf3_ aA.out) | ((with_reducible refine gate_callee (f := 47) rfl ?_); refine gl_ 8 Try.func47 #[.slice A0_0 l0_0.length c0_0, .int .i64 a1] rfl ma_ ?_; (with_reducible refine (laws_szProducerS.calls k _ _ l0_0 a1 cA _ ?side1 ?side2 A3.out).mono ?_); (case side1 => exact cs_ ((Kd.C_below dA.out HB.out))); (case side2 => exact eA.out); rintro e w7 ⟨rfl, hb⟩; refine ⟨_, rfl, ?_⟩; replace aA := bK_ aA hb; replace HB := nc_ bA hb; (try clear hb); (try clear hb2); (try clear hk); (try clear hi)))
  go_ret
  exact ⟨er_, hs_ bA.out⟩
 have hB := decide_eq_false c4
 clear c4
 replace H := bnd_ H
 obtain ⟨fA, A8, H⟩ := H
 replace H := ite_ H
 obtain ⟨c9, H⟩ | ⟨c9, H⟩ := H
 ·have oB := decide_eq_true c9
  clear c9
  obtain rfl := Option.some.inj H
  go_enter Try.func10, Try.ntmps10
  go_wp2_with (first | ((with_reducible refine gate_dst (N := 2) rfl ?_); refine bq_ (N := 2) #[.slice A0_0 l0_0.length c0_0, .slice A0_1 l0_1.length c0_1, .int .i64 a0_2] 25 ?_; intro iA hg pB aA hb; have bA := ge_ hg; replace HB := nb_ hb; clear hb hg; obtain ⟨jA, kA, lA, mA, nA, oA⟩ := cf3_ aA.out) | ((with_reducible refine gate_callee (f := 47) rfl ?_); refine gl_ 8 Try.func47 #[.slice A0_0 l0_0.length c0_0, .int .i64 a1] rfl ma_ ?_; (with_reducible refine (laws_szProducerS.calls k _ _ l0_0 a1 cA _ ?side1 ?side2 A3.out).mono ?_); (case side1 => exact cs_ ((Kd.C_below dA.out HB.out))); (case side2 => exact eA.out); rintro e qB ⟨rfl, hb⟩; refine ⟨_, rfl, ?_⟩; replace aA := bK_ aA hb; replace HB := nc_ bA hb; (try clear hb); (try clear hb2); (try clear hk); (try clear hi); obtain ⟨pA, qA, rA, sA, tA, uA⟩ := cf3_ aA.out) | ((with_reducible refine gate_callee (f := 41) rfl ?_); refine gl_ 14 Try.func41 #[.slice A0_1 l0_1.length c0_1, .int .i64 cA] rfl ma_ ?_; (with_reducible refine (laws_szBatchS.calls k _ _ l0_1 cA fA _ ?side1 ?side2 A8.out).mono ?_); (case side1 => exact cs_ ((Kd.C_below gA.out HB.out))); (case side2 => exact hA.out); rintro e rB ⟨rfl, hb⟩; refine ⟨_, rfl, ?_⟩; replace aA := bK_ aA hb; replace HB := nc_ bA hb; (try clear hb); (try clear hb2); (try clear hk); (try clear hi)))
  go_ret
  exact ⟨er_, hs_ bA.out⟩
 have oB := decide_eq_false c9
 clear c9
 obtain rfl := Option.some.inj H
 go_enter Try.func10, Try.ntmps10
 go_wp2_with (first | ((with_reducible refine gate_dst (N := 2) rfl ?_); refine bq_ (N := 2) #[.slice A0_0 l0_0.length c0_0, .slice A0_1 l0_1.length c0_1, .int .i64 a0_2] 25 ?_; intro iA hg sB aA hb; have bA := ge_ hg; replace HB := nb_ hb; clear hb hg; obtain ⟨vA, wA, xA, yA, zA, aB⟩ := cf3_ aA.out) | ((with_reducible refine gate_callee (f := 47) rfl ?_); refine gl_ 8 Try.func47 #[.slice A0_0 l0_0.length c0_0, .int .i64 a1] rfl ma_ ?_; (with_reducible refine (laws_szProducerS.calls k _ _ l0_0 a1 cA _ ?side1 ?side2 A3.out).mono ?_); (case side1 => exact cs_ ((Kd.C_below dA.out HB.out))); (case side2 => exact eA.out); rintro e tB ⟨rfl, hb⟩; refine ⟨_, rfl, ?_⟩; replace aA := bK_ aA hb; replace HB := nc_ bA hb; (try clear hb); (try clear hb2); (try clear hk); (try clear hi); obtain ⟨bB, cB, dB, eB, fB, gB⟩ := cf3_ aA.out) | ((with_reducible refine gate_callee (f := 41) rfl ?_); refine gl_ 14 Try.func41 #[.slice A0_1 l0_1.length c0_1, .int .i64 cA] rfl ma_ ?_; (with_reducible refine (laws_szBatchS.calls k _ _ l0_1 cA fA _ ?side1 ?side2 A8.out).mono ?_); (case side1 => exact cs_ ((Kd.C_below gA.out HB.out))); (case side2 => exact hA.out); rintro e uB ⟨rfl, hb⟩; refine ⟨_, rfl, ?_⟩; replace aA := bK_ aA hb; replace HB := nc_ bA hb; (try clear hb); (try clear hb2); (try clear hk); (try clear hi)))
 go_ret
 exact ⟨er_, hs_ bA.out⟩

/-! ### laws_toStringS: function 62 -/
def laws_toStringS.l0 : Nat → List ByteArray → List ByteArray → Int → Option (List ByteArray)
 | 0, _, _, _ => none
 | k + 1, x0, x3, x4 => if x4 < (x0.length : Int) then (if 0 ≤ x4 then (if x4 < (x3.length : Int) then (laws_toStringS.l0 k x0 (x3.set (x4 : Int).toNat (rdOf ByteArray.empty x0 x4)) (wrap64 (x4 + 1))) else (none)) else (none)) else (some x3)
def laws_toStringS.f (k : Nat) (l0 : List ByteArray) : Option (List ByteArray) := if 0 ≤ (l0.length : Int) then (if ((l0.length : Int) : Int).toNat ≤ 17592186044416 then (laws_toStringS.l0 k l0 (List.replicate ((l0.length : Int) : Int).toNat (⟨#[]⟩ : ByteArray)) 0) else (none)) else (none)
theorem laws_toStringS.mono_l : ∀ k, (∀ y0 y1 y2, LeO (laws_toStringS.l0 k y0 y1 y2) (laws_toStringS.l0 (k + 1) y0 y1 y2))
 | 0 => fun _ _ _ r h => by simp [laws_toStringS.l0] at h
 | k + 1 => by
  have ih0 := laws_toStringS.mono_l k
  ·intro y0 y1 y2
   unfold laws_toStringS.l0
   repeat' first
   | (with_reducible first | apply ih0 | exact LeO.refl _ | exact LeO.none _ | refine LeO.ite ?_ ?_ | refine LeO.bind ?_ (fun _ => ?_))
theorem laws_toStringS.mono : ∀ a0 k, LeO (laws_toStringS.f k a0) (laws_toStringS.f (k + 1) a0) := by
 intro a0 k
 have ih0 := laws_toStringS.mono_l k
 unfold laws_toStringS.f
 repeat' first
   | (with_reducible first | apply ih0 | exact LeO.refl _ | exact LeO.none _ | refine LeO.ite ?_ ?_ | refine LeO.bind ?_ (fun _ => ?_))
set_option maxHeartbeats 8000000 in
set_option maxRecDepth 100000 in
theorem laws_toStringS.calls (k : Nat) (A0 : Option Addr) (c0 : Nat) (l0 : List ByteArray) (r : List ByteArray) (w : World) (hr0 : Kd.C Kd.string w A0 l0.length l0) (hc0 : l0.length ≤ c0) (h : laws_toStringS.f k l0 = some r) :
  Calls Try.prog 62 #[.slice A0 l0.length c0] w fun e w' => ∃ v0_ : Value, e = .returned (v0_) ∧ Kd.R Kd.string 9 w' w.heap.size (fun _ => True) v0_ r ∧ Below w.heap.size w w' := by
 have dB := am_ hr0
 have hB := am_ hc0
 clear hr0 hc0
 have HB := am_ (Below.refl w.heap.size w)
 have H : (if 0 ≤ (l0.length : Int) then (if ((l0.length : Int) : Int).toNat ≤ 17592186044416 then (laws_toStringS.l0 k l0 (List.replicate ((l0.length : Int) : Int).toNat (⟨#[]⟩ : ByteArray)) 0) else (none)) else (none)) = some r := h
 clear h
 replace H := ifs_ H
 obtain ⟨c2, H⟩ := H
 have pA := eq_true c2
 have qA := decide_eq_true c2
 clear c2
 replace H := ifs_ H
 obtain ⟨c3, H⟩ := H
 have rA := eq_true c3
 have sA := decide_eq_true c3
 clear c3
 obtain ⟨lA, bA⟩ : ∃ y_ : List ByteArray, y_ = (List.replicate ((l0.length : Int) : Int).toNat (⟨#[]⟩ : ByteArray)) := ⟨_, rfl⟩
 replace H : (laws_toStringS.l0 k l0 lA 0) = some r := by first | (rw [bA]; with_reducible exact H) | (have H2_ := (Option.bind_some _ _).symm.trans H; rw [bA]; with_reducible exact H2_) | (have H2_ := (Option.bind_some _ _).symm.trans H; with_reducible exact H2_) | with_reducible exact H | (rw [bA]; exact H) | exact H
 have gA := am_ bA
 clear bA
 have H' := am_ H
 clear H
 go_enter Try.func62, Try.ntmps62
 go_wp2_with (first | ((with_reducible refine gate_dst (N := 7) rfl ?_); refine Kd.R_make Kd.string _ 9 rfl (N := 7) rfl 27 _ _ rfl (l0.length : Int) rfl rfl Try.underlying27 (.string ⟨#[]⟩) 16 info9 rfl (by decide) (by omega) (⟨#[]⟩ : ByteArray) (ok := fun _ => True) (okp := fun _ => True) rfl (fun _ hk => hk) trivial (oa_) (Nat.le_trans (Nat.mul_le_mul_right _ (oa_ : (l0.length : Int).toNat ≤ 17592186044416)) (by omega)) (Below.refl _ _) (Nat.le_refl _) ?_; intro tA w4 mA hb hg_ hnew_; clear hg_ hnew_; (first | rw [← gA.out] at mA | (simp only [Int.reduceToNat] at mA; rw [← gA.out] at mA)); have nA := am_ (Kd.R_lower mA (below_size (hb_))); replace HB := nb_ hb; clear hb mA))
 go_loopg [4] k (fun kq v4 w' => ∃ (eA : List ByteArray) (aA : Int), v4 = .int .i64 aA ∧ Aside0 (laws_toStringS.l0 kq l0 eA aA = some r) ∧ Aside0 (kq ≤ k) ∧ Aside0 (Kd.R Kd.string 9 w' w.heap.size (fun _ => True) tA eA) ∧ Aside0 (Below w.heap.size w w'))
 case atStart => exact ⟨(lA), (0), sr_, H', ⟨Nat.le_refl _⟩, ⟨kr_ nA.out⟩, ⟨hb_⟩⟩
 case round =>
  clear H'
  try clear c2
  try clear pA
  try clear qA
  try clear c3
  try clear rA
  try clear sA
  obtain ⟨eA, aA, rfl, HA, xA, fA, HB⟩ := hrel
  cases gk with
  | zero => exact absurd HA.out (by simp [laws_toStringS.l0])
  | succ k1 =>
   have H := HA.out
   clear HA
   simp only [laws_toStringS.l0] at H
   replace H := ite_ H
   obtain ⟨c6, H⟩ | ⟨c6, H⟩ := H
   rotate_left
   ·have uA := decide_eq_false c6
    clear c6
    obtain rfl := Option.some.inj H
    go_wp2
    go_ret
    exact ⟨_, er_, kr_ fA.out, hb_⟩
   have uA := decide_eq_true c6
   clear c6
   replace H := ifs_ H
   obtain ⟨c7, H⟩ := H
   have eB := decide_eq_true c7
   clear c7
   replace H := ifs_ H
   obtain ⟨c8, H⟩ := H
   have fB := decide_eq_true c8
   clear c8
   obtain ⟨hA, cA⟩ : ∃ y_ : List ByteArray, y_ = (eA.set (aA : Int).toNat (rdOf ByteArray.empty l0 aA)) := ⟨_, rfl⟩
   replace H : (laws_toStringS.l0 k1 l0 hA (wrap64 (aA + 1))) = some r := by first | (rw [cA]; with_reducible exact H) | (have H2_ := (Option.bind_some _ _).symm.trans H; rw [cA]; with_reducible exact H2_) | (have H2_ := (Option.bind_some _ _).symm.trans H; with_reducible exact H2_) | with_reducible exact H | (rw [cA]; exact H) | exact H
   have oA := am_ cA
   clear cA
   have H' := am_ H
   clear H
   have iA : 0 ≤ (aA : Int) := oa_
   have jA : aA < (l0.length : Int) := oa_
   obtain ⟨yA, vA, dA⟩ := Kd.at_string dB.out aA iA jA
   cases vA
   replace dA := pc_ HB.out dA
   replace iA := eq_true iA
   replace jA := eq_true jA
   have p9 : 0 ≤ (aA : Int) := oa_
   have q9 : (aA : Int) < ((eA.length : Int) : Int) := oa_
   obtain ⟨go9, gB, zA, aB, gl9, cl9, bB⟩ := Kd.R_form fA.out (by omega)
   (first | cases zA | (injection zA with ea_ en_ ec_; (first | subst ea_ | (injection ea_ with ea_; subst ea_)); subst ec_; clear en_))
   have GB9 := am_ aB
   have GG9 := am_ bB
   clear aB gl9 bB
   obtain ⟨cB, hf9_0⟩ := Kd.R_celln (⟨#[]⟩ : ByteArray) fA.out (aA : Int) p9 q9
   replace p9 := eq_true p9
   replace q9 := eq_true q9
   have kA := Kd.R_putg fA.out (aA : Int) (rdOf ByteArray.empty l0 aA)
   go_wp2_with (first | ((with_reducible refine gate_store (t := 9) (p := 20) rfl ?_); refine store_event (t := 9) (p := 20) (v := ?vo_w11) (w1 := (wr.setCell ⟨go9, (aA : Int).toNat, none⟩ (.string (rdOf ByteArray.empty l0 aA)))) ?hg ?ho ?hn ?hr ?_; (case ho => rfl); (case hg => rfl); (case hn => rfl); (case hr => first | (go_simp; done) | (go_simp; rfl)); intro wA hw; have hg : wr.grownBy wA (some go9) := (by rw [hw]; exact kA.2); have hp_ : Kd.R Kd.string 9 wA w.heap.size (fun _ => True) (.slice (some ⟨go9, 0, none⟩) eA.length gB) hA := (by rw [hw, oA.out]; exact kA.1); clear kA; replace fA := am_ (hp_); replace HB := am_ ((by rw [hw]; exact below_set (HB.out) GB9.out : Below w.heap.size w wA)); clear hg hw hp_))
   go_roundg k1
   case measure => have := xA.out; omega
   case rel => exact ⟨(hA), (wrap64 (aA + 1)), sr_, H', ⟨by have := xA.out; omega⟩, ⟨kr_ fA.out⟩, ⟨hb_⟩⟩

/-! ### laws_toBatch: function 71 -/
def laws_toBatch.f (k : Nat) (a0_0 : Int) (a0_1 : Int) (a0_2 : Int) (a0_3 : Int) (l0_4 : List ByteArray) : Option (Int × Int × Int × Int × List ByteArray) := (laws_toStringS.f k l0_4).bind fun t121 => (some (a0_0, a0_1, a0_2, a0_3, t121))
theorem laws_toBatch.mono : ∀ a0 a1 a2 a3 a4 k, LeO (laws_toBatch.f k a0 a1 a2 a3 a4) (laws_toBatch.f (k + 1) a0 a1 a2 a3 a4) := by
 intro a0 a1 a2 a3 a4 k
 unfold laws_toBatch.f
 repeat' first
   | (with_reducible first | apply laws_toStringS.mono | exact LeO.refl _ | exact LeO.none _ | refine LeO.ite ?_ ?_ | refine LeO.bind ?_ (fun _ => ?_))
set_option maxHeartbeats 8000000 in
set_option maxRecDepth 100000 in
theorem laws_toBatch.calls (k : Nat) (a0_0 : Int) (a0_1 : Int) (a0_2 : Int) (a0_3 : Int) (A0_4 : Option Addr) (c0_4 : Nat) (l0_4 : List ByteArray) (r1 : Int) (r2 : Int) (r3 : Int) (r4 : Int) (r5 : List ByteArray) (w : World) (hr0_4 : Kd.C Kd.string w A0_4 l0_4.length l0_4) (hc0_4 : l0_4.length ≤ c0_4) (h : laws_toBatch.f k a0_0 a0_1 a0_2 a0_3 l0_4 = some (r1, r2, r3, r4, r5)) :
  Calls Try.prog 71 #[.agg #[.int .i64 a0_0, .int .i64 a0_1, .int .i64 a0_2, .int .i64 a0_3, .slice A0_4 l0_4.length c0_4]] w fun e w' => ∃ v4_ : Value, e = .returned (.agg #[.int .i64 r1, .int .i64 r2, .int .i64 r3, .int .i64 r4, v4_]) ∧ Kd.R Kd.string 9 w' w.heap.size (fun _ => True) v4_ r5 ∧ Below w.heap.size w w' := by
 have hu99 := Try.underlying99
 have hu78 := Try.underlying78
 have qA := am_ hr0_4
 have rA := am_ hc0_4
 clear hr0_4 hc0_4
 have HB := am_ (Below.refl w.heap.size w)
 have H : ((laws_toStringS.f k l0_4).bind fun mA => (some (a0_0, a0_1, a0_2, a0_3, mA))) = some (r1, r2, r3, r4, r5) := h
 clear h
 replace H := bnd_ H
 obtain ⟨mA, A2, H⟩ := H
 simp only [Option.some.injEq, Prod.mk.injEq] at H
 obtain ⟨rfl, rfl, rfl, rfl, rfl⟩ := H
 go_enter Try.func71, Try.ntmps71
 go_wp2_with (first | ((with_reducible refine gate_dst (N := 1) rfl ?_); refine bq_ (N := 1) #[.int .i64 a0_0, .int .i64 a0_1, .int .i64 a0_2, .int .i64 a0_3, .slice A0_4 l0_4.length c0_4] 99 ?_; intro sA hg w3 aA hb; have dA := ge_ hg; replace HB := nb_ hb; clear hb hg) | ((with_reducible refine gate_dst (N := 2) rfl ?_); refine bq_ (N := 2) #[.int .i64 0, .int .i64 0, .int .i64 0, .int .i64 0, .slice none 0 0] 78 ?_; intro nA hg w4 bA hb; have eA := ge1_ hg dA; replace HB := nc_ dA hb; have iA := nl_ aA hg; have jA := ng_ aA hg; replace aA := bK_ aA hb; clear hb hg) | ((with_reducible refine gate_dst (N := 3) rfl ?_); refine bq_ (N := 3) #[.int .i64 0, .int .i64 0, .int .i64 0, .int .i64 0, .slice none 0 0] 78 ?_; intro oA hg w5 gA hb; have hA := ge2_ hg dA eA; replace HB := nc2_ dA eA hb; have fA := nl_ aA hg; have kA := ng_ aA hg; replace aA := bK_ aA hb; have cA := nl_ bA hg; have lA := ng_ bA hg; replace bA := bK_ bA hb; clear hb hg; have lC := iA.out; have mC := jA.out; have nC := fA.out; have oC := kA.out; obtain ⟨zB, aC, bC, cC, dC, eC, fC, gC, hC, iC⟩ := cf5_ aA.out; have pC := lA.out; have qC := cA.out; obtain ⟨vA, wA, xA, yA, zA, aB, bB, cB, dB, eB⟩ := cf5_ gA.out) | ((with_reducible refine gate_callee (f := 62) rfl ?_); refine gl_ 18 Try.func62 #[.slice A0_4 l0_4.length c0_4] rfl ma_ ?_; (with_reducible refine (laws_toStringS.calls k _ _ l0_4 mA _ ?side1 ?side2 A2.out).mono ?_); (case side1 => exact Kd.C_below qA.out (hs3_ dA.out eA.out hA.out)); (case side2 => exact rA.out); rintro e sC ⟨rC, rfl, kC, hb⟩; refine ⟨_, rfl, ?_⟩; have pA := am_ (Kd.R_lower kC (below_size (hs3_ dA.out eA.out hA.out))); replace aA := am_ (blk_below (g := sA) (o := .cells #[.int .i64 a0_0, .int .i64 a0_1, .int .i64 a0_2, .int .i64 a0_3, .slice A0_4 l0_4.length c0_4] 99 (0, 0)) (uf_ aA fA.out) hb); replace bA := am_ (blk_below (g := nA) (o := .cells #[.int .i64 0, .int .i64 0, .int .i64 0, .int .i64 0, .slice none 0 0] 78 (0, 0)) (uf_ bA cA.out) hb); replace gA := am_ (blk_below (g := oA) (o := .cells #[.int .i64 a0_0, .int .i64 a0_1, .int .i64 a0_2, .int .i64 a0_3, .slice none 0 0] 78 (0, 0)) (up_ gA) hb); replace HB := nc3_ dA eA hA hb; (try clear hb); (try clear hb2); (try clear hk); (try clear hi); (try clear kC); obtain ⟨tA, uA, jC⟩ := Kd.R_slice pA.out; subst jC; obtain ⟨fB, gB, hB, iB, jB, kB, lB, mB, nB, oB⟩ := cf5_ gA.out; obtain ⟨pB, qB, rB, sB, tB, uB, vB, wB, xB, yB⟩ := cf5_ bA.out))
 refine bodyPost_ret (results_cell_row rfl _ _ nA 78 #[.int .i64 a0_0, .int .i64 a0_1, .int .i64 a0_2, .int .i64 a0_3, .slice tA mA.length uA] (0, 0) _ rfl (by (with_reducible repeat (first | refine blk_drewN ?_ _ | refine blk_drew ?_ | refine blk_alloc ?_ _)); refine blk_put (cs := #[.int .i64 a0_0, .int .i64 a0_1, .int .i64 a0_2, .int .i64 a0_3, .slice none 0 0]) ?_ 4 _ rfl; (with_reducible repeat (first | refine blk_drewN ?_ _ | refine blk_drew ?_ | refine blk_alloc ?_ _)); refine blk_put (cs := #[.int .i64 a0_0, .int .i64 a0_1, .int .i64 a0_2, .int .i64 0, .slice none 0 0]) ?_ 3 _ rfl; (with_reducible repeat (first | refine blk_drewN ?_ _ | refine blk_drew ?_ | refine blk_alloc ?_ _)); refine blk_put (cs := #[.int .i64 a0_0, .int .i64 a0_1, .int .i64 0, .int .i64 0, .slice none 0 0]) ?_ 2 _ rfl; (with_reducible repeat (first | refine blk_drewN ?_ _ | refine blk_drew ?_ | refine blk_alloc ?_ _)); refine blk_put (cs := #[.int .i64 a0_0, .int .i64 0, .int .i64 0, .int .i64 0, .slice none 0 0]) ?_ 1 _ rfl; (with_reducible repeat (first | refine blk_drewN ?_ _ | refine blk_drew ?_ | refine blk_alloc ?_ _)); refine blk_put (cs := #[.int .i64 0, .int .i64 0, .int .i64 0, .int .i64 0, .slice none 0 0]) ?_ 0 _ rfl; (with_reducible repeat (first | refine blk_drewN ?_ _ | refine blk_drew ?_ | refine blk_alloc ?_ _)); refine blk_far ?_ cA.out _; (with_reducible repeat (first | refine blk_drewN ?_ _ | refine blk_drew ?_ | refine blk_alloc ?_ _)); exact bA.out) Try.underlying78 rfl (by kernel_rfl)) rfl ?_
 exact ⟨_, er_, Kd.R_mono (rF_ (Kd.R_far (p := ⟨oA, 4, none⟩) (Kd.R_types (Kd.R_types pA.out gA.out (by decide)) bA.out (by decide)) (fun _ hk => hk.1.2) (.slice tA mA.length uA))) (fun _ hk => trivial), hs3_ dA.out eA.out hA.out⟩
end Go.Proofs.Ytojdaolclcmalaa.QFnExactAskPart
