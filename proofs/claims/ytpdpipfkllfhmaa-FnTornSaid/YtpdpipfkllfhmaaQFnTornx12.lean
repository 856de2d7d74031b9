/- Functions that one statement reaches: of each a plain function, and the proof that calls come to it. Conditions: those that each contract names. Written by a program of this repository. -/
import Derived.Test.YtpdpipfkllfhmaaVFnTorna
import Derived.Test.YtpdpipfkllfhmaaQFnTornx2
import Derived.Test.YtpdpipfkllfhmaaQFnTornx7
import Derived.Test.YtpdpipfkllfhmaaQFnTornx10
import Derived.Test.YtpdpipfkllfhmaaQFnTornx3
import Derived.Test.YtpdpipfkllfhmaaQFnTornx5
namespace Go.Proofs.Ytpdpipfkllfhmaa.QFnTorn
open Go.RowKit Go.Proofs.YtpdpipfkllfhmaaW.PrintWords Go.Proofs.YtpdpipfkllfhmaaW.PrintLast Go.Proofs.YtpdpipfkllfhmaaW.PrintMore
attribute [local go_sem] max2_int min2_int max_two min_two max_three min_three max_four min_four Go.Proofs.YtpdpipfkllfhmaaW.PrintMore2.isSome_setCell   -- for this text's walks alone
set_option linter.unusedVariables false
set_option linter.unusedSimpArgs false

attribute [local go_sem high] eqA56
/-! ### laws_sameDisks: function 27 -/
def laws_sameDisks.l0 : Nat → Int → Int → List (S56) → List (S56) → Option (Bool)
 | 0, _, _, _, _ => none
 | k + 1, x15, x16, x293000, x294000 => if x16 < x15 then (if 0 ≤ x16 then (if x16 < (x293000.length : Int) then (if x16 < (x294000.length : Int) then (if (!((((rd_T56 x293000 x16).f0).toList) == (((rd_T56 x294000 x16).f0).toList)) || (!(((rd_T56 x293000 x16).f1) == ((rd_T56 x294000 x16).f1)))) = true then (some false) else (laws_sameDisks.l0 k x15 (wrap64 (x16 + 1)) x293000 x294000)) else (none)) else (none)) else (none)) else (some true)
def laws_sameDisks.f (k : Nat) (l0_0 : List (S56)) (l1_0 : List (S56)) : Option (Bool) := if (l0_0.length : Int) = (l1_0.length : Int) then (laws_sameDisks.l0 k (l0_0.length : Int) 0 l0_0 l1_0) else (some false)
theorem laws_sameDisks.mono_l : ∀ k, (∀ y0 y1 y2 y3, LeO (laws_sameDisks.l0 k y0 y1 y2 y3) (laws_sameDisks.l0 (k + 1) y0 y1 y2 y3))
 | 0 => fun _ _ _ _ r h => by simp [laws_sameDisks.l0] at h
 | k + 1 => by
  have ih0 := laws_sameDisks.mono_l k
  ·intro y0 y1 y2 y3
   unfold laws_sameDisks.l0
   repeat' first
   | (with_reducible first | apply ih0 | exact LeO.refl _ | exact LeO.none _ | refine LeO.ite ?_ ?_ | refine LeO.bind ?_ (fun _ => ?_))
theorem laws_sameDisks.mono : ∀ a0 a1 k, LeO (laws_sameDisks.f k a0 a1) (laws_sameDisks.f (k + 1) a0 a1) := by
 intro a0 a1 k
 have ih0 := laws_sameDisks.mono_l k
 unfold laws_sameDisks.f
 repeat' first
   | (with_reducible first | apply ih0 | exact LeO.refl _ | exact LeO.none _ | refine LeO.ite ?_ ?_ | refine LeO.bind ?_ (fun _ => ?_))
set_option maxHeartbeats 8000000 in
set_option maxRecDepth 100000 in
theorem laws_sameDisks.calls (k : Nat) (A0_0 : Option Addr) (c0_0 : Nat) (l0_0 : List (S56)) (A1_0 : Option Addr) (c1_0 : Nat) (l1_0 : List (S56)) (r : Bool) (w : World) (hr0_0 : Kd.C k56 w A0_0 l0_0.length l0_0) (hc0_0 : l0_0.length ≤ c0_0) (hr1_0 : Kd.C k56 w A1_0 l1_0.length l1_0) (hc1_0 : l1_0.length ≤ c1_0) (h : laws_sameDisks.f k l0_0 l1_0 = some r) :
  Calls Try.prog 27 #[.agg #[.slice A0_0 l0_0.length c0_0], .agg #[.slice A1_0 l1_0.length c1_0]] w fun e w' => e = .returned (.bool r) ∧ Below w.heap.size w w' := by
 have hu31 := Try.underlying31
 have hu56 := Try.underlying56
 have HR0_0 := Aside0.mk hr0_0
 have HC0_0 := Aside0.mk hc0_0
 clear hr0_0 hc0_0
 have HR1_0 := Aside0.mk hr1_0
 have HC1_0 := Aside0.mk hc1_0
 clear hr1_0 hc1_0
 have HB := Aside0.mk (Below.refl w.heap.size w)
 have H : (if (l0_0.length : Int) = (l1_0.length : Int) then (laws_sameDisks.l0 k (l0_0.length : Int) 0 l0_0 l1_0) else (some false)) = some r := h
 clear h
 replace H := ite_ H
 obtain ⟨c3, H⟩ | ⟨c3, H⟩ := H
 rotate_left
 ·have c3b0 : ((l0_0.length : Int) == (l1_0.length : Int)) = false := beq_eq_false_iff_ne.mpr c3
  have c3b1 : ((l0_0.length : Int) != (l1_0.length : Int)) = true := bne_iff_ne.mpr c3
  have c3b2 : (l0_0.length == l1_0.length) = false := by first | simpa using c3 | (simp at c3 ⊢; omega)
  obtain rfl := Option.some.inj H
  go_enter Try.func27, Try.ntmps27
  go_wp2_with (first | ((with_reducible refine gate_dst (N := 2) rfl ?_); refine bq_ (N := 2) #[.slice A0_0 l0_0.length c0_0] 31 ?_; intro gb292 hg w20 BK292 hb; have GE292 := ge_ hg; replace HB := nb_ hb; clear hb hg) | ((with_reducible refine gate_dst (N := 3) rfl ?_); refine bq_ (N := 3) #[.slice A1_0 l1_0.length c1_0] 31 ?_; intro gb293 hg w21 BK293 hb; have GE293 := ge1_ hg GE292; replace HB := nc_ GE292 hb; have NB292_293 := nl_ BK292 hg; have NB293_292 := ng_ BK292 hg; replace BK292 := bK_ BK292 hb; clear hb hg; have hnb22 := NB292_293.out; have hnc22 := NB293_292.out; obtain ⟨hcz23_0, hfz23_0⟩ := cf1_ BK292.out; obtain ⟨hcz24_0, hfz24_0⟩ := cf1_ BK293.out))
  repeat (go_quiet (first | ((with_reducible refine gate_dst (N := 2) rfl ?_); refine bq_ (N := 2) #[.slice A0_0 l0_0.length c0_0] 31 ?_; intro gb292 hg w20 BK292 hb; have GE292 := ge_ hg; replace HB := nb_ hb; clear hb hg) | ((with_reducible refine gate_dst (N := 3) rfl ?_); refine bq_ (N := 3) #[.slice A1_0 l1_0.length c1_0] 31 ?_; intro gb293 hg w21 BK293 hb; have GE293 := ge1_ hg GE292; replace HB := nc_ GE292 hb; have NB292_293 := nl_ BK292 hg; have NB293_292 := ng_ BK292 hg; replace BK292 := bK_ BK292 hb; clear hb hg; have hnb22 := NB292_293.out; have hnc22 := NB293_292.out; obtain ⟨hcz23_0, hfz23_0⟩ := cf1_ BK292.out; obtain ⟨hcz24_0, hfz24_0⟩ := cf1_ BK293.out)); try go_wp2_with (first | ((with_reducible refine gate_dst (N := 2) rfl ?_); refine bq_ (N := 2) #[.slice A0_0 l0_0.length c0_0] 31 ?_; intro gb292 hg w20 BK292 hb; have GE292 := ge_ hg; replace HB := nb_ hb; clear hb hg) | ((with_reducible refine gate_dst (N := 3) rfl ?_); refine bq_ (N := 3) #[.slice A1_0 l1_0.length c1_0] 31 ?_; intro gb293 hg w21 BK293 hb; have GE293 := ge1_ hg GE292; replace HB := nc_ GE292 hb; have NB292_293 := nl_ BK292 hg; have NB293_292 := ng_ BK292 hg; replace BK292 := bK_ BK292 hb; clear hb hg; have hnb22 := NB292_293.out; have hnc22 := NB293_292.out; obtain ⟨hcz23_0, hfz23_0⟩ := cf1_ BK292.out; obtain ⟨hcz24_0, hfz24_0⟩ := cf1_ BK293.out)))
  go_ret
  exact ⟨er_, hs2_ GE292.out GE293.out⟩
 have c3b0 : ((l0_0.length : Int) == (l1_0.length : Int)) = true := beq_iff_eq.mpr c3
 have c3b1 : ((l0_0.length : Int) != (l1_0.length : Int)) = false := bne_eq_false_iff_eq.mpr c3
 have c3b2 : (l0_0.length == l1_0.length) = true := by first | simpa using c3 | (simp at c3 ⊢; omega)
 clear c3
 have H' := Aside0.mk H
 clear H
 go_enter Try.func27, Try.ntmps27
 go_wp2_with (first | ((with_reducible refine gate_dst (N := 2) rfl ?_); refine bq_ (N := 2) #[.slice A0_0 l0_0.length c0_0] 31 ?_; intro gb292 hg w4 BK292 hb; have GE292 := ge_ hg; replace HB := nb_ hb; clear hb hg) | ((with_reducible refine gate_dst (N := 3) rfl ?_); refine bq_ (N := 3) #[.slice A1_0 l1_0.length c1_0] 31 ?_; intro gb293 hg w5 BK293 hb; have GE293 := ge1_ hg GE292; replace HB := nc_ GE292 hb; have NB292_293 := nl_ BK292 hg; have NB293_292 := ng_ BK292 hg; replace BK292 := bK_ BK292 hb; clear hb hg; have hnb6 := NB292_293.out; have hnc6 := NB293_292.out; obtain ⟨hcz7_0, hfz7_0⟩ := cf1_ BK292.out; obtain ⟨hcz8_0, hfz8_0⟩ := cf1_ BK293.out))
 repeat (go_quiet (first | ((with_reducible refine gate_dst (N := 2) rfl ?_); refine bq_ (N := 2) #[.slice A0_0 l0_0.length c0_0] 31 ?_; intro gb292 hg w4 BK292 hb; have GE292 := ge_ hg; replace HB := nb_ hb; clear hb hg) | ((with_reducible refine gate_dst (N := 3) rfl ?_); refine bq_ (N := 3) #[.slice A1_0 l1_0.length c1_0] 31 ?_; intro gb293 hg w5 BK293 hb; have GE293 := ge1_ hg GE292; replace HB := nc_ GE292 hb; have NB292_293 := nl_ BK292 hg; have NB293_292 := ng_ BK292 hg; replace BK292 := bK_ BK292 hb; clear hb hg; have hnb6 := NB292_293.out; have hnc6 := NB293_292.out; obtain ⟨hcz7_0, hfz7_0⟩ := cf1_ BK292.out; obtain ⟨hcz8_0, hfz8_0⟩ := cf1_ BK293.out)); try go_wp2_with (first | ((with_reducible refine gate_dst (N := 2) rfl ?_); refine bq_ (N := 2) #[.slice A0_0 l0_0.length c0_0] 31 ?_; intro gb292 hg w4 BK292 hb; have GE292 := ge_ hg; replace HB := nb_ hb; clear hb hg) | ((with_reducible refine gate_dst (N := 3) rfl ?_); refine bq_ (N := 3) #[.slice A1_0 l1_0.length c1_0] 31 ?_; intro gb293 hg w5 BK293 hb; have GE293 := ge1_ hg GE292; replace HB := nc_ GE292 hb; have NB292_293 := nl_ BK292 hg; have NB293_292 := ng_ BK292 hg; replace BK292 := bK_ BK292 hb; clear hb hg; have hnb6 := NB292_293.out; have hnc6 := NB293_292.out; obtain ⟨hcz7_0, hfz7_0⟩ := cf1_ BK292.out; obtain ⟨hcz8_0, hfz8_0⟩ := cf1_ BK293.out)))
 go_loopg [16] k (fun kq v16 w' => ∃ (x16_1 : Int), v16 = .int .i64 x16_1 ∧ Aside0 (laws_sameDisks.l0 kq (l0_0.length : Int) x16_1 l0_0 l1_0 = some r) ∧ Aside0 (kq ≤ k) ∧ Aside0 (w'.heap[gb292]? = some (.cells #[(.slice A0_0 l0_0.length c0_0)] 31 (0, 0))) ∧ Aside0 (w'.heap[gb293]? = some (.cells #[(.slice A1_0 l1_0.length c1_0)] 31 (0, 0))) ∧ Aside0 (Below w.heap.size w w'))
 case atStart => exact ⟨(0), sr_, H', ⟨Nat.le_refl _⟩, ⟨kb_ BK292.out⟩, ⟨kb_ BK293.out⟩, ⟨hs2_ GE292.out GE293.out⟩⟩
 case round =>
  clear H'
  try clear c3
  try clear c3b0
  try clear c3b1
  try clear c3b2
  try clear hcz7_0
  try clear hcz8_0
  try clear hfz7_0
  try clear hfz8_0
  obtain ⟨x16_1, rfl, HA, HK1, BK292, BK293, HB⟩ := hrel
  cases gk with
  | zero => exact absurd HA.out (by simp [laws_sameDisks.l0])
  | succ k1 =>
   have H := HA.out
   clear HA
   simp only [laws_sameDisks.l0] at H
   replace H := ite_ H
   obtain ⟨c9, H⟩ | ⟨c9, H⟩ := H
   rotate_left
   ·have c9b0 := decide_eq_false c9
    clear c9
    obtain rfl := Option.some.inj H
    go_wp2
    repeat (go_quiet (fail); try go_wp2)
    go_ret
    exact ⟨er_, hs2_ GE292.out GE293.out⟩
   have c9b0 := decide_eq_true c9
   clear c9
   replace H := ifs_ H
   obtain ⟨c10, H⟩ := H
   have c10b0 := decide_eq_true c10
   clear c10
   replace H := ifs_ H
   obtain ⟨c11, H⟩ := H
   have c11b0 := decide_eq_true c11
   clear c11
   replace H := ifs_ H
   obtain ⟨c12, H⟩ := H
   have c12b0 := decide_eq_true c12
   clear c12
   replace H := ite_ H
   obtain ⟨c13, H⟩ | ⟨c13, H⟩ := H
   ·have c13b0 : (!((((rd_T56 l0_0 x16_1).f0).toList) == (((rd_T56 l1_0 x16_1).f0).toList)) || (!(((rd_T56 l0_0 x16_1).f1) == ((rd_T56 l1_0 x16_1).f1)))) = true := c13
    clear c13
    obtain rfl := Option.some.inj H
    have hnb14 := NB292_293.out
    have hnc14 := NB293_292.out
    obtain ⟨hcz15_0, hfz15_0⟩ := cf1_ BK292.out
    have p294 : 0 ≤ (x16_1 : Int) := oa_
    have q294 : x16_1 < (l0_0.length : Int) := oa_
    obtain ⟨ad294, e294, hx294_0, hx294_1⟩ := at_T56 HR0_0.out x16_1 p294 q294
    cases e294
    replace hx294_0 := pc_ HB.out hx294_0
    replace hx294_1 := pc_ HB.out hx294_1
    replace p294 := eq_true p294
    replace q294 := eq_true q294
    obtain ⟨hcz16_0, hfz16_0⟩ := cf1_ BK293.out
    have p295 : 0 ≤ (x16_1 : Int) := oa_
    have q295 : x16_1 < (l1_0.length : Int) := oa_
    obtain ⟨ad295, e295, hx295_0, hx295_1⟩ := at_T56 HR1_0.out x16_1 p295 q295
    cases e295
    replace hx295_0 := pc_ HB.out hx295_0
    replace hx295_1 := pc_ HB.out hx295_1
    replace p295 := eq_true p295
    replace q295 := eq_true q295
    go_wp2
    repeat (go_quiet (fail); try go_wp2)
    go_ret
    exact ⟨er_, hs2_ GE292.out GE293.out⟩
   have c13b0 : (!((((rd_T56 l0_0 x16_1).f0).toList) == (((rd_T56 l1_0 x16_1).f0).toList)) || (!(((rd_T56 l0_0 x16_1).f1) == ((rd_T56 l1_0 x16_1).f1)))) = false := by simpa using c13
   clear c13
   have H' := Aside0.mk H
   clear H
   have hnb17 := NB292_293.out
   have hnc17 := NB293_292.out
   obtain ⟨hcz18_0, hfz18_0⟩ := cf1_ BK292.out
   have p294 : 0 ≤ (x16_1 : Int) := oa_
   have q294 : x16_1 < (l0_0.length : Int) := oa_
   obtain ⟨ad294, e294, hx294_0, hx294_1⟩ := at_T56 HR0_0.out x16_1 p294 q294
   cases e294
   replace hx294_0 := pc_ HB.out hx294_0
   replace hx294_1 := pc_ HB.out hx294_1
   replace p294 := eq_true p294
   replace q294 := eq_true q294
   obtain ⟨hcz19_0, hfz19_0⟩ := cf1_ BK293.out
   have p295 : 0 ≤ (x16_1 : Int) := oa_
   have q295 : x16_1 < (l1_0.length : Int) := oa_
   obtain ⟨ad295, e295, hx295_0, hx295_1⟩ := at_T56 HR1_0.out x16_1 p295 q295
   cases e295
   replace hx295_0 := pc_ HB.out hx295_0
   replace hx295_1 := pc_ HB.out hx295_1
   replace p295 := eq_true p295
   replace q295 := eq_true q295
   go_wp2
   repeat (go_quiet (fail); try go_wp2)
   go_roundg k1
   case measure => have := HK1.out; omega
   case rel => exact ⟨(wrap64 (x16_1 + 1)), sr_, H', ⟨by have := HK1.out; omega⟩, ⟨kb_ BK292.out⟩, ⟨kb_ BK293.out⟩, ⟨hs2_ GE292.out GE293.out⟩⟩

/-! ### impl_GoodDisk: function 41 -/
def impl_GoodDisk.f (l0_0 : List (S56)) : Option (Bool) := (impl_isDisk.f l0_0).bind fun t297 => (some t297)
set_option maxHeartbeats 8000000 in
set_option maxRecDepth 100000 in
theorem impl_GoodDisk.calls (A0_0 : Option Addr) (c0_0 : Nat) (l0_0 : List (S56)) (r : Bool) (w : World) (hr0_0 : Kd.C k56 w A0_0 l0_0.length l0_0) (hc0_0 : l0_0.length ≤ c0_0) (h : impl_GoodDisk.f l0_0 = some r) :
  Calls Try.prog 41 #[.agg #[.slice A0_0 l0_0.length c0_0]] w fun e w' => e = .returned (.bool r) ∧ Below w.heap.size w w' := by
 have hu31 := Try.underlying31
 have HR0_0 := Aside0.mk hr0_0
 have HC0_0 := Aside0.mk hc0_0
 clear hr0_0 hc0_0
 have HB := Aside0.mk (Below.refl w.heap.size w)
 have H : ((impl_isDisk.f l0_0).bind fun t297 => (some t297)) = some r := h
 clear h
 replace H := bnd_ H
 obtain ⟨t297, A2, H⟩ := H
 obtain rfl := Option.some.inj H
 go_enter Try.func41, Try.ntmps41
 go_wp2_with (first | ((with_reducible refine gate_dst (N := 1) rfl ?_); refine bq_ (N := 1) #[.slice A0_0 l0_0.length c0_0] 31 ?_; intro gb296 hg w3 BK296 hb; have GE296 := ge_ hg; replace HB := nb_ hb; clear hb hg; obtain ⟨hcz4_0, hfz4_0⟩ := cf1_ BK296.out) | ((with_reducible refine gate_callee (f := 79) rfl ?_); refine gl_ 4 Try.func79 #[.agg #[.slice A0_0 l0_0.length c0_0]] rfl ma_ ?_; (with_reducible refine (impl_isDisk.calls _ _ l0_0 t297 _ ?side1 ?side2 A2.out).mono ?_); (case side1 => exact cs_ ((Kd.C_below HR0_0.out HB.out))); (case side2 => exact HC0_0.out); rintro e w5 ⟨rfl, hb⟩; refine ⟨_, rfl, ?_⟩; replace BK296 := bK_ BK296 hb; replace HB := nc_ GE296 hb; (try clear hb); (try clear hb2); (try clear hk); (try clear hi)))
 go_ret
 exact ⟨er_, hs_ GE296.out⟩

/-! ### spec_AppendTo: function 32 -/
def spec_AppendTo.f (k : Nat) (l0_0 : List (S56)) (a1 : Int) (a2 : ByteArray) : Option ((List (S56)) × Bool) := (spec_l3File.f k l0_0 a1).bind fun t300 => (if t300 = true then (if 0 ≤ a1 then (if a1 < (l0_0.length : Int) then (if (a2.size : Int) > (wrap64 (400 - (((rd_T56 l0_0 a1).f0).size : Int))) then (some (([] : List (S56)), false)) else ((spec_l3Own.f l0_0).bind fun t302 => (if a1 < (t302.length : Int) then (if ((rd_T56 t302 a1).f0).size + a2.size ≤ 9223372036854775807 then (some ((t302.set (a1 : Int).toNat (⟨((rd_T56 t302 a1).f0) ++ a2, (rd_T56 t302 a1).f1⟩ : S56)), true)) else (none)) else (none)))) else (none)) else (none)) else (some (([] : List (S56)), false)))
theorem spec_AppendTo.mono : ∀ a0 a1 a2 k, LeO (spec_AppendTo.f k a0 a1 a2) (spec_AppendTo.f (k + 1) a0 a1 a2) := by
 intro a0 a1 a2 k
 unfold spec_AppendTo.f
 repeat' first
   | (with_reducible first | apply spec_l3File.mono | exact LeO.refl _ | exact LeO.none _ | refine LeO.ite ?_ ?_ | refine LeO.bind ?_ (fun _ => ?_))
set_option maxHeartbeats 8000000 in
set_option maxRecDepth 100000 in
theorem spec_AppendTo.calls (k : Nat) (A0_0 : Option Addr) (c0_0 : Nat) (l0_0 : List (S56)) (a1 : Int) (a2 : ByteArray) (r1 : List (S56)) (r2 : Bool) (w : World) (hr0_0 : Kd.C k56 w A0_0 l0_0.length l0_0) (hc0_0 : l0_0.length ≤ c0_0) (h : spec_AppendTo.f k l0_0 a1 a2 = some (r1, r2)) :
  Calls Try.prog 32 #[.agg #[.slice A0_0 l0_0.length c0_0], .int .i64 a1, .string a2] w fun e w' => ∃ v0_ : Value, e = .returned (.tuple #[.agg #[v0_], .bool r2]) ∧ Kd.R k56 56 w' w.heap.size (fun _ => True) v0_ r1 ∧ Below w.heap.size w w' := by
 have hu31 := Try.underlying31
 have HR0_0 := Aside0.mk hr0_0
 have HC0_0 := Aside0.mk hc0_0
 clear hr0_0 hc0_0
 have HB := Aside0.mk (Below.refl w.heap.size w)
 have H : ((spec_l3File.f k l0_0 a1).bind fun t300 => (if t300 = true then (if 0 ≤ a1 then (if a1 < (l0_0.length : Int) then (if (a2.size : Int) > (wrap64 (400 - (((rd_T56 l0_0 a1).f0).size : Int))) then (some (([] : List (S56)), false)) else ((spec_l3Own.f l0_0).bind fun t302 => (if a1 < (t302.length : Int) then (if ((rd_T56 t302 a1).f0).size + a2.size ≤ 9223372036854775807 then (some ((t302.set (a1 : Int).toNat (⟨((rd_T56 t302 a1).f0) ++ a2, (rd_T56 t302 a1).f1⟩ : S56)), true)) else (none)) else (none)))) else (none)) else (none)) else (some (([] : List (S56)), false)))) = some (r1, r2) := h
 clear h
 replace H := bnd_ H
 obtain ⟨t300, A4, H⟩ := H
 replace H := ifb_ H
 obtain ⟨rfl, H⟩ | ⟨rfl, H⟩ := H
 rotate_left
 ·simp only [Option.some.injEq, Prod.mk.injEq] at H
  obtain ⟨rfl, rfl⟩ := H
  go_enter Try.func32, Try.ntmps32
  go_wp2_with (first | ((with_reducible refine gate_dst (N := 3) rfl ?_); (try (refine gate_guard (by rfl) ?_; dsimp only)); refine bq_ (N := 3) #[.slice A0_0 l0_0.length c0_0] 31 ?_; intro gb298 hg w38 BK298 hb; have GE298 := ge_ hg; replace HB := nb_ hb; clear hb hg) | ((with_reducible refine gate_dst (N := 6) rfl ?_); (try (refine gate_guard (by rfl) ?_; dsimp only)); refine bq_ (N := 6) #[.slice none 0 0] 31 ?_; intro gb299 hg w39 BK299 hb; have GE299 := ge1_ hg GE298; replace HB := nc_ GE298 hb; have NB298_299 := nl_ BK298 hg; have NB299_298 := ng_ BK298 hg; replace BK298 := bK_ BK298 hb; clear hb hg; have hnb40 := NB298_299.out; have hnc40 := NB299_298.out; obtain ⟨hcz41_0, hfz41_0⟩ := cf1_ BK298.out) | ((with_reducible refine gate_callee (f := 49) rfl ?_); refine gl_ 11 Try.func49 #[.agg #[.slice A0_0 l0_0.length c0_0], .int .i64 a1] rfl ma_ ?_; (with_reducible refine (spec_l3File.calls k _ _ l0_0 a1 false _ ?side1 ?side2 A4.out).mono ?_); (case side1 => exact cs_ ((Kd.C_below HR0_0.out HB.out))); (case side2 => exact HC0_0.out); rintro e w42 ⟨rfl, hb⟩; refine ⟨_, rfl, ?_⟩; replace BK298 := bK_ BK298 hb; replace BK299 := bK_ BK299 hb; replace HB := nc2_ GE298 GE299 hb; (try clear hb); (try clear hb2); (try clear hk); (try clear hi); obtain ⟨hcz43_0, hfz43_0⟩ := cf1_ BK299.out))
  refine bodyPost_ret (results_ct rfl _ _ gb299 31 #[.slice none 0 0] (0, 0) _ rfl (up_ BK299) Try.underlying31 rfl (by kernel_rfl)) rfl ?_
  exact ⟨_, er_, ni_, hs2_ GE298.out GE299.out⟩
 replace H := ifs_ H
 obtain ⟨c6, H⟩ := H
 have c6b0 := decide_eq_true c6
 clear c6
 replace H := ifs_ H
 obtain ⟨c7, H⟩ := H
 have c7b0 := decide_eq_true c7
 clear c7
 replace H := ite_ H
 obtain ⟨c8, H⟩ | ⟨c8, H⟩ := H
 ·have c8b0 := dgt_ c8
  clear c8
  simp only [Option.some.injEq, Prod.mk.injEq] at H
  obtain ⟨rfl, rfl⟩ := H
  go_enter Try.func32, Try.ntmps32
  go_wp2_with (first | ((with_reducible refine gate_dst (N := 3) rfl ?_); (try (refine gate_guard (by rfl) ?_; dsimp only)); refine bq_ (N := 3) #[.slice A0_0 l0_0.length c0_0] 31 ?_; intro gb298 hg w9 BK298 hb; have GE298 := ge_ hg; replace HB := nb_ hb; clear hb hg) | ((with_reducible refine gate_dst (N := 6) rfl ?_); (try (refine gate_guard (by rfl) ?_; dsimp only)); refine bq_ (N := 6) #[.slice none 0 0] 31 ?_; intro gb299 hg w10 BK299 hb; have GE299 := ge1_ hg GE298; replace HB := nc_ GE298 hb; have NB298_299 := nl_ BK298 hg; have NB299_298 := ng_ BK298 hg; replace BK298 := bK_ BK298 hb; clear hb hg; have hnb11 := NB298_299.out; have hnc11 := NB299_298.out; obtain ⟨hcz12_0, hfz12_0⟩ := cf1_ BK298.out) | ((with_reducible refine gate_callee (f := 49) rfl ?_); refine gl_ 11 Try.func49 #[.agg #[.slice A0_0 l0_0.length c0_0], .int .i64 a1] rfl ma_ ?_; (with_reducible refine (spec_l3File.calls k _ _ l0_0 a1 true _ ?side1 ?side2 A4.out).mono ?_); (case side1 => exact cs_ ((Kd.C_below HR0_0.out HB.out))); (case side2 => exact HC0_0.out); rintro e w13 ⟨rfl, hb⟩; refine ⟨_, rfl, ?_⟩; replace BK298 := bK_ BK298 hb; replace BK299 := bK_ BK299 hb; replace HB := nc2_ GE298 GE299 hb; (try clear hb); (try clear hb2); (try clear hk); (try clear hi); obtain ⟨hcz14_0, hfz14_0⟩ := cf1_ BK298.out; have p301 : 0 ≤ (a1 : Int) := oa_; have q301 : a1 < (l0_0.length : Int) := oa_; obtain ⟨ad301, e301, hx301_0, hx301_1⟩ := at_T56 HR0_0.out a1 p301 q301; cases e301; replace hx301_0 := pc_ HB.out hx301_0; replace hx301_1 := pc_ HB.out hx301_1; replace p301 := eq_true p301; replace q301 := eq_true q301; obtain ⟨hcz15_0, hfz15_0⟩ := cf1_ BK299.out))
  refine bodyPost_ret (results_ct rfl _ _ gb299 31 #[.slice none 0 0] (0, 0) _ rfl (up_ BK299) Try.underlying31 rfl (by kernel_rfl)) rfl ?_
  exact ⟨_, er_, ni_, hs2_ GE298.out GE299.out⟩
 have c8b0 := dgf_ c8
 clear c8
 replace H := bnd_ H
 obtain ⟨t302, A16, H⟩ := H
 replace H := ifs_ H
 obtain ⟨c17, H⟩ := H
 have c17b0 := decide_eq_true c17
 clear c17
 replace H := ifs_ H
 obtain ⟨c18, H⟩ := H
 have c18b0 := eq_true c18
 have c18b1 := decide_eq_true c18
 try have c18b2 : (9223372036854775807 < ((rd_T56 t302 a1).f0).size + a2.size) = False := eq_false (Nat.not_lt.2 c18)
 try have c18w := cw_ c18
 (try rw [c18w] at c6b0)
 (try rw [c18w] at c7b0)
 (try rw [c18w] at c8b0)
 (try rw [c18w] at c17b0)
 obtain ⟨y307, hy307⟩ : ∃ y_ : List (S56), y_ = (t302.set (a1 : Int).toNat (⟨((rd_T56 t302 a1).f0) ++ a2, (rd_T56 t302 a1).f1⟩ : S56)) := ⟨_, rfl⟩
 replace H : (some (y307, true)) = some (r1, r2) := by first | (rw [hy307]; with_reducible exact H) | (have H2_ := (Option.bind_some _ _).symm.trans H; rw [hy307]; with_reducible exact H2_) | (have H2_ := (Option.bind_some _ _).symm.trans H; with_reducible exact H2_) | with_reducible exact H | (rw [hy307]; exact H) | exact H
 have Ny307 := Aside0.mk hy307
 clear hy307
 simp only [Option.some.injEq, Prod.mk.injEq] at H
 obtain ⟨rfl, rfl⟩ := H
 go_enter Try.func32, Try.ntmps32
 go_wp2_with (first | ((with_reducible refine gate_dst (N := 3) rfl ?_); (try (refine gate_guard (by rfl) ?_; dsimp only)); refine bq_ (N := 3) #[.slice A0_0 l0_0.length c0_0] 31 ?_; intro gb298 hg w20 BK298 hb; have GE298 := ge_ hg; replace HB := nb_ hb; clear hb hg) | ((with_reducible refine gate_dst (N := 6) rfl ?_); (try (refine gate_guard (by rfl) ?_; dsimp only)); refine bq_ (N := 6) #[.slice none 0 0] 31 ?_; intro gb299 hg w21 BK299 hb; have GE299 := ge1_ hg GE298; replace HB := nc_ GE298 hb; have NB298_299 := nl_ BK298 hg; have NB299_298 := ng_ BK298 hg; replace BK298 := bK_ BK298 hb; clear hb hg; have hnb22 := NB298_299.out; have hnc22 := NB299_298.out; obtain ⟨hcz23_0, hfz23_0⟩ := cf1_ BK298.out) | ((with_reducible refine gate_callee (f := 49) rfl ?_); refine gl_ 11 Try.func49 #[.agg #[.slice A0_0 l0_0.length c0_0], .int .i64 a1] rfl ma_ ?_; (with_reducible refine (spec_l3File.calls k _ _ l0_0 a1 true _ ?side1 ?side2 A4.out).mono ?_); (case side1 => exact cs_ ((Kd.C_below HR0_0.out HB.out))); (case side2 => exact HC0_0.out); rintro e w24 ⟨rfl, hb⟩; refine ⟨_, rfl, ?_⟩; replace BK298 := bK_ BK298 hb; replace BK299 := bK_ BK299 hb; replace HB := nc2_ GE298 GE299 hb; (try clear hb); (try clear hb2); (try clear hk); (try clear hi); obtain ⟨hcz25_0, hfz25_0⟩ := cf1_ BK298.out; have p301 : 0 ≤ (a1 : Int) := oa_; have q301 : a1 < (l0_0.length : Int) := oa_; obtain ⟨ad301, e301, hx301_0, hx301_1⟩ := at_T56 HR0_0.out a1 p301 q301; cases e301; replace hx301_0 := pc_ HB.out hx301_0; replace hx301_1 := pc_ HB.out hx301_1; replace p301 := eq_true p301; replace q301 := eq_true q301) | ((with_reducible refine gate_callee (f := 76) rfl ?_); refine gl_ 28 Try.func76 #[.agg #[.slice (some ad301) l0_0.length c0_0]] rfl ma_ ?_; (with_reducible refine (spec_l3Own.calls _ _ l0_0 t302 _ ?side1 ?side2 A16.out).mono ?_); (case side1 => exact cs_ ((Kd.C_below HR0_0.out HB.out))); (case side2 => exact HC0_0.out); rintro e w26 ⟨v303, rfl, ho0, hb⟩; refine ⟨_, rfl, ?_⟩; have HO304 := Aside0.mk (Kd.R_lower ho0 (below_size (hs2_ GE298.out GE299.out))); replace BK298 := bK_ BK298 hb; replace BK299 := bK_ BK299 hb; replace HB := nc2_ GE298 GE299 hb; (try clear hb); (try clear hb2); (try clear hk); (try clear hi); (try clear ho0)) | ((with_reducible refine gate_dst (N := 8) rfl ?_); (try (refine gate_guard (by rfl) ?_; dsimp only)); refine bq_ (N := 8) #[.slice none 0 0] 31 ?_; intro gb305 hg w27 BK305 hb; replace HO304 := rB_ HO304 hb; have GE305 := ge2_ hg GE298 GE299; replace HB := nc2_ GE298 GE299 hb; have NB298_305 := nl_ BK298 hg; have NB305_298 := ng_ BK298 hg; replace BK298 := bK_ BK298 hb; have NB299_305 := nl_ BK299 hg; have NB305_299 := ng_ BK299 hg; replace BK299 := bK_ BK299 hb; clear hb hg; obtain ⟨Ao28, co28, eo28⟩ := Kd.R_slice HO304.out; subst eo28; have hnb29 := NB305_298.out; have hnc29 := NB298_305.out; have hnb30 := NB305_299.out; have hnc30 := NB299_305.out; obtain ⟨hcz31_0, hfz31_0⟩ := cf1_ BK305.out) | ((with_reducible refine gate_store (t := 31) (p := 8) rfl ?_); refine store_event (t := 31) (p := 8) (v := ?vo_w32) (w1 := (w27.setCell ⟨gb305, 0, none⟩ (.slice Ao28 t302.length co28))) ?hg ?ho ?hn ?hr ?_; (case ho => rfl); (case hg => rfl); (case hn => rfl); (case hr => first | (go_simp; done) | (go_simp; rfl)); intro w32 hw; have n0_ : Aside0 (Kd.R k56 56 w32 w.heap.size (fun _ => True) (.slice Ao28 t302.length co28) t302) := ⟨(by rw [hw]; exact (rF_ (Kd.R_mono (Kd.R_far (p := ⟨gb305, 0, none⟩) (Kd.R_types HO304.out BK305.out (by decide)) (fun _ hk => hk.2) (.slice Ao28 t302.length co28)) (fun _ hk => trivial))))⟩; have n1_ : Aside0 (w32.heap[gb298]? = some (.cells #[.slice (some ad301) l0_0.length c0_0] 31 (0, 0))) := ⟨(by rw [hw]; exact (uf_ BK298 NB298_305.out))⟩; have n2_ : Aside0 (w32.heap[gb299]? = some (.cells #[.slice none 0 0] 31 (0, 0))) := ⟨(by rw [hw]; exact (uf_ BK299 NB299_305.out))⟩; have n3_ : Aside0 (w32.heap[gb305]? = some (.cells #[.slice Ao28 t302.length co28] 31 (0, 0))) := ⟨(by rw [hw]; exact (up_ BK305))⟩; have n4_ : Aside0 (Below w.heap.size w w32) := ⟨(by rw [hw]; exact (hs3_ GE298.out GE299.out GE305.out))⟩; clear hw; clear HO304; clear BK298; clear BK299; clear BK305; clear HB; have HO304 := n0_; have BK298 := n1_; have BK299 := n2_; have BK305 := n3_; have HB := n4_; clear n0_ n1_ n2_ n3_ n4_; obtain ⟨hcz33_0, hfz33_0⟩ := cf1_ BK305.out; have p306 : 0 ≤ (a1 : Int) := oa_; have q306 : a1 < (t302.length : Int) := oa_; obtain ⟨ad306, e306, hx306_0, hx306_1⟩ := at_T56 (Kd.R_reads' HO304.out).2.2 a1 p306 q306; cases e306; replace p306 := eq_true p306; replace q306 := eq_true q306; have p19 : 0 ≤ (a1 : Int) := oa_; have q19 : (a1 : Int) < ((t302.length : Int) : Int) := oa_; obtain ⟨go19, co19, eo19, gb19, gl19, cl19, HG19⟩ := Kd.R_form HO304.out (by omega); (first | cases eo19 | (injection eo19 with ea_ en_ ec_; (first | subst ea_ | (injection ea_ with ea_; subst ea_)); subst ec_; clear en_)); have GB19 := Aside0.mk gb19; have GG19 := Aside0.mk HG19; clear gb19 gl19 HG19; (first | simp only [add_plain] at hx306_0 | skip); (first | simp only [add_plain] at hx306_1 | skip); obtain ⟨ce19, hcl19, hM19, hcc19, hfr19⟩ := Kd.R_elem HO304.out z56 (a1 : Int) p19 q19; obtain rfl := k56_openM hM19; have hx19_0 : w32.cell? ⟨go19, (a1 : Int).toNat * 2, none⟩ = some (.string ((rd_T56 t302 a1).f0)) := hcc19 0 _ rfl; have hx19_1 : w32.cell? ⟨go19, (a1 : Int).toNat * 2 + 1, none⟩ = some (.int .i64 ((rd_T56 t302 a1).f1)) := hcc19 1 _ rfl; have hf19_0 : w32.frozen? ⟨go19, (a1 : Int).toNat * 2, none⟩ = false := hfr19 0; have hf19_1 : w32.frozen? ⟨go19, (a1 : Int).toNat * 2 + 1, none⟩ = false := hfr19 1; clear hcl19 hcc19 hfr19; (try clear hM19); replace p19 := eq_true p19; replace q19 := eq_true q19; have HX34 := Aside0.mk (show Kd.R k56 56 w32 w.heap.size (fun _ => True) (.slice (some ⟨go19, 0, none⟩) t302.length co28) t302 from (kr_ HO304.out)); obtain ⟨ce34, hcl34, hM34, hcc34, hfr34⟩ := Kd.R_elem HX34.out z56 (a1 : Int) (oa_) (by have h_ : (a1 : Int) < ((t302.length : Int) : Int) := oa_; first | exact h_ | (have e_ := (Kd.R_reads' HO304.out).1; omega) | simpa using h_); obtain rfl := k56_openM hM34; have HP34 := Kd.R_seg HX34.out (a1 : Int) (oa_) (by have h_ : (a1 : Int) < ((t302.length : Int) : Int) := oa_; first | exact h_ | (have e_ := (Kd.R_reads' HO304.out).1; omega) | simpa using h_) (seg := [.string (((rd_T56 t302 a1).f0) ++ a2)]) (j := 0) hcl34 hcc34 (show 1 ≤ 2 from by decide) (x' := (⟨((rd_T56 t302 a1).f0) ++ a2, (rd_T56 t302 a1).f1⟩ : S56)) (k56_mkM _ _ _ (⟨((rd_T56 t302 a1).f0) ++ a2, (rd_T56 t302 a1).f1⟩ : S56) ) (fun _ hk => hk); have hx34_0 := hcc34 0 _ rfl; (try simp only [show (k56).sz = 2 from rfl, Nat.mul_one, Nat.add_zero] at hx34_0); have hf34_0 := hfr34 0; (try simp only [show (k56).sz = 2 from rfl, Nat.mul_one, Nat.add_zero] at hf34_0); clear hcl34 hcc34 hfr34; (try clear hM34)) | ((with_reducible refine gate_store (t := 9) (p := 38) rfl ?_); refine store_event (t := 9) (p := 38) (v := ?vo_w35) (w1 := (w32.setCell ⟨go19, (a1 : Int).toNat * 2, none⟩ (.string (((rd_T56 t302 a1).f0) ++ a2)))) ?hg ?ho ?hn ?hr ?_; (case ho => rfl); (case hg => rfl); (case hn => rfl); (case hr => first | (go_simp; done) | (go_simp; rfl)); intro w35 hw; have hg : w32.grownBy w35 (some go19) := (by rw [hw]; exact HP34.2); have hp_ : Kd.R k56 56 w35 w.heap.size (fun _ => True) (.slice (some ⟨go19, 0, none⟩) t302.length co28) y307 := (by rw [hw, Ny307.out]; exact HP34.1); clear HP34; replace BK298 := Aside0.mk (blk_grown (g := gb298) (o := .cells #[.slice (some ad301) l0_0.length c0_0] 31 (0, 0)) (kb_ BK298.out) hg (Kd.R_ne HO304.out BK298.out (by decide))); replace BK299 := Aside0.mk (blk_grown (g := gb299) (o := .cells #[.slice none 0 0] 31 (0, 0)) (kb_ BK299.out) hg (Kd.R_ne HO304.out BK299.out (by decide))); replace BK305 := Aside0.mk (blk_grown (g := gb305) (o := .cells #[.slice (some ⟨go19, 0, none⟩) t302.length co28] 31 (0, 0)) (kb_ BK305.out) hg (Kd.R_ne HO304.out BK305.out (by decide))); replace HO304 := Aside0.mk (hp_); replace HB := Aside0.mk ((by rw [hw]; exact below_set (HB.out) GB19.out : Below w.heap.size w w35)); clear hg hw hp_; obtain ⟨hcz36_0, hfz36_0⟩ := cf1_ BK305.out; obtain ⟨hcz37_0, hfz37_0⟩ := cf1_ BK299.out))
 refine bodyPost_ret (results_ct rfl _ _ gb299 31 #[.slice (some ⟨go19, 0, none⟩) t302.length co28] (0, 0) _ rfl (up_ BK299) Try.underlying31 rfl (by kernel_rfl)) rfl ?_
 exact ⟨_, er_, rF_ (Kd.R_mono (Kd.R_far (p := ⟨gb299, 0, none⟩) (Kd.R_types HO304.out BK299.out (by decide)) (fun _ hk => hk.2) (.slice (some ⟨go19, 0, none⟩) t302.length co28)) (fun _ hk => trivial)), hs3_ GE298.out GE299.out GE305.out⟩
/-! ### spec_WriteBatch: function 18 -/
mutual
def spec_WriteBatch.j0 : Nat → Int → Bool → List (S56) → Int → Int → Int → Int → List ByteArray → Option ((List (S56)) × Bool)
 | 0, _, _, _, _, _, _, _, _ => none
 | k + 1, x1, x18, x309000, x310000, x310001, x310002, x310003, x310004 => if x18 = true then (some (([] : List (S56)), false)) else (if 0 ≤ x1 then (if x1 < (x309000.length : Int) then ((spec_l1Read.f k ((rd_T56 x309000 x1).f0)).bind fun bt314 => (if bt314.2 = (((rd_T56 x309000 x1).f0).size : Int) then (if (bt314.1.length : Int) > 0 then (if 0 ≤ (wrap64 ((bt314.1.length : Int) - 1)) then (if (wrap64 ((bt314.1.length : Int) - 1)) < (bt314.1.length : Int) then ((spec_l1Next.f ((rd_T44 bt314.1 (wrap64 ((bt314.1.length : Int) - 1))).f0) ((rd_T44 bt314.1 (wrap64 ((bt314.1.length : Int) - 1))).f1) ((rd_T44 bt314.1 (wrap64 ((bt314.1.length : Int) - 1))).f2) ((rd_T44 bt314.1 (wrap64 ((bt314.1.length : Int) - 1))).f3) ((rd_T44 bt314.1 (wrap64 ((bt314.1.length : Int) - 1))).f4) x310000 x310001 x310002 x310003 x310004).bind fun t320 => (spec_WriteBatch.j1 k x1 (!t320) x309000 x310000 x310001 x310002 x310003 x310004)) else (none)) else (none)) else (spec_WriteBatch.j1 k x1 false x309000 x310000 x310001 x310002 x310003 x310004)) else (spec_WriteBatch.j1 k x1 true x309000 x310000 x310001 x310002 x310003 x310004))) else (none)) else (none))
def spec_WriteBatch.j1 : Nat → Int → Bool → List (S56) → Int → Int → Int → Int → List ByteArray → Option ((List (S56)) × Bool)
 | 0, _, _, _, _, _, _, _, _ => none
 | k + 1, x1, x54, x309000, x310000, x310001, x310002, x310003, x310004 => if x54 = true then (some (([] : List (S56)), false)) else ((spec_l1Batch.f k x310000 x310001 x310002 x310003 x310004).bind fun t321 => ((spec_AppendTo.f k x309000 x1 t321).bind fun bt322 => (some (bt322.1, bt322.2))))
end
def spec_WriteBatch.f (k : Nat) (l0_0 : List (S56)) (a1 : Int) (a2_0 : Int) (a2_1 : Int) (a2_2 : Int) (a2_3 : Int) (l2_4 : List ByteArray) : Option ((List (S56)) × Bool) := (spec_l3File.f k l0_0 a1).bind fun t311 => (if t311 = true then ((spec_GoodBatch.f k a2_0 a2_1 a2_2 a2_3 l2_4).bind fun t312 => (spec_WriteBatch.j0 k a1 (!t312) l0_0 a2_0 a2_1 a2_2 a2_3 l2_4)) else (spec_WriteBatch.j0 k a1 true l0_0 a2_0 a2_1 a2_2 a2_3 l2_4))
theorem spec_WriteBatch.mono_l : ∀ k, (∀ y0 y1 y2 y3 y4 y5 y6 y7, LeO (spec_WriteBatch.j0 k y0 y1 y2 y3 y4 y5 y6 y7) (spec_WriteBatch.j0 (k + 1) y0 y1 y2 y3 y4 y5 y6 y7)) ∧ (∀ y0 y1 y2 y3 y4 y5 y6 y7, LeO (spec_WriteBatch.j1 k y0 y1 y2 y3 y4 y5 y6 y7) (spec_WriteBatch.j1 (k + 1) y0 y1 y2 y3 y4 y5 y6 y7))
 | 0 => ⟨fun _ _ _ _ _ _ _ _ r h => by simp [spec_WriteBatch.j0] at h, fun _ _ _ _ _ _ _ _ r h => by simp [spec_WriteBatch.j1] at h⟩
 | k + 1 => by
  obtain ⟨ih0, ih1⟩ := spec_WriteBatch.mono_l k
  refine ⟨?_, ?_⟩
  all_goals intros; first | unfold spec_WriteBatch.j0 | unfold spec_WriteBatch.j1
  all_goals repeat' first | (with_reducible first | apply ih0 | apply ih1 | apply spec_AppendTo.mono | apply spec_GoodBatch.mono | apply spec_l1Batch.mono | apply spec_l1Read.mono | apply spec_l3File.mono | exact LeO.refl _ | exact LeO.none _ | refine LeO.ite ?_ ?_ | refine LeO.bind ?_ (fun _ => ?_))
theorem spec_WriteBatch.mono : ∀ a0 a1 a2 a3 a4 a5 a6 k, LeO (spec_WriteBatch.f k a0 a1 a2 a3 a4 a5 a6) (spec_WriteBatch.f (k + 1) a0 a1 a2 a3 a4 a5 a6) := by
 intro a0 a1 a2 a3 a4 a5 a6 k
 obtain ⟨ih0, ih1⟩ := spec_WriteBatch.mono_l k
 unfold spec_WriteBatch.f
 repeat' first
   | (with_reducible first | apply ih0 | apply ih1 | apply spec_AppendTo.mono | apply spec_GoodBatch.mono | apply spec_l1Batch.mono | apply spec_l1Read.mono | apply spec_l3File.mono | exact LeO.refl _ | exact LeO.none _ | refine LeO.ite ?_ ?_ | refine LeO.bind ?_ (fun _ => ?_))
def spec_WriteBatch.T4 : Bool × List (List Nat × List Nat) := (true, [([], []), ([], []), ([1], [1]), ([], []), ([2, 3], [2, 3]), ([4], [4]), ([5], [5]), ([6], [6]), ([0, 7], [0, 7]), ([8], [8]), ([9], [9]), ([10, 9], [9, 10]), ([11, 9], [9, 11]), ([12, 9, 9], [9, 12]), ([13], [13]), ([13], [13]), ([15, 13], [13, 15]), ([16, 13], [13, 16]), ([14, 17, 13], [13, 14, 17]), ([18, 13], [13, 18]), ([13], [13]), ([19, 20, 13, 13], [13, 19, 20]), ([21, 13], [13, 21]), ([13, 22, 9], [9, 13, 22]), ([9, 23], [9, 23])])
def spec_WriteBatch.B4 : List Nat := [0, 0, 2, 0, 14, 30, 62, 126, 255, 511, 1023, 2047, 4095, 8191, 16383, 16383, 49151, 114687, 262143, 524287, 16383, 2097151, 4194303, 8388607, 16777215]
theorem spec_WriteBatch.tab4 : rtab .any (opsOf Try.f18 4) = spec_WriteBatch.T4 := by kernel_rfl
theorem spec_WriteBatch.bits4 : waitsOk spec_WriteBatch.T4.2 spec_WriteBatch.B4 = true := by kernel_rfl
def spec_WriteBatch.T6 : Bool × List (List Nat × List Nat) := (true, [([], []), ([], []), ([], []), ([2], [2]), ([0, 1, 3, 3], [0, 1, 3]), ([4], [4]), ([4], [4]), ([5, 4, 0, 1, 2, 3, 4, 5, 6], [5]), ([6, 7, 0, 1, 2, 3, 4, 5, 6, 7], [6])])
def spec_WriteBatch.B6 : List Nat := [0, 0, 0, 4, 15, 31, 31, 127, 255]
theorem spec_WriteBatch.tab6 : rtab .any (opsOf Try.f18 6) = spec_WriteBatch.T6 := by kernel_rfl
theorem spec_WriteBatch.bits6 : waitsOk spec_WriteBatch.T6.2 spec_WriteBatch.B6 = true := by kernel_rfl
set_option maxHeartbeats 8000000 in
set_option maxRecDepth 100000 in
theorem spec_WriteBatch.calls (k : Nat) (A0_0 : Option Addr) (c0_0 : Nat) (l0_0 : List (S56)) (a1 : Int) (a2_0 : Int) (a2_1 : Int) (a2_2 : Int) (a2_3 : Int) (A2_4 : Option Addr) (c2_4 : Nat) (l2_4 : List ByteArray) (r1 : List (S56)) (r2 : Bool) (w : World) (hr0_0 : Kd.C k56 w A0_0 l0_0.length l0_0) (hc0_0 : l0_0.length ≤ c0_0) (hr2_4 : Kd.C Kd.string w A2_4 l2_4.length l2_4) (hc2_4 : l2_4.length ≤ c2_4) (h : spec_WriteBatch.f k l0_0 a1 a2_0 a2_1 a2_2 a2_3 l2_4 = some (r1, r2)) :
  Calls Try.prog 18 #[.agg #[.slice A0_0 l0_0.length c0_0], .int .i64 a1, .agg #[.int .i64 a2_0, .int .i64 a2_1, .int .i64 a2_2, .int .i64 a2_3, .slice A2_4 l2_4.length c2_4]] w fun e w' => ∃ v0_ : Value, e = .returned (.tuple #[.agg #[v0_], .bool r2]) ∧ Kd.R k56 56 w' w.heap.size (fun _ => True) v0_ r1 ∧ Below w.heap.size w w' := by
 have hu31 := Try.underlying31
 have hu44 := Try.underlying44
 have HR0_0 := Aside0.mk hr0_0
 have HC0_0 := Aside0.mk hc0_0
 clear hr0_0 hc0_0
 have HR2_4 := Aside0.mk hr2_4
 have HC2_4 := Aside0.mk hc2_4
 clear hr2_4 hc2_4
 have HB := Aside0.mk (Below.refl w.heap.size w)
 have H : ((spec_l3File.f k l0_0 a1).bind fun t311 => (if t311 = true then ((spec_GoodBatch.f k a2_0 a2_1 a2_2 a2_3 l2_4).bind fun t312 => (spec_WriteBatch.j0 k a1 (!t312) l0_0 a2_0 a2_1 a2_2 a2_3 l2_4)) else (spec_WriteBatch.j0 k a1 true l0_0 a2_0 a2_1 a2_2 a2_3 l2_4))) = some (r1, r2) := h
 clear h
 have HC4 := Aside0.mk H
 clear H
 go_enter Try.func18, Try.ntmps18
 go_upto_region 1 with (first | ((with_reducible refine gate_dst (N := 3) rfl ?_); (try (refine gate_guard (by rfl) ?_; dsimp only)); refine bq_ (N := 3) #[.slice A0_0 l0_0.length c0_0] 31 ?_; intro gb308 hg w5 BK308 hb; have GE308 := ge_ hg; replace HB := nb_ hb; clear hb hg) | ((with_reducible refine gate_dst (N := 5) rfl ?_); (try (refine gate_guard (by rfl) ?_; dsimp only)); refine bq_ (N := 5) #[.int .i64 a2_0, .int .i64 a2_1, .int .i64 a2_2, .int .i64 a2_3, .slice A2_4 l2_4.length c2_4] 44 ?_; intro gb309 hg w6 BK309 hb; have GE309 := ge1_ hg GE308; replace HB := nc_ GE308 hb; have NB308_309 := nl_ BK308 hg; have NB309_308 := ng_ BK308 hg; replace BK308 := bK_ BK308 hb; clear hb hg) | ((with_reducible refine gate_dst (N := 6) rfl ?_); (try (refine gate_guard (by rfl) ?_; dsimp only)); refine bq_ (N := 6) #[.slice none 0 0] 31 ?_; intro gb310 hg w7 BK310 hb; have GE310 := ge2_ hg GE308 GE309; replace HB := nc2_ GE308 GE309 hb; have NB308_310 := nl_ BK308 hg; have NB310_308 := ng_ BK308 hg; replace BK308 := bK_ BK308 hb; have NB309_310 := nl_ BK309 hg; have NB310_309 := ng_ BK309 hg; replace BK309 := bK_ BK309 hb; clear hb hg))
 (try simp only [Act.put, List.setIfInBounds_toArray, List.set_cons_zero, List.set_cons_succ])
 go_cut [18] (fun v18 wc => ∃ (kq : Nat) (x18_3 : Bool), v18 = .bool x18_3 ∧ Aside0 (spec_WriteBatch.j0 kq a1 x18_3 l0_0 a2_0 a2_1 a2_2 a2_3 l2_4 = some (r1, r2)) ∧ Aside0 (kq ≤ k) ∧ Aside0 (wc.heap[gb308]? = some (.cells #[(.slice A0_0 l0_0.length c0_0)] 31 (0, 0))) ∧ Aside0 (wc.heap[gb309]? = some (.cells #[.int .i64 a2_0, .int .i64 a2_1, .int .i64 a2_2, .int .i64 a2_3, (.slice A2_4 l2_4.length c2_4)] 44 (0, 0))) ∧ Aside0 (wc.heap[gb310]? = some (.cells #[(.slice none 0 0)] 31 (0, 0))) ∧ Aside0 (Below w.heap.size w wc))
 case first =>
  have H := HC4.out
  clear HC4
  replace H := bnd_ H
  obtain ⟨t311, A8, H⟩ := H
  replace H := ifb_ H
  obtain ⟨rfl, H⟩ | ⟨rfl, H⟩ := H
  rotate_left
  ·have H' := Aside0.mk H
   clear H
   have hnb18 := NB308_309.out
   have hnc18 := NB309_308.out
   have hnb19 := NB308_310.out
   have hnc19 := NB310_308.out
   obtain ⟨hcz20_0, hfz20_0⟩ := cf1_ BK308.out
   go_wp2_with (first | ((with_reducible refine gate_callee (f := 49) rfl ?_); refine gl_ 12 Try.func49 #[.agg #[.slice A0_0 l0_0.length c0_0], .int .i64 a1] rfl ma_ ?_; (with_reducible refine (spec_l3File.calls k _ _ l0_0 a1 false _ ?side1 ?side2 A8.out).mono ?_); (case side1 => exact cs_ ((Kd.C_below HR0_0.out HB.out))); (case side2 => exact HC0_0.out); rintro e w21 ⟨rfl, hb⟩; refine ⟨_, rfl, ?_⟩; replace BK308 := bK_ BK308 hb; replace BK309 := bK_ BK309 hb; replace BK310 := bK_ BK310 hb; replace HB := nc3_ GE308 GE309 GE310 hb; (try clear hb); (try clear hb2); (try clear hk); (try clear hi)))
   go_meet
   case rel => exact ⟨_, (true), sr_, H', ⟨by first | omega | exact Nat.le_refl _⟩, ⟨kb_ BK308.out⟩, ⟨kb_ BK309.out⟩, ⟨kb_ BK310.out⟩, ⟨hs3_ GE308.out GE309.out GE310.out⟩⟩
  replace H := bnd_ H
  obtain ⟨t312, A10, H⟩ := H
  have H' := Aside0.mk H
  clear H
  have hnb11 := NB308_309.out
  have hnc11 := NB309_308.out
  have hnb12 := NB308_310.out
  have hnc12 := NB310_308.out
  obtain ⟨hcz13_0, hfz13_0⟩ := cf1_ BK308.out
  go_wp2_with (first | ((with_reducible refine gate_callee (f := 49) rfl ?_); refine gl_ 12 Try.func49 #[.agg #[.slice A0_0 l0_0.length c0_0], .int .i64 a1] rfl ma_ ?_; (with_reducible refine (spec_l3File.calls k _ _ l0_0 a1 true _ ?side1 ?side2 A8.out).mono ?_); (case side1 => exact cs_ ((Kd.C_below HR0_0.out HB.out))); (case side2 => exact HC0_0.out); rintro e w14 ⟨rfl, hb⟩; refine ⟨_, rfl, ?_⟩; replace BK308 := bK_ BK308 hb; replace BK309 := bK_ BK309 hb; replace BK310 := bK_ BK310 hb; replace HB := nc3_ GE308 GE309 GE310 hb; (try clear hb); (try clear hb2); (try clear hk); (try clear hi); have hnb15 := NB309_310.out; have hnc15 := NB310_309.out; obtain ⟨hcz16_0, hcz16_1, hcz16_2, hcz16_3, hcz16_4, hfz16_0, hfz16_1, hfz16_2, hfz16_3, hfz16_4⟩ := cf5_ BK309.out) | (go_at_call 59; (with_reducible refine (spec_GoodBatch.calls k a2_0 a2_1 a2_2 a2_3 _ _ l2_4 t312 _ ?side1 ?side2 A10.out).mono ?_); (case side1 => exact cs_ ((Kd.C_below HR2_4.out HB.out))); (case side2 => exact HC2_4.out); rintro e w17 ⟨rfl, hb⟩; replace BK308 := bK_ BK308 hb; replace BK309 := bK_ BK309 hb; replace BK310 := bK_ BK310 hb; replace HB := nc3_ GE308 GE309 GE310 hb; (try clear hb); (try clear hb2); (try clear hk); (try clear hi)))
  go_meet
  case rel => exact ⟨_, (!t312), sr_, H', ⟨by first | omega | exact Nat.le_refl _⟩, ⟨kb_ BK308.out⟩, ⟨kb_ BK309.out⟩, ⟨kb_ BK310.out⟩, ⟨hs3_ GE308.out GE309.out GE310.out⟩⟩
 case rest =>
  clear HC4
  obtain ⟨kq, x18_3, rfl, HA, HJ3, BK308, BK309, BK310, HB⟩ := hcut
  cases kq with
  | zero => exact absurd HA.out (by simp [spec_WriteBatch.j0])
  | succ kj3 =>
   have H := HA.out
   clear HA
   simp only [spec_WriteBatch.j0] at H
   replace H := ifb_ H
   obtain ⟨rfl, H⟩ | ⟨rfl, H⟩ := H
   ·simp only [Option.some.injEq, Prod.mk.injEq] at H
    obtain ⟨rfl, rfl⟩ := H
    have hnb23 := NB310_308.out
    have hnc23 := NB308_310.out
    have hnb24 := NB310_309.out
    have hnc24 := NB309_310.out
    obtain ⟨hcz25_0, hfz25_0⟩ := cf1_ BK310.out
    go_wp2
    refine bodyPost_ret (results_ct rfl _ _ gb310 31 #[.slice none 0 0] (0, 0) _ rfl (up_ BK310) Try.underlying31 rfl (by kernel_rfl)) rfl ?_
    exact ⟨_, er_, ni_, hs3_ GE308.out GE309.out GE310.out⟩
   replace H := ifs_ H
   obtain ⟨c26, H⟩ := H
   have c26b0 := decide_eq_true c26
   clear c26
   replace H := ifs_ H
   obtain ⟨c27, H⟩ := H
   have c27b0 := decide_eq_true c27
   clear c27
   replace H := bnd_ H
   obtain ⟨⟨t314, t315⟩, A28, H⟩ := H
   replace H := red_ H
   have HC29 := Aside0.mk H
   clear H
   have hnb30 := NB308_309.out
   have hnc30 := NB309_308.out
   have hnb31 := NB308_310.out
   have hnc31 := NB310_308.out
   obtain ⟨hcz32_0, hfz32_0⟩ := cf1_ BK308.out
   have p313 : 0 ≤ (a1 : Int) := oa_
   have q313 : a1 < (l0_0.length : Int) := oa_
   obtain ⟨ad313, e313, hx313_0, hx313_1⟩ := at_T56 HR0_0.out a1 p313 q313
   cases e313
   replace hx313_0 := pc_ HB.out hx313_0
   replace hx313_1 := pc_ HB.out hx313_1
   replace p313 := eq_true p313
   replace q313 := eq_true q313
   go_upto_region 4 with (first | ((with_reducible refine gate_callee (f := 50) rfl ?_); refine gl_ 27 Try.func50 #[.string ((rd_T56 l0_0 a1).f0)] rfl ma_ ?_; (with_reducible refine (spec_l1Read.calls kj3 ((rd_T56 l0_0 a1).f0) t314 t315 _ A28.out).mono ?_); rintro e w33 ⟨v316, rfl, ho0, hb⟩; refine ⟨_, rfl, ?_⟩; have HO317 := Aside0.mk (Kd.S_lower (Kd.S_newB ho0 (g := gb309) (o := .cells #[.int .i64 a2_0, .int .i64 a2_1, .int .i64 a2_2, .int .i64 a2_3, .slice A2_4 l2_4.length c2_4] 44 (0, 0)) (kb_ BK309.out)) (below_size (hs3_ GE308.out GE309.out GE310.out))); replace BK308 := bK_ BK308 hb; replace BK309 := bK_ BK309 hb; replace BK310 := bK_ BK310 hb; replace HB := nc3_ GE308 GE309 GE310 hb; (try clear hb); (try clear hb2); (try clear hk); (try clear hi); (try clear ho0)))
   (try simp only [Act.put, List.setIfInBounds_toArray, List.set_cons_zero, List.set_cons_succ])
   go_cut [54] (fun v54 wc => ∃ (kq : Nat) (x54_28 : Bool), v54 = .bool x54_28 ∧ Aside0 (spec_WriteBatch.j1 kq a1 x54_28 l0_0 a2_0 a2_1 a2_2 a2_3 l2_4 = some (r1, r2)) ∧ Aside0 (kq ≤ kj3) ∧ Aside0 (wc.heap[gb308]? = some (.cells #[(.slice (some ad313) l0_0.length c0_0)] 31 (0, 0))) ∧ Aside0 (wc.heap[gb309]? = some (.cells #[.int .i64 a2_0, .int .i64 a2_1, .int .i64 a2_2, .int .i64 a2_3, (.slice A2_4 l2_4.length c2_4)] 44 (0, 0))) ∧ Aside0 (wc.heap[gb310]? = some (.cells #[(.slice none 0 0)] 31 (0, 0))) ∧ Aside0 (Below w.heap.size w wc))
   case first =>
    have H := HC29.out
    clear HC29
    replace H := ite_ H
    obtain ⟨c34, H⟩ | ⟨c34, H⟩ := H
    rotate_left
    ·have c34b0 : (t315 == (((rd_T56 l0_0 a1).f0).size : Int)) = false := beq_eq_false_iff_ne.mpr c34
     have c34b1 : (t315 != (((rd_T56 l0_0 a1).f0).size : Int)) = true := bne_iff_ne.mpr c34
     (first | rw [c34b0] | (simp only [i64_w, i32_w]; rw [c34b0]) | rw [c34b1] | skip)
     have H' := Aside0.mk H
     clear H
     try go_wp2
     replace HO317 := Aside0.mk (Kd.S_drew HO317.out)
     replace BK308 := qK_ BK308
     replace BK309 := qK_ BK309
     replace BK310 := qK_ BK310
     replace HB := qH_ HB
     have p318 : 0 ≤ (a1 : Int) := oa_
     have q318 : a1 < (l0_0.length : Int) := oa_
     obtain ⟨ad318, e318, hx318_0, hx318_1⟩ := at_T56 HR0_0.out a1 p318 q318
     have hw318_1 := hx318_1
     have hw318_0 := hx318_0
     obtain rfl : ad313 = ad318 := (by injection e318)
     replace hx318_0 := pc_ HB.out hx318_0
     replace hx318_1 := pc_ HB.out hx318_1
     replace p318 := eq_true p318
     replace q318 := eq_true q318
     refine start_ (n := 25) (S := fun w' => w'.cell? ⟨gb308, 0, none⟩ = some (.slice (some ad313) l0_0.length c0_0) ∧ w'.cell? (ad313.add ((a1).toNat * 2)) = some (.string ((rd_T56 l0_0 a1).f0)) ∧ w'.cell? ⟨(ad313.add ((a1).toNat * 2)).block, (ad313.add ((a1).toNat * 2)).off + 1, none⟩ = some (.int .i64 ((rd_T56 l0_0 a1).f1))) (ds := []) (List.replicate 25 false).toArray (by kernel_rfl) rfl rfl ⟨bt_ BK308 0, (pc_ HB.out hw318_0), (pc_ HB.out hw318_1)⟩ (fun hHeld => ?_); refine with_tabW spec_WriteBatch.tab4 spec_WriteBatch.bits4 (fun HT_ HW_ => ?_)
     generalize w33.drew = w45 at HO317 BK308 BK309 BK310 HB hx318_0 hx318_1 hHeld ⊢
     refine pv_ 0 30 ?_
     refine pv_ 1 31 ?_
     refine pv_ 3 33 ?_
     refine tk_ 2 32 ?_
     refine pv_ 4 34 ?_
     refine pv_ 5 35 ?_
     refine tk_ 6 36 ?_
     refine pv_ 7 37 ?_
     refine pv_ 8 38 ?_
     refine pv_ 9 39 ?_
     refine po_ 10 40 ?_
     refine po_ 11 41 ?_
     refine po_ 12 42 ?_
     refine po_ 13 43 ?_
     refine po_ 14 44 ?_
     refine po_ 15 45 ?_
     refine po_ 16 46 ?_
     refine po_ 17 47 ?_
     refine po_ 18 48 ?_
     refine po_ 19 49 ?_
     refine po_ 20 50 ?_
     refine po_ 21 51 ?_
     refine po_ 22 52 ?_
     refine po_ 23 53 ?_
     refine pv_ 24 54 ?_
     refine done_ (done_of HT_.out (by kernel_rfl)) ?_
     try go_wp2
     go_meet
     case rel => exact ⟨_, (true), sr_, H', ⟨by have := HJ3.out; first | omega | exact Nat.le_refl _⟩, ⟨kb_ BK308.out⟩, ⟨kb_ BK309.out⟩, ⟨kb_ BK310.out⟩, ⟨hs3_ GE308.out GE309.out GE310.out⟩⟩
    have c34b0 : (t315 == (((rd_T56 l0_0 a1).f0).size : Int)) = true := beq_iff_eq.mpr c34
    have c34b1 : (t315 != (((rd_T56 l0_0 a1).f0).size : Int)) = false := bne_eq_false_iff_eq.mpr c34
    clear c34
    (first | rw [c34b0] | (simp only [i64_w, i32_w]; rw [c34b0]) | rw [c34b1] | skip)
    replace H := ite_ H
    obtain ⟨c35, H⟩ | ⟨c35, H⟩ := H
    rotate_left
    ·have c35b0 := dgf_ c35
     have c35b1 : decide (0 < t314.length) = false := decide_eq_false (by omega)
     clear c35
     have H' := Aside0.mk H
     clear H
     try go_wp2
     replace HO317 := Aside0.mk (Kd.S_drew HO317.out)
     replace BK308 := qK_ BK308
     replace BK309 := qK_ BK309
     replace BK310 := qK_ BK310
     replace HB := qH_ HB
     have p318 : 0 ≤ (a1 : Int) := oa_
     have q318 : a1 < (l0_0.length : Int) := oa_
     obtain ⟨ad318, e318, hx318_0, hx318_1⟩ := at_T56 HR0_0.out a1 p318 q318
     have hw318_1 := hx318_1
     have hw318_0 := hx318_0
     obtain rfl : ad313 = ad318 := (by injection e318)
     replace hx318_0 := pc_ HB.out hx318_0
     replace hx318_1 := pc_ HB.out hx318_1
     replace p318 := eq_true p318
     replace q318 := eq_true q318
     obtain ⟨Ao44, co44, eo44⟩ := Kd.S_slice HO317.out
     (first | subst eo44 | (injection eo44 with f1_ f2_ f3_; have f4_ := f1_.symm; have f5_ := f3_.symm; clear f1_ f2_ f3_; subst f4_; subst f5_))
     refine start_ (n := 25) (S := fun w' => w'.cell? ⟨gb308, 0, none⟩ = some (.slice (some ad313) l0_0.length c0_0) ∧ w'.cell? (ad313.add ((a1).toNat * 2)) = some (.string ((rd_T56 l0_0 a1).f0)) ∧ w'.cell? ⟨(ad313.add ((a1).toNat * 2)).block, (ad313.add ((a1).toNat * 2)).off + 1, none⟩ = some (.int .i64 ((rd_T56 l0_0 a1).f1))) (ds := []) (List.replicate 25 false).toArray (by kernel_rfl) rfl rfl ⟨bt_ BK308 0, (pc_ HB.out hw318_0), (pc_ HB.out hw318_1)⟩ (fun hHeld => ?_); refine with_tabW spec_WriteBatch.tab4 spec_WriteBatch.bits4 (fun HT_ HW_ => ?_)
     generalize w33.drew = w43 at HO317 BK308 BK309 BK310 HB hx318_0 hx318_1 hHeld ⊢
     refine pv_ 0 30 ?_
     refine pv_ 1 31 ?_
     refine pv_ 3 33 ?_
     refine tk_ 2 32 ?_
     refine pv_ 4 34 ?_
     refine pv_ 5 35 ?_
     refine tk_ 6 36 ?_
     refine pv_ 7 37 ?_
     refine pv_ 8 38 ?_
     refine pv_ 9 39 ?_
     refine pv_ 10 40 ?_
     refine pv_ 11 41 ?_
     refine pv_ 12 42 ?_
     refine pv_ 13 43 ?_
     refine po_ 14 44 ?_
     refine po_ 15 45 ?_
     refine po_ 16 46 ?_
     refine po_ 17 47 ?_
     refine po_ 18 48 ?_
     refine po_ 19 49 ?_
     refine po_ 20 50 ?_
     refine po_ 21 51 ?_
     refine po_ 22 52 ?_
     refine pv_ 23 53 ?_
     refine pv_ 24 54 ?_
     refine done_ (done_of HT_.out (by kernel_rfl)) ?_
     try go_wp2
     go_meet
     case rel => exact ⟨_, (false), sr_, H', ⟨by have := HJ3.out; first | omega | exact Nat.le_refl _⟩, ⟨kb_ BK308.out⟩, ⟨kb_ BK309.out⟩, ⟨kb_ BK310.out⟩, ⟨hs3_ GE308.out GE309.out GE310.out⟩⟩
    have c35b0 := dgt_ c35
    have c35b1 : decide (0 < t314.length) = true := decide_eq_true (by omega)
    clear c35
    obtain ⟨ji36, hji36⟩ : ∃ j_ : Int, (wrap64 ((t314.length : Int) - 1)) = j_ := ⟨_, rfl⟩
    first | rw [hji36] at H | simp only [hji36] at H
    have hji36w : (IntKind.i64.wrap ((t314.length : Int) - 1)) = ji36 := (i64_w _).trans hji36
    replace H := ifs_ H
    obtain ⟨c37, H⟩ := H
    have c37b0 := decide_eq_true c37
    clear c37
    replace H := ifs_ H
    obtain ⟨c38, H⟩ := H
    have c38b0 := decide_eq_true c38
    clear c38
    replace H := bnd_ H
    obtain ⟨t320, A39, H⟩ := H
    have H' := Aside0.mk H
    clear H
    try go_wp2
    replace HO317 := Aside0.mk (Kd.S_drew HO317.out)
    replace BK308 := qK_ BK308
    replace BK309 := qK_ BK309
    replace BK310 := qK_ BK310
    replace HB := qH_ HB
    have p318 : 0 ≤ (a1 : Int) := oa_
    have q318 : a1 < (l0_0.length : Int) := oa_
    obtain ⟨ad318, e318, hx318_0, hx318_1⟩ := at_T56 HR0_0.out a1 p318 q318
    have hw318_1 := hx318_1
    have hw318_0 := hx318_0
    obtain rfl : ad313 = ad318 := (by injection e318)
    replace hx318_0 := pc_ HB.out hx318_0
    replace hx318_1 := pc_ HB.out hx318_1
    replace p318 := eq_true p318
    replace q318 := eq_true q318
    obtain ⟨Ao41, co41, eo41⟩ := Kd.S_slice HO317.out
    (first | subst eo41 | (injection eo41 with f1_ f2_ f3_; have f4_ := f1_.symm; have f5_ := f3_.symm; clear f1_ f2_ f3_; subst f4_; subst f5_))
    have p319 : 0 ≤ ((ji36) : Int) := oa_
    have q319 : (ji36) < (t314.length : Int) := oa_
    obtain ⟨ad319, A319_4, c319_4, e319, hx319_0, hx319_1, hx319_2, hx319_3, hx319_4, hl319_4, hi319_4⟩ := at_T44 (Kd.S_reads' HO317.out).2.2 (ji36) p319 q319
    cases e319
    obtain ⟨ce319, hce319, hMe319, hcc319⟩ := Kd.S_get HO317.out z44 (ji36) p319 (by first | exact q319 | exact oa_ | (have e_ := (Kd.S_reads' HO317.out).1; omega))
    obtain ⟨ve319_4, rfl, ge319_4⟩ := k44_openM hMe319
    have hv319_4 := hcc319 4 _ rfl
    rw [add_field _ _ 4 (by omega)] at hv319_4
    replace hv319_4 := Option.some.inj (hv319_4.symm.trans hx319_4)
    rw [hv319_4] at ge319_4
    have HL319_4 := Aside0.mk (show Kd.R Kd.string 9 _ _ _ _ ((rd_T44 t314 (ji36)).f4) from ge319_4)
    clear hv319_4 ge319_4
    clear hcc319 hce319
    have HR319_4 := Aside0.mk hi319_4
    have HC319_4 := Aside0.mk hl319_4
    clear hi319_4 hl319_4
    replace p319 := eq_true p319
    replace q319 := eq_true q319
    refine start_ (n := 25) (S := fun w' => w'.cell? ⟨gb308, 0, none⟩ = some (.slice (some ad313) l0_0.length c0_0) ∧ w'.cell? ⟨gb309, 0, none⟩ = some (.int .i64 a2_0) ∧ w'.cell? ⟨gb309, 1, none⟩ = some (.int .i64 a2_1) ∧ w'.cell? ⟨gb309, 2, none⟩ = some (.int .i64 a2_2) ∧ w'.cell? ⟨gb309, 3, none⟩ = some (.int .i64 a2_3) ∧ w'.cell? ⟨gb309, 4, none⟩ = some (.slice A2_4 l2_4.length c2_4) ∧ w'.cell? (ad313.add ((a1).toNat * 2)) = some (.string ((rd_T56 l0_0 a1).f0)) ∧ w'.cell? ⟨(ad313.add ((a1).toNat * 2)).block, (ad313.add ((a1).toNat * 2)).off + 1, none⟩ = some (.int .i64 ((rd_T56 l0_0 a1).f1)) ∧ w'.cell? (ad319.add (((ji36)).toNat * 5)) = some (.int .i64 ((rd_T44 t314 (ji36)).f0)) ∧ w'.cell? ⟨(ad319.add (((ji36)).toNat * 5)).block, (ad319.add (((ji36)).toNat * 5)).off + 1, none⟩ = some (.int .i64 ((rd_T44 t314 (ji36)).f1)) ∧ w'.cell? ⟨(ad319.add (((ji36)).toNat * 5)).block, (ad319.add (((ji36)).toNat * 5)).off + 2, none⟩ = some (.int .i64 ((rd_T44 t314 (ji36)).f2)) ∧ w'.cell? ⟨(ad319.add (((ji36)).toNat * 5)).block, (ad319.add (((ji36)).toNat * 5)).off + 3, none⟩ = some (.int .i64 ((rd_T44 t314 (ji36)).f3)) ∧ w'.cell? ⟨(ad319.add (((ji36)).toNat * 5)).block, (ad319.add (((ji36)).toNat * 5)).off + 4, none⟩ = some (.slice A319_4 ((rd_T44 t314 (ji36)).f4).length c319_4)) (ds := []) (List.replicate 25 false).toArray (by kernel_rfl) rfl rfl ⟨bt_ BK308 0, bt_ BK309 0, bt_ BK309 1, bt_ BK309 2, bt_ BK309 3, bt_ BK309 4, (pc_ HB.out hw318_0), (pc_ HB.out hw318_1), hx319_0, hx319_1, hx319_2, hx319_3, hx319_4⟩ (fun hHeld => ?_); refine with_tabW spec_WriteBatch.tab4 spec_WriteBatch.bits4 (fun HT_ HW_ => ?_)
    generalize w33.drew = w40 at HO317 BK308 BK309 BK310 HB HL319_4 HR319_4 hx318_0 hx318_1 hx319_0 hx319_1 hx319_2 hx319_3 hx319_4 hHeld ⊢
    refine pv_ 0 30 ?_
    refine pv_ 1 31 ?_
    refine pv_ 3 33 ?_
    refine tk_ 2 32 ?_
    refine pv_ 4 34 ?_
    refine pv_ 5 35 ?_
    refine tk_ 6 36 ?_
    refine pv_ 7 37 ?_
    refine pv_ 8 38 ?_
    refine pv_ 9 39 ?_
    refine pv_ 10 40 ?_
    refine pv_ 11 41 ?_
    refine pv_ 12 42 ?_
    refine pv_ 13 43 ?_
    refine pv_ 14 44 ?_
    refine pv_ 15 45 ?_
    refine pv_ 16 46 ?_
    refine pv_ 17 47 ?_
    refine pv_ 18 48 ?_
    refine tk_ 19 49 ?_
    refine tk_ 20 50 ?_
    refine on_ 21 51 (fun K hK => ?_)
    refine gs_ Try.func60 #[.agg #[.int .i64 ((rd_T44 t314 (ji36)).f0), .int .i64 ((rd_T44 t314 (ji36)).f1), .int .i64 ((rd_T44 t314 (ji36)).f2), .int .i64 ((rd_T44 t314 (ji36)).f3), .slice A319_4 ((rd_T44 t314 (ji36)).f4).length c319_4], .agg #[.int .i64 a2_0, .int .i64 a2_1, .int .i64 a2_2, .int .i64 a2_3, .slice A2_4 l2_4.length c2_4]] rfl (mb_ hji36) ?_
    with_reducible refine (spec_l1Next.calls ((rd_T44 t314 (ji36)).f0) ((rd_T44 t314 (ji36)).f1) ((rd_T44 t314 (ji36)).f2) ((rd_T44 t314 (ji36)).f3) _ _ ((rd_T44 t314 (ji36)).f4) a2_0 a2_1 a2_2 a2_3 _ _ l2_4 t320 _ ?side1 ?side2 ?side3 ?side4 A39.out).mono ?_
    (case side1 => repeat (first | exact (by repeat (first | (with_reducible exact HR319_4.out) | (with_reducible refine Kd.C_alloc ?_ _) | (with_reducible refine Kd.C_drewN ?_ _) | (with_reducible refine Kd.C_drew ?_) | exact HR319_4.out)) | (with_reducible refine Kd.C_alloc ?_ _) | (with_reducible refine Kd.C_drewN ?_ _) | (with_reducible refine Kd.C_drew ?_)))
    (case side2 => exact HC319_4.out)
    (case side3 => exact cs_ ((Kd.C_below HR2_4.out HB.out)))
    (case side4 => exact HC2_4.out)
    rintro e w42 ⟨rfl, hb⟩
    have HS8_ := (hb.cell (World.block_lt_of_cell? _ _ (hHeld.2.2.2.2.2.2.2.2.1))).trans (hHeld.2.2.2.2.2.2.2.2.1)
    have HS9_ := (hb.cell (World.block_lt_of_cell? _ _ (hHeld.2.2.2.2.2.2.2.2.2.1))).trans (hHeld.2.2.2.2.2.2.2.2.2.1)
    have HS10_ := (hb.cell (World.block_lt_of_cell? _ _ (hHeld.2.2.2.2.2.2.2.2.2.2.1))).trans (hHeld.2.2.2.2.2.2.2.2.2.2.1)
    have HS11_ := (hb.cell (World.block_lt_of_cell? _ _ (hHeld.2.2.2.2.2.2.2.2.2.2.2.1))).trans (hHeld.2.2.2.2.2.2.2.2.2.2.2.1)
    have HS12_ := (hb.cell (World.block_lt_of_cell? _ _ (hHeld.2.2.2.2.2.2.2.2.2.2.2.2))).trans (hHeld.2.2.2.2.2.2.2.2.2.2.2.2)
    refine ⟨_, rfl, ?_⟩
    replace HO317 := sB_ HO317 hb
    replace HL319_4 := rB_ HL319_4 hb
    replace BK308 := bK_ BK308 hb
    replace BK309 := bK_ BK309 hb
    replace BK310 := bK_ BK310 hb
    replace HR319_4 := Aside0.mk (Kd.C_below (by repeat (first | (with_reducible exact HR319_4.out) | (with_reducible refine Kd.C_alloc ?_ _) | (with_reducible refine Kd.C_drewN ?_ _) | (with_reducible refine Kd.C_drew ?_) | exact HR319_4.out)) hb)
    replace HB := nc3_ GE308 GE309 GE310 hb
    (try clear hb)
    (try clear hb2)
    (try clear hk)
    (try clear hi)
    refine hK.out _ _ ⟨bt_ BK308 0, bt_ BK309 0, bt_ BK309 1, bt_ BK309 2, bt_ BK309 3, bt_ BK309 4, (pc_ HB.out hw318_0), (pc_ HB.out hw318_1), HS8_, HS9_, HS10_, HS11_, HS12_⟩ (fun hHeld => ?_)
    clear hK K
    refine no_ ?_
    refine pv_ 22 52 ?_
    refine pv_ 23 53 ?_
    refine pv_ 24 54 ?_
    refine done_ (done_of HT_.out (by kernel_rfl)) ?_
    try go_wp2
    go_meet
    case rel => exact ⟨_, (!t320), sr_, H', ⟨by have := HJ3.out; first | omega | exact Nat.le_refl _⟩, ⟨kb_ BK308.out⟩, ⟨kb_ BK309.out⟩, ⟨kb_ BK310.out⟩, ⟨hs3_ GE308.out GE309.out GE310.out⟩⟩
   case rest =>
    clear HC29
    obtain ⟨kq, x54_28, rfl, HA, HJ28, BK308, BK309, BK310, HB⟩ := hcut
    cases kq with
    | zero => exact absurd HA.out (by simp [spec_WriteBatch.j1])
    | succ kj28 =>
     have H := HA.out
     clear HA
     simp only [spec_WriteBatch.j1] at H
     replace H := ifb_ H
     obtain ⟨rfl, H⟩ | ⟨rfl, H⟩ := H
     ·simp only [Option.some.injEq, Prod.mk.injEq] at H
      obtain ⟨rfl, rfl⟩ := H
      have hnb47 := NB310_308.out
      have hnc47 := NB308_310.out
      have hnb48 := NB310_309.out
      have hnc48 := NB309_310.out
      obtain ⟨hcz49_0, hfz49_0⟩ := cf1_ BK310.out
      go_wp2
      refine bodyPost_ret (results_ct rfl _ _ gb310 31 #[.slice none 0 0] (0, 0) _ rfl (up_ BK310) Try.underlying31 rfl (by kernel_rfl)) rfl ?_
      exact ⟨_, er_, ni_, hs3_ GE308.out GE309.out GE310.out⟩
     replace H := bnd_ H
     obtain ⟨t321, A50, H⟩ := H
     replace H := bnd_ H
     obtain ⟨⟨t322, t325⟩, A51, H⟩ := H
     replace H := red_ H
     simp only [Option.some.injEq, Prod.mk.injEq] at H
     obtain ⟨rfl, rfl⟩ := H
     try go_wp2
     replace BK308 := qK_ BK308
     replace BK309 := qK_ BK309
     replace BK310 := qK_ BK310
     replace HB := qH_ HB
     refine start_ (n := 9) (S := fun w' => w'.cell? ⟨gb308, 0, none⟩ = some (.slice (some ad313) l0_0.length c0_0) ∧ w'.cell? ⟨gb309, 0, none⟩ = some (.int .i64 a2_0) ∧ w'.cell? ⟨gb309, 1, none⟩ = some (.int .i64 a2_1) ∧ w'.cell? ⟨gb309, 2, none⟩ = some (.int .i64 a2_2) ∧ w'.cell? ⟨gb309, 3, none⟩ = some (.int .i64 a2_3) ∧ w'.cell? ⟨gb309, 4, none⟩ = some (.slice A2_4 l2_4.length c2_4)) (ds := []) #[false, false, false, false, false, false, false, false, false] (by kernel_rfl) rfl rfl ⟨bt_ BK308 0, bt_ BK309 0, bt_ BK309 1, bt_ BK309 2, bt_ BK309 3, bt_ BK309 4⟩ (fun hHeld => ?_); refine with_tabW spec_WriteBatch.tab6 spec_WriteBatch.bits6 (fun HT_ HW_ => ?_)
     generalize wc.drew = w52 at BK308 BK309 BK310 HB hHeld ⊢
     refine pv_ 1 57 ?_
     refine tk_ 0 56 ?_
     refine tk_ 2 58 ?_
     refine on_ 3 59 (fun K hK => ?_)
     refine gs_ Try.func61 #[.agg #[.int .i64 a2_0, .int .i64 a2_1, .int .i64 a2_2, .int .i64 a2_3, .slice A2_4 l2_4.length c2_4]] rfl ma_ ?_
     with_reducible refine (spec_l1Batch.calls kj28 a2_0 a2_1 a2_2 a2_3 _ _ l2_4 t321 _ ?side1 ?side2 A50.out).mono ?_
     (case side1 => exact cs_ ((Kd.C_below HR2_4.out HB.out)))
     (case side2 => exact HC2_4.out)
     rintro e w53 ⟨rfl, hb⟩
     refine ⟨_, rfl, ?_⟩
     replace BK308 := bK_ BK308 hb
     replace BK309 := bK_ BK309 hb
     replace BK310 := bK_ BK310 hb
     replace HB := nc3_ GE308 GE309 GE310 hb
     (try clear hb)
     (try clear hb2)
     (try clear hk)
     (try clear hi)
     refine hK.out _ _ ⟨bt_ BK308 0, bt_ BK309 0, bt_ BK309 1, bt_ BK309 2, bt_ BK309 3, bt_ BK309 4⟩ (fun hHeld => ?_)
     clear hK K
     refine no_ ?_
     refine on_ 4 60 (fun K hK => ?_)
     refine gs_ Try.func32 #[.agg #[.slice (some ad313) l0_0.length c0_0], .int .i64 a1, .string t321] rfl ma_ ?_
     with_reducible refine (spec_AppendTo.calls kj28 _ _ l0_0 a1 t321 t322 t325 _ ?side1 ?side2 A51.out).mono ?_
     (case side1 => exact cs_ ((Kd.C_below HR0_0.out HB.out)))
     (case side2 => exact HC0_0.out)
     rintro e w54 ⟨v323, rfl, ho0, hb⟩
     refine ⟨_, rfl, ?_⟩
     have HO324 := Aside0.mk (Kd.R_lower ho0 (below_size (hs3_ GE308.out GE309.out GE310.out)))
     replace BK308 := bK_ BK308 hb
     replace BK309 := bK_ BK309 hb
     replace BK310 := bK_ BK310 hb
     replace HB := nc3_ GE308 GE309 GE310 hb
     (try clear hb)
     (try clear hb2)
     (try clear hk)
     (try clear hi)
     (try clear ho0)
     obtain ⟨Ao55, co55, eo55⟩ := Kd.R_slice HO324.out
     (first | subst eo55 | (injection eo55 with f1_ f2_ f3_; have f4_ := f1_.symm; have f5_ := f3_.symm; clear f1_ f2_ f3_; subst f4_; subst f5_))
     refine hK.out _ _ ⟨bt_ BK308 0, bt_ BK309 0, bt_ BK309 1, bt_ BK309 2, bt_ BK309 3, bt_ BK309 4⟩ (fun hHeld => ?_)
     clear hK K
     refine no_ ?_
     refine pv_ 5 61 ?_
     refine pv_ 6 62 ?_
     refine one_ (i := 7) (N := none) #[true, true, true, true, true, true, true, true, false] rfl rfl (one_of HT_.out (by kernel_rfl)) (by decide) (fun K hK => ?_)
     obtain ⟨hs56, hfs56⟩ := cf1_ BK310.out
     have hns56_0 := NB308_310.out
     have hns56_1 := NB309_310.out
     have hms56_0 := NB310_308.out
     have hms56_1 := NB310_309.out
     refine skip_ (w1 := ?_) (by rfl) rfl ?_ ?_
     rotate_left
     ·go_simp
      rfl
     refine hK.out _ _ ⟨((cell_far (p := ⟨gb310, _, none⟩) NB308_310.out _).trans (hHeld.1)), ((cell_far (p := ⟨gb310, _, none⟩) NB309_310.out _).trans (hHeld.2.1)), ((cell_far (p := ⟨gb310, _, none⟩) NB309_310.out _).trans (hHeld.2.2.1)), ((cell_far (p := ⟨gb310, _, none⟩) NB309_310.out _).trans (hHeld.2.2.2.1)), ((cell_far (p := ⟨gb310, _, none⟩) NB309_310.out _).trans (hHeld.2.2.2.2.1)), ((cell_far (p := ⟨gb310, _, none⟩) NB309_310.out _).trans (hHeld.2.2.2.2.2))⟩ (fun hHeld => ?_)
     clear hK K
     refine pv_ 8 7 ?_
     refine done_ (done_of HT_.out (by kernel_rfl)) ?_
     try go_wp2
     refine bodyPost_ret (results_ct rfl _ _ gb310 31 #[.slice Ao55 t322.length co55] (0, 0) _ rfl (up_ BK310) Try.underlying31 rfl (by kernel_rfl)) rfl ?_
     exact ⟨_, er_, rF_ (Kd.R_mono (Kd.R_far (p := ⟨gb310, 0, none⟩) (Kd.R_types HO324.out BK310.out (by decide)) (fun _ hk => hk.2) (.slice Ao55 t322.length co55)) (fun _ hk => trivial)), hs3_ GE308.out GE309.out GE310.out⟩
end Go.Proofs.Ytpdpipfkllfhmaa.QFnTorn
