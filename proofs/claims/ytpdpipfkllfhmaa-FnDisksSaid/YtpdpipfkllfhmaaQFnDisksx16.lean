/- Functions that one statement reaches: of each a plain function, and the proof that calls come to it. Conditions: those that each contract names. Written by a program of this repository. -/
import Derived.Test.YtpdpipfkllfhmaaVFnDisksa
import Derived.Test.YtpdpipfkllfhmaaQFnDisksx3
import Derived.Test.YtpdpipfkllfhmaaQFnDisksx12
namespace Go.Proofs.Ytpdpipfkllfhmaa.QFnDisks
open Go.RowKit Go.Proofs.YtpdpipfkllfhmaaW.PrintWords Go.Proofs.YtpdpipfkllfhmaaW.PrintLast Go.Proofs.YtpdpipfkllfhmaaW.PrintMore
attribute [local go_sem] max2_int min2_int max_two min_two max_three min_three max_four min_four Go.Proofs.YtpdpipfkllfhmaaW.PrintMore2.isSome_setCell   -- for this text's walks alone
set_option linter.unusedVariables false
set_option linter.unusedSimpArgs false

attribute [local go_sem high] eqA56
/-! ### laws_sameDisks: function 27 -/
def laws_sameDisks.l0 : Nat → Int → Int → List (S56) → List (S56) → Option (Bool)
 | 0, _, _, _, _ => none
 | k + 1, x15, x16, x433000, x434000 => if x16 < x15 then (if 0 ≤ x16 then (if x16 < (x433000.length : Int) then (if x16 < (x434000.length : Int) then (if (!((((rd_T56 x433000 x16).f0).toList) == (((rd_T56 x434000 x16).f0).toList)) || (!(((rd_T56 x433000 x16).f1) == ((rd_T56 x434000 x16).f1)))) = true then (some false) else (laws_sameDisks.l0 k x15 (wrap64 (x16 + 1)) x433000 x434000)) else (none)) else (none)) else (none)) else (some true)
def laws_sameDisks.f (k : Nat) (l0_0 : List (S56)) (l1_0 : List (S56)) : Option (Bool) := if (l0_0.length : Int) = (l1_0.length : Int) then (laws_sameDisks.l0 k (l0_0.length : Int) 0 l0_0 l1_0) else (some false)
theorem laws_sameDisks.mono_l : ∀ k, (∀ y0 y1 y2 y3, LeO (laws_sameDisks.l0 k y0 y1 y2 y3) (laws_sameDisks.l0 (k + 1) y0 y1 y2 y3))
 | 0 => fun _ _ _ _ r h => by simp [laws_sameDisks.l0] at h
 | k + 1 => by
  have ih0 := laws_sameDisks.mono_l k
  ·intro y0 y1 y2 y3
   unfold laws_sameDisks.l0
   repeat' first
   | (with_reducible first | apply ih0 | exact LeO.refl _ | exact LeO.none _ | refine LeO.ite ?_ ?_ | refine LeO.bind ?_ (fun _ => ?_))
theorem laws_sameDisks.mono : ∀ a0 a1 k, LeO (laws_sameDisks.f k a0 a1) (laws_sameDisks.f (k + 1) a0 a1) := by
 intro a0 a1 k
 have ih0 := laws_sameDisks.mono_l k
 unfold laws_sameDisks.f
 repeat' first
   | (with_reducible first | apply ih0 | exact LeO.refl _ | exact LeO.none _ | refine LeO.ite ?_ ?_ | refine LeO.bind ?_ (fun _ => ?_))
set_option maxHeartbeats 8000000 in
set_option maxRecDepth 100000 in
theorem laws_sameDisks.calls (k : Nat) (A0_0 : Option Addr) (c0_0 : Nat) (l0_0 : List (S56)) (A1_0 : Option Addr) (c1_0 : Nat) (l1_0 : List (S56)) (r : Bool) (w : World) (hr0_0 : Kd.C k56 w A0_0 l0_0.length l0_0) (hc0_0 : l0_0.length ≤ c0_0) (hr1_0 : Kd.C k56 w A1_0 l1_0.length l1_0) (hc1_0 : l1_0.length ≤ c1_0) (h : laws_sameDisks.f k l0_0 l1_0 = some r) :
  Calls Try.prog 27 #[.agg #[.slice A0_0 l0_0.length c0_0], .agg #[.slice A1_0 l1_0.length c1_0]] w fun e w' => e = .returned (.bool r) ∧ Below w.heap.size w w' := by
 have hu31 := Try.underlying31
 have hu56 := Try.underlying56
 have zA := Aside0.mk hr0_0
 have xB := Aside0.mk hc0_0
 clear hr0_0 hc0_0
 have aB := Aside0.mk hr1_0
 have yB := Aside0.mk hc1_0
 clear hr1_0 hc1_0
 have HB := Aside0.mk (Below.refl w.heap.size w)
 have H : (if (l0_0.length : Int) = (l1_0.length : Int) then (laws_sameDisks.l0 k (l0_0.length : Int) 0 l0_0 l1_0) else (some false)) = some r := h
 clear h
 replace H := ite_ H
 obtain ⟨c3, H⟩ | ⟨c3, H⟩ := H
 rotate_left
 ·have fB : ((l0_0.length : Int) == (l1_0.length : Int)) = false := beq_eq_false_iff_ne.mpr c3
  have gB : ((l0_0.length : Int) != (l1_0.length : Int)) = true := bne_iff_ne.mpr c3
  have hB : (l0_0.length == l1_0.length) = false := by first | simpa using c3 | (simp at c3 ⊢; omega)
  obtain rfl := Option.some.inj H
  go_enter Try.func27, Try.ntmps27
  go_wp2_with (first | ((with_reducible refine gate_dst (N := 2) rfl ?_); refine bq_ (N := 2) #[.slice A0_0 l0_0.length c0_0] 31 ?_; intro lA hg zB aA hb; have eA := ge_ hg; replace HB := nb_ hb; clear hb hg) | ((with_reducible refine gate_dst (N := 3) rfl ?_); refine bq_ (N := 3) #[.slice A1_0 l1_0.length c1_0] 31 ?_; intro mA hg aC fA hb; have gA := ge1_ hg eA; replace HB := nc_ eA hb; have bA := nl_ aA hg; have cA := ng_ aA hg; replace aA := bK_ aA hb; clear hb hg; have bB := bA.out; have cB := cA.out; obtain ⟨vA, wA⟩ := cf1_ aA.out; obtain ⟨xA, yA⟩ := cf1_ fA.out))
  repeat (go_quiet (first | ((with_reducible refine gate_dst (N := 2) rfl ?_); refine bq_ (N := 2) #[.slice A0_0 l0_0.length c0_0] 31 ?_; intro lA hg zB aA hb; have eA := ge_ hg; replace HB := nb_ hb; clear hb hg) | ((with_reducible refine gate_dst (N := 3) rfl ?_); refine bq_ (N := 3) #[.slice A1_0 l1_0.length c1_0] 31 ?_; intro mA hg aC fA hb; have gA := ge1_ hg eA; replace HB := nc_ eA hb; have bA := nl_ aA hg; have cA := ng_ aA hg; replace aA := bK_ aA hb; clear hb hg; have bB := bA.out; have cB := cA.out; obtain ⟨vA, wA⟩ := cf1_ aA.out; obtain ⟨xA, yA⟩ := cf1_ fA.out)); try go_wp2_with (first | ((with_reducible refine gate_dst (N := 2) rfl ?_); refine bq_ (N := 2) #[.slice A0_0 l0_0.length c0_0] 31 ?_; intro lA hg zB aA hb; have eA := ge_ hg; replace HB := nb_ hb; clear hb hg) | ((with_reducible refine gate_dst (N := 3) rfl ?_); refine bq_ (N := 3) #[.slice A1_0 l1_0.length c1_0] 31 ?_; intro mA hg aC fA hb; have gA := ge1_ hg eA; replace HB := nc_ eA hb; have bA := nl_ aA hg; have cA := ng_ aA hg; replace aA := bK_ aA hb; clear hb hg; have bB := bA.out; have cB := cA.out; obtain ⟨vA, wA⟩ := cf1_ aA.out; obtain ⟨xA, yA⟩ := cf1_ fA.out)))
  go_ret
  exact ⟨er_, hs2_ eA.out gA.out⟩
 have fB : ((l0_0.length : Int) == (l1_0.length : Int)) = true := beq_iff_eq.mpr c3
 have gB : ((l0_0.length : Int) != (l1_0.length : Int)) = false := bne_eq_false_iff_eq.mpr c3
 have hB : (l0_0.length == l1_0.length) = true := by first | simpa using c3 | (simp at c3 ⊢; omega)
 clear c3
 have H' := Aside0.mk H
 clear H
 go_enter Try.func27, Try.ntmps27
 go_wp2_with (first | ((with_reducible refine gate_dst (N := 2) rfl ?_); refine bq_ (N := 2) #[.slice A0_0 l0_0.length c0_0] 31 ?_; intro lA hg w4 aA hb; have eA := ge_ hg; replace HB := nb_ hb; clear hb hg) | ((with_reducible refine gate_dst (N := 3) rfl ?_); refine bq_ (N := 3) #[.slice A1_0 l1_0.length c1_0] 31 ?_; intro mA hg w5 fA hb; have gA := ge1_ hg eA; replace HB := nc_ eA hb; have bA := nl_ aA hg; have cA := ng_ aA hg; replace aA := bK_ aA hb; clear hb hg; have iB := bA.out; have jB := cA.out; obtain ⟨nA, oA⟩ := cf1_ aA.out; obtain ⟨pA, qA⟩ := cf1_ fA.out))
 repeat (go_quiet (first | ((with_reducible refine gate_dst (N := 2) rfl ?_); refine bq_ (N := 2) #[.slice A0_0 l0_0.length c0_0] 31 ?_; intro lA hg w4 aA hb; have eA := ge_ hg; replace HB := nb_ hb; clear hb hg) | ((with_reducible refine gate_dst (N := 3) rfl ?_); refine bq_ (N := 3) #[.slice A1_0 l1_0.length c1_0] 31 ?_; intro mA hg w5 fA hb; have gA := ge1_ hg eA; replace HB := nc_ eA hb; have bA := nl_ aA hg; have cA := ng_ aA hg; replace aA := bK_ aA hb; clear hb hg; have iB := bA.out; have jB := cA.out; obtain ⟨nA, oA⟩ := cf1_ aA.out; obtain ⟨pA, qA⟩ := cf1_ fA.out)); try go_wp2_with (first | ((with_reducible refine gate_dst (N := 2) rfl ?_); refine bq_ (N := 2) #[.slice A0_0 l0_0.length c0_0] 31 ?_; intro lA hg w4 aA hb; have eA := ge_ hg; replace HB := nb_ hb; clear hb hg) | ((with_reducible refine gate_dst (N := 3) rfl ?_); refine bq_ (N := 3) #[.slice A1_0 l1_0.length c1_0] 31 ?_; intro mA hg w5 fA hb; have gA := ge1_ hg eA; replace HB := nc_ eA hb; have bA := nl_ aA hg; have cA := ng_ aA hg; replace aA := bK_ aA hb; clear hb hg; have iB := bA.out; have jB := cA.out; obtain ⟨nA, oA⟩ := cf1_ aA.out; obtain ⟨pA, qA⟩ := cf1_ fA.out)))
 go_loopg [16] k (fun kq mC w' => ∃ (dA : Int), mC = .int .i64 dA ∧ Aside0 (laws_sameDisks.l0 kq (l0_0.length : Int) dA l0_0 l1_0 = some r) ∧ Aside0 (kq ≤ k) ∧ Aside0 (w'.heap[lA]? = some (.cells #[(.slice A0_0 l0_0.length c0_0)] 31 (0, 0))) ∧ Aside0 (w'.heap[mA]? = some (.cells #[(.slice A1_0 l1_0.length c1_0)] 31 (0, 0))) ∧ Aside0 (Below w.heap.size w w'))
 case atStart => exact ⟨(0), sr_, H', ⟨Nat.le_refl _⟩, ⟨kb_ aA.out⟩, ⟨kb_ fA.out⟩, ⟨hs2_ eA.out gA.out⟩⟩
 case round =>
  clear H'
  try clear c3
  try clear fB
  try clear gB
  try clear hB
  try clear nA
  try clear pA
  try clear oA
  try clear qA
  obtain ⟨dA, rfl, HA, bC, aA, fA, HB⟩ := hrel
  cases gk with
  | zero => exact absurd HA.out (by simp [laws_sameDisks.l0])
  | succ k1 =>
   have H := HA.out
   clear HA
   simp only [laws_sameDisks.l0] at H
   replace H := ite_ H
   obtain ⟨c9, H⟩ | ⟨c9, H⟩ := H
   rotate_left
   ·have wB := decide_eq_false c9
    clear c9
    obtain rfl := Option.some.inj H
    go_wp2
    repeat (go_quiet (fail); try go_wp2)
    go_ret
    exact ⟨er_, hs2_ eA.out gA.out⟩
   have wB := decide_eq_true c9
   clear c9
   replace H := ifs_ H
   obtain ⟨cC, H⟩ := H
   have dC := decide_eq_true cC
   clear cC
   replace H := ifs_ H
   obtain ⟨eC, H⟩ := H
   have fC := decide_eq_true eC
   clear eC
   replace H := ifs_ H
   obtain ⟨gC, H⟩ := H
   have hC := decide_eq_true gC
   clear gC
   replace H := ite_ H
   obtain ⟨kB, H⟩ | ⟨kB, H⟩ := H
   ·have lB : (!((((rd_T56 l0_0 dA).f0).toList) == (((rd_T56 l1_0 dA).f0).toList)) || (!(((rd_T56 l0_0 dA).f1) == ((rd_T56 l1_0 dA).f1)))) = true := kB
    clear kB
    obtain rfl := Option.some.inj H
    have iC := bA.out
    have jC := cA.out
    obtain ⟨oB, pB⟩ := cf1_ aA.out
    have rA : 0 ≤ (dA : Int) := oa_
    have sA : dA < (l0_0.length : Int) := oa_
    obtain ⟨mB, dB, hA, iA⟩ := at_T56 zA.out dA rA sA
    cases dB
    replace hA := pc_ HB.out hA
    replace iA := pc_ HB.out iA
    replace rA := eq_true rA
    replace sA := eq_true sA
    obtain ⟨qB, rB⟩ := cf1_ fA.out
    have tA : 0 ≤ (dA : Int) := oa_
    have uA : dA < (l1_0.length : Int) := oa_
    obtain ⟨nB, eB, jA, kA⟩ := at_T56 aB.out dA tA uA
    cases eB
    replace jA := pc_ HB.out jA
    replace kA := pc_ HB.out kA
    replace tA := eq_true tA
    replace uA := eq_true uA
    go_wp2
    repeat (go_quiet (fail); try go_wp2)
    go_ret
    exact ⟨er_, hs2_ eA.out gA.out⟩
   have lB : (!((((rd_T56 l0_0 dA).f0).toList) == (((rd_T56 l1_0 dA).f0).toList)) || (!(((rd_T56 l0_0 dA).f1) == ((rd_T56 l1_0 dA).f1)))) = false := by simpa using kB
   clear kB
   have H' := Aside0.mk H
   clear H
   have kC := bA.out
   have lC := cA.out
   obtain ⟨sB, tB⟩ := cf1_ aA.out
   have rA : 0 ≤ (dA : Int) := oa_
   have sA : dA < (l0_0.length : Int) := oa_
   obtain ⟨mB, dB, hA, iA⟩ := at_T56 zA.out dA rA sA
   cases dB
   replace hA := pc_ HB.out hA
   replace iA := pc_ HB.out iA
   replace rA := eq_true rA
   replace sA := eq_true sA
   obtain ⟨uB, vB⟩ := cf1_ fA.out
   have tA : 0 ≤ (dA : Int) := oa_
   have uA : dA < (l1_0.length : Int) := oa_
   obtain ⟨nB, eB, jA, kA⟩ := at_T56 aB.out dA tA uA
   cases eB
   replace jA := pc_ HB.out jA
   replace kA := pc_ HB.out kA
   replace tA := eq_true tA
   replace uA := eq_true uA
   go_wp2
   repeat (go_quiet (fail); try go_wp2)
   go_roundg k1
   case measure => have := bC.out; omega
   case rel => exact ⟨(wrap64 (dA + 1)), sr_, H', ⟨by have := bC.out; omega⟩, ⟨kb_ aA.out⟩, ⟨kb_ fA.out⟩, ⟨hs2_ eA.out gA.out⟩⟩

/-! ### impl_SyncFile: function 28 -/
def impl_SyncFile.f (l0_0 : List (S56)) (a1 : Int) : Option ((List (S56)) × Bool) := (impl_Disk_has.f l0_0 a1).bind fun t438 => (if t438 = true then (if 0 ≤ a1 then (if a1 < (l0_0.length : Int) then ((impl_Disk_with.f l0_0 a1 ((rd_T56 l0_0 a1).f0) (((rd_T56 l0_0 a1).f0).size : Int)).bind fun t441 => (some (t441, true))) else (none)) else (none)) else (some (([] : List (S56)), false)))
set_option maxHeartbeats 8000000 in
set_option maxRecDepth 100000 in
theorem impl_SyncFile.calls (A0_0 : Option Addr) (c0_0 : Nat) (l0_0 : List (S56)) (a1 : Int) (r1 : List (S56)) (r2 : Bool) (w : World) (hr0_0 : Kd.C k56 w A0_0 l0_0.length l0_0) (hc0_0 : l0_0.length ≤ c0_0) (h : impl_SyncFile.f l0_0 a1 = some (r1, r2)) :
  Calls Try.prog 28 #[.agg #[.slice A0_0 l0_0.length c0_0], .int .i64 a1] w fun e w' => ∃ v0_ : Value, e = .returned (.tuple #[.agg #[v0_], .bool r2]) ∧ Kd.R k56 56 w' w.heap.size (fun _ => True) v0_ r1 ∧ Below w.heap.size w w' := by
 have hu31 := Try.underlying31
 have hu56 := Try.underlying56
 have jA := Aside0.mk hr0_0
 have qA := Aside0.mk hc0_0
 clear hr0_0 hc0_0
 have HB := Aside0.mk (Below.refl w.heap.size w)
 have H : ((impl_Disk_has.f l0_0 a1).bind fun yA => (if yA = true then (if 0 ≤ a1 then (if a1 < (l0_0.length : Int) then ((impl_Disk_with.f l0_0 a1 ((rd_T56 l0_0 a1).f0) (((rd_T56 l0_0 a1).f0).size : Int)).bind fun rA => (some (rA, true))) else (none)) else (none)) else (some (([] : List (S56)), false)))) = some (r1, r2) := h
 clear h
 replace H := bnd_ H
 obtain ⟨yA, A3, H⟩ := H
 replace H := ifb_ H
 obtain ⟨rfl, H⟩ | ⟨rfl, H⟩ := H
 rotate_left
 ·simp only [Option.some.injEq, Prod.mk.injEq] at H
  obtain ⟨rfl, rfl⟩ := H
  go_enter Try.func28, Try.ntmps28
  go_wp2_with (first | ((with_reducible refine gate_dst (N := 2) rfl ?_); refine bq_ (N := 2) #[.slice A0_0 l0_0.length c0_0] 31 ?_; intro sA hg fC aA hb; have cA := ge_ hg; replace HB := nb_ hb; clear hb hg) | ((with_reducible refine gate_dst (N := 4) rfl ?_); refine bq_ (N := 4) #[.slice none 0 0] 31 ?_; intro iA hg gC bA hb; have dA := ge1_ hg cA; replace HB := nc_ cA hb; have eA := nl_ aA hg; have fA := ng_ aA hg; replace aA := bK_ aA hb; clear hb hg; have tB := eA.out; have uB := fA.out; obtain ⟨bB, cB⟩ := cf1_ aA.out) | ((with_reducible refine gate_callee (f := 52) rfl ?_); refine gl_ 9 Try.func52 #[.agg #[.slice A0_0 l0_0.length c0_0], .int .i64 a1] rfl ma_ ?_; (with_reducible refine (impl_Disk_has.calls _ _ l0_0 a1 false _ ?side1 ?side2 A3.out).mono ?_); (case side1 => exact cs_ ((Kd.C_below jA.out HB.out))); (case side2 => exact qA.out); rintro e hC ⟨rfl, hb⟩; refine ⟨_, rfl, ?_⟩; replace aA := bK_ aA hb; replace bA := bK_ bA hb; replace HB := nc2_ cA dA hb; (try clear hb); (try clear hb2); (try clear hk); (try clear hi); obtain ⟨dB, eB⟩ := cf1_ bA.out))
  refine bodyPost_ret (results_ct rfl _ _ iA 31 #[.slice none 0 0] (0, 0) _ rfl (up_ bA) Try.underlying31 rfl (by kernel_rfl)) rfl ?_
  exact ⟨_, er_, ni_, hs2_ cA.out dA.out⟩
 replace H := ifs_ H
 obtain ⟨c5, H⟩ := H
 have cC := decide_eq_true c5
 clear c5
 replace H := ifs_ H
 obtain ⟨c6, H⟩ := H
 have dC := decide_eq_true c6
 clear c6
 replace H := bnd_ H
 obtain ⟨rA, A7, H⟩ := H
 simp only [Option.some.injEq, Prod.mk.injEq] at H
 obtain ⟨rfl, rfl⟩ := H
 go_enter Try.func28, Try.ntmps28
 go_wp2_with (first | ((with_reducible refine gate_dst (N := 2) rfl ?_); refine bq_ (N := 2) #[.slice A0_0 l0_0.length c0_0] 31 ?_; intro sA hg w8 aA hb; have cA := ge_ hg; replace HB := nb_ hb; clear hb hg) | ((with_reducible refine gate_dst (N := 4) rfl ?_); refine bq_ (N := 4) #[.slice none 0 0] 31 ?_; intro iA hg w9 bA hb; have dA := ge1_ hg cA; replace HB := nc_ cA hb; have eA := nl_ aA hg; have fA := ng_ aA hg; replace aA := bK_ aA hb; clear hb hg; have vB := eA.out; have wB := fA.out; obtain ⟨fB, gB⟩ := cf1_ aA.out) | ((with_reducible refine gate_callee (f := 52) rfl ?_); refine gl_ 9 Try.func52 #[.agg #[.slice A0_0 l0_0.length c0_0], .int .i64 a1] rfl ma_ ?_; (with_reducible refine (impl_Disk_has.calls _ _ l0_0 a1 true _ ?side1 ?side2 A3.out).mono ?_); (case side1 => exact cs_ ((Kd.C_below jA.out HB.out))); (case side2 => exact qA.out); rintro e iC ⟨rfl, hb⟩; refine ⟨_, rfl, ?_⟩; replace aA := bK_ aA hb; replace bA := bK_ bA hb; replace HB := nc2_ cA dA hb; (try clear hb); (try clear hb2); (try clear hk); (try clear hi); obtain ⟨hB, iB⟩ := cf1_ aA.out; have wA : 0 ≤ (a1 : Int) := oa_; have xA : a1 < (l0_0.length : Int) := oa_; obtain ⟨tA, rB, kA, lA⟩ := at_T56 jA.out a1 wA xA; cases rB; replace kA := pc_ HB.out kA; replace lA := pc_ HB.out lA; replace wA := eq_true wA; replace xA := eq_true xA) | ((with_reducible refine gate_dst (N := 6) rfl ?_); refine box_event ?hg (N := 6) ?hd (cs := #[.string (⟨#[]⟩ : ByteArray), .int .i64 0]) (t := 56) ?hr ?_; (case hd => rfl); (case hg => rfl); (case hr => first | (go_simp; done) | (go_simp; rfl)); intro uA hg jC hbox hb; have mA := Aside0.mk (hbox); have nA := ge2_ hg cA dA; replace HB := nc2_ cA dA hb; have gA := nl_ aA hg; have oA := ng_ aA hg; replace aA := bK_ aA hb; have hA := nl_ bA hg; have pA := ng_ bA hg; replace bA := bK_ bA hb; clear hb hbox hg; have xB := oA.out; have yB := gA.out; have zB := pA.out; have aC := hA.out; obtain ⟨jB, kB, lB, mB⟩ := cf2_ mA.out; obtain ⟨nB, oB⟩ := cf1_ aA.out) | ((with_reducible refine gate_callee (f := 66) rfl ?_); refine gl_ 24 Try.func66 #[.agg #[.slice (some tA) l0_0.length c0_0], .int .i64 a1, .agg #[.string ((rd_T56 l0_0 a1).f0), .int .i64 (((rd_T56 l0_0 a1).f0).size : Int)]] rfl ma_ ?_; (with_reducible refine (impl_Disk_with.calls _ _ l0_0 a1 ((rd_T56 l0_0 a1).f0) (((rd_T56 l0_0 a1).f0).size : Int) rA _ ?side1 ?side2 A7.out).mono ?_); (case side1 => exact Kd.C_below jA.out (hs3_ cA.out dA.out nA.out)); (case side2 => exact qA.out); rintro e kC ⟨eC, rfl, bC, hb⟩; refine ⟨_, rfl, ?_⟩; have vA := Aside0.mk (Kd.R_lower (Kd.R_newB bC (g := uA) (o := .cells #[.string ((rd_T56 l0_0 a1).f0), .int .i64 (((rd_T56 l0_0 a1).f0).size : Int)] 56 (0, 0)) (up_ mA)) (below_size (hs3_ cA.out dA.out nA.out))); replace aA := Aside0.mk (blk_below (g := sA) (o := .cells #[.slice (some tA) l0_0.length c0_0] 31 (0, 0)) (uf_ aA gA.out) hb); replace bA := Aside0.mk (blk_below (g := iA) (o := .cells #[.slice none 0 0] 31 (0, 0)) (uf_ bA hA.out) hb); replace mA := Aside0.mk (blk_below (g := uA) (o := .cells #[.string ((rd_T56 l0_0 a1).f0), .int .i64 (((rd_T56 l0_0 a1).f0).size : Int)] 56 (0, 0)) (up_ mA) hb); replace HB := nc3_ cA dA nA hb; (try clear hb); (try clear hb2); (try clear hk); (try clear hi); (try clear bC); obtain ⟨zA, aB, sB⟩ := Kd.R_slice vA.out; subst sB; obtain ⟨pB, qB⟩ := cf1_ bA.out))
 refine bodyPost_ret (results_ct rfl _ _ iA 31 #[.slice zA rA.length aB] (0, 0) _ rfl (up_ bA) Try.underlying31 rfl (by kernel_rfl)) rfl ?_
 exact ⟨_, er_, rF_ (Kd.R_mono (Kd.R_far (p := ⟨iA, 0, none⟩) (Kd.R_types vA.out bA.out (by decide)) (fun _ hk => hk.2) (.slice zA rA.length aB)) (fun _ hk => trivial)), hs3_ cA.out dA.out nA.out⟩

/-! ### laws_sameTexts: function 73 -/
def laws_sameTexts.l0 : Nat → List ByteArray → List ByteArray → Int → Int → Option (Bool)
 | 0, _, _, _, _ => none
 | k + 1, x0, x1, x12, x13 => if x13 < x12 then (if 0 ≤ x13 then (if x13 < (x0.length : Int) then (if x13 < (x1.length : Int) then (if (rdOf ByteArray.empty x0 x13).toList = (rdOf ByteArray.empty x1 x13).toList then (laws_sameTexts.l0 k x0 x1 x12 (wrap64 (x13 + 1))) else (some false)) else (none)) else (none)) else (none)) else (some true)
def laws_sameTexts.f (k : Nat) (l0 : List ByteArray) (l1 : List ByteArray) : Option (Bool) := if (l0.length : Int) = (l1.length : Int) then (laws_sameTexts.l0 k l0 l1 (l0.length : Int) 0) else (some false)
theorem laws_sameTexts.mono_l : ∀ k, (∀ y0 y1 y2 y3, LeO (laws_sameTexts.l0 k y0 y1 y2 y3) (laws_sameTexts.l0 (k + 1) y0 y1 y2 y3))
 | 0 => fun _ _ _ _ r h => by simp [laws_sameTexts.l0] at h
 | k + 1 => by
  have ih0 := laws_sameTexts.mono_l k
  ·intro y0 y1 y2 y3
   unfold laws_sameTexts.l0
   repeat' first
   | (with_reducible first | apply ih0 | exact LeO.refl _ | exact LeO.none _ | refine LeO.ite ?_ ?_ | refine LeO.bind ?_ (fun _ => ?_))
theorem laws_sameTexts.mono : ∀ a0 a1 k, LeO (laws_sameTexts.f k a0 a1) (laws_sameTexts.f (k + 1) a0 a1) := by
 intro a0 a1 k
 have ih0 := laws_sameTexts.mono_l k
 unfold laws_sameTexts.f
 repeat' first
   | (with_reducible first | apply ih0 | exact LeO.refl _ | exact LeO.none _ | refine LeO.ite ?_ ?_ | refine LeO.bind ?_ (fun _ => ?_))
set_option maxHeartbeats 8000000 in
set_option maxRecDepth 100000 in
theorem laws_sameTexts.calls (k : Nat) (A0 : Option Addr) (c0 : Nat) (l0 : List ByteArray) (A1 : Option Addr) (c1 : Nat) (l1 : List ByteArray) (r : Bool) (w : World) (hr0 : Kd.C Kd.string w A0 l0.length l0) (hc0 : l0.length ≤ c0) (hr1 : Kd.C Kd.string w A1 l1.length l1) (hc1 : l1.length ≤ c1) (h : laws_sameTexts.f k l0 l1 = some r) :
  Calls Try.prog 73 #[.slice A0 l0.length c0, .slice A1 l1.length c1] w fun e w' => e = .returned (.bool r) ∧ Drawn0 w w' := by
 have rA := Aside0.mk hr0
 have yA := Aside0.mk hc0
 clear hr0 hc0
 have sA := Aside0.mk hr1
 have zA := Aside0.mk hc1
 clear hr1 hc1
 have H : (if (l0.length : Int) = (l1.length : Int) then (laws_sameTexts.l0 k l0 l1 (l0.length : Int) 0) else (some false)) = some r := h
 clear h
 replace H := ite_ H
 obtain ⟨c3, H⟩ | ⟨c3, H⟩ := H
 rotate_left
 ·have jA : ((l0.length : Int) == (l1.length : Int)) = false := beq_eq_false_iff_ne.mpr c3
  have kA : ((l0.length : Int) != (l1.length : Int)) = true := bne_iff_ne.mpr c3
  have lA : (l0.length == l1.length) = false := by first | simpa using c3 | (simp at c3 ⊢; omega)
  obtain rfl := Option.some.inj H
  go_enter Try.func73, Try.ntmps73
  go_wp2
  repeat (go_quiet (fail); try go_wp2)
  go_ret
  exact ⟨by first | rfl | (simp; done) | (simp [*]; done), dr_⟩
 have jA : ((l0.length : Int) == (l1.length : Int)) = true := beq_iff_eq.mpr c3
 have kA : ((l0.length : Int) != (l1.length : Int)) = false := bne_eq_false_iff_eq.mpr c3
 have lA : (l0.length == l1.length) = true := by first | simpa using c3 | (simp at c3 ⊢; omega)
 clear c3
 have H' := Aside0.mk H
 clear H
 go_enter Try.func73, Try.ntmps73
 go_wp2
 repeat (go_quiet (fail); try go_wp2)
 go_loopg [13] k (fun kq uA w' => ∃ (aA : Int), uA = .int .i64 aA ∧ Aside0 (laws_sameTexts.l0 kq l0 l1 (l0.length : Int) aA = some r) ∧ Aside0 (kq ≤ k) ∧ Drawn0 w w')
 case atStart => exact ⟨(0), sr_, H', ⟨Nat.le_refl _⟩, dr_⟩
 case round =>
  clear H'
  try clear c1
  try clear c3
  try clear jA
  try clear kA
  try clear lA
  obtain ⟨aA, rfl, HA, tA, ⟨m1, rfl⟩⟩ := hrel
  cases gk with
  | zero => exact absurd HA.out (by simp [laws_sameTexts.l0])
  | succ k1 =>
   have H := HA.out
   clear HA
   simp only [laws_sameTexts.l0] at H
   replace H := ite_ H
   obtain ⟨c4, H⟩ | ⟨c4, H⟩ := H
   rotate_left
   ·have oA := decide_eq_false c4
    clear c4
    obtain rfl := Option.some.inj H
    go_wp2
    repeat (go_quiet (fail); try go_wp2)
    go_ret
    exact ⟨by first | rfl | (simp; done) | (simp [*]; done), dr_⟩
   have oA := decide_eq_true c4
   clear c4
   replace H := ifs_ H
   obtain ⟨c5, H⟩ := H
   have vA := decide_eq_true c5
   clear c5
   replace H := ifs_ H
   obtain ⟨c6, H⟩ := H
   have wA := decide_eq_true c6
   clear c6
   replace H := ifs_ H
   obtain ⟨c7, H⟩ := H
   have xA := decide_eq_true c7
   clear c7
   replace H := ite_ H
   obtain ⟨c8, H⟩ | ⟨c8, H⟩ := H
   rotate_left
   ·have pA : ((rdOf ByteArray.empty l0 aA).toList == (rdOf ByteArray.empty l1 aA).toList) = false := beq_eq_false_iff_ne.mpr c8
    have qA : ((rdOf ByteArray.empty l0 aA).toList != (rdOf ByteArray.empty l1 aA).toList) = true := bne_iff_ne.mpr c8
    obtain rfl := Option.some.inj H
    have bA : 0 ≤ (aA : Int) := oa_
    have cA : aA < (l0.length : Int) := oa_
    obtain ⟨mA, hA, fA⟩ := Kd.at_string rA.out aA bA cA
    cases hA
    replace bA := eq_true bA
    replace cA := eq_true cA
    have dA : 0 ≤ (aA : Int) := oa_
    have eA : aA < (l1.length : Int) := oa_
    obtain ⟨nA, iA, gA⟩ := Kd.at_string sA.out aA dA eA
    cases iA
    replace dA := eq_true dA
    replace eA := eq_true eA
    go_wp2
    repeat (go_quiet (fail); try go_wp2)
    go_ret
    exact ⟨by first | rfl | (simp; done) | (simp [*]; done), dr_⟩
   have pA : ((rdOf ByteArray.empty l0 aA).toList == (rdOf ByteArray.empty l1 aA).toList) = true := beq_iff_eq.mpr c8
   have qA : ((rdOf ByteArray.empty l0 aA).toList != (rdOf ByteArray.empty l1 aA).toList) = false := bne_eq_false_iff_eq.mpr c8
   clear c8
   have H' := Aside0.mk H
   clear H
   have bA : 0 ≤ (aA : Int) := oa_
   have cA : aA < (l0.length : Int) := oa_
   obtain ⟨mA, hA, fA⟩ := Kd.at_string rA.out aA bA cA
   cases hA
   replace bA := eq_true bA
   replace cA := eq_true cA
   have dA : 0 ≤ (aA : Int) := oa_
   have eA : aA < (l1.length : Int) := oa_
   obtain ⟨nA, iA, gA⟩ := Kd.at_string sA.out aA dA eA
   cases iA
   replace dA := eq_true dA
   replace eA := eq_true eA
   go_wp2
   repeat (go_quiet (fail); try go_wp2)
   go_roundg k1
   case measure => have := tA.out; omega
   case rel => exact ⟨(wrap64 (aA + 1)), sr_, H', ⟨by have := tA.out; omega⟩, dr_⟩

/-! ### laws_sameBatch: function 29 -/
def laws_sameBatch.f (k : Nat) (a0_0 : Int) (a0_1 : Int) (a0_2 : Int) (a0_3 : Int) (l0_4 : List ByteArray) (a1_0 : Int) (a1_1 : Int) (a1_2 : Int) (a1_3 : Int) (l1_4 : List ByteArray) : Option (Bool) := if a0_0 = a1_0 then (if a0_1 = a1_1 then (if a0_2 = a1_2 then (if a0_3 = a1_3 then ((laws_sameTexts.f k l0_4 l1_4).bind fun t448 => (some t448)) else (some false)) else (some false)) else (some false)) else (some false)
theorem laws_sameBatch.mono : ∀ a0 a1 a2 a3 a4 a5 a6 a7 a8 a9 k, LeO (laws_sameBatch.f k a0 a1 a2 a3 a4 a5 a6 a7 a8 a9) (laws_sameBatch.f (k + 1) a0 a1 a2 a3 a4 a5 a6 a7 a8 a9) := by
 intro a0 a1 a2 a3 a4 a5 a6 a7 a8 a9 k
 unfold laws_sameBatch.f
 repeat' first
   | (with_reducible first | apply laws_sameTexts.mono | exact LeO.refl _ | exact LeO.none _ | refine LeO.ite ?_ ?_ | refine LeO.bind ?_ (fun _ => ?_))
set_option maxHeartbeats 8000000 in
set_option maxRecDepth 100000 in
theorem laws_sameBatch.calls (k : Nat) (a0_0 : Int) (a0_1 : Int) (a0_2 : Int) (a0_3 : Int) (A0_4 : Option Addr) (c0_4 : Nat) (l0_4 : List ByteArray) (a1_0 : Int) (a1_1 : Int) (a1_2 : Int) (a1_3 : Int) (A1_4 : Option Addr) (c1_4 : Nat) (l1_4 : List ByteArray) (r : Bool) (w : World) (hr0_4 : Kd.C Kd.string w A0_4 l0_4.length l0_4) (hc0_4 : l0_4.length ≤ c0_4) (hr1_4 : Kd.C Kd.string w A1_4 l1_4.length l1_4) (hc1_4 : l1_4.length ≤ c1_4) (h : laws_sameBatch.f k a0_0 a0_1 a0_2 a0_3 l0_4 a1_0 a1_1 a1_2 a1_3 l1_4 = some r) :
  Calls Try.prog 29 #[.agg #[.int .i64 a0_0, .int .i64 a0_1, .int .i64 a0_2, .int .i64 a0_3, .slice A0_4 l0_4.length c0_4], .agg #[.int .i64 a1_0, .int .i64 a1_1, .int .i64 a1_2, .int .i64 a1_3, .slice A1_4 l1_4.length c1_4]] w fun e w' => e = .returned (.bool r) ∧ Below w.heap.size w w' := by
 have hu44 := Try.underlying44
 have jA := Aside0.mk hr0_4
 have kA := Aside0.mk hc0_4
 clear hr0_4 hc0_4
 have lA := Aside0.mk hr1_4
 have mA := Aside0.mk hc1_4
 clear hr1_4 hc1_4
 have HB := Aside0.mk (Below.refl w.heap.size w)
 have H : (if a0_0 = a1_0 then (if a0_1 = a1_1 then (if a0_2 = a1_2 then (if a0_3 = a1_3 then ((laws_sameTexts.f k l0_4 l1_4).bind fun iA => (some iA)) else (some false)) else (some false)) else (some false)) else (some false)) = some r := h
 clear h
 replace H := ite_ H
 obtain ⟨c3, H⟩ | ⟨c3, H⟩ := H
 rotate_left
 ·have jE : (a0_0 == a1_0) = false := beq_eq_false_iff_ne.mpr c3
  have kE : (a0_0 != a1_0) = true := bne_iff_ne.mpr c3
  obtain rfl := Option.some.inj H
  go_enter Try.func29, Try.ntmps29
  go_wp2_with (first | ((with_reducible refine gate_dst (N := 2) rfl ?_); refine bq_ (N := 2) #[.int .i64 a0_0, .int .i64 a0_1, .int .i64 a0_2, .int .i64 a0_3, .slice A0_4 l0_4.length c0_4] 44 ?_; intro gA hg bF aA hb; have dA := ge_ hg; replace HB := nb_ hb; clear hb hg) | ((with_reducible refine gate_dst (N := 3) rfl ?_); refine bq_ (N := 3) #[.int .i64 a1_0, .int .i64 a1_1, .int .i64 a1_2, .int .i64 a1_3, .slice A1_4 l1_4.length c1_4] 44 ?_; intro hA hg cF eA hb; have fA := ge1_ hg dA; replace HB := nc_ dA hb; have bA := nl_ aA hg; have cA := ng_ aA hg; replace aA := bK_ aA hb; clear hb hg; have rE := bA.out; have sE := cA.out; obtain ⟨nA, oA, pA, qA, rA, sA, tA, uA, vA, wA⟩ := cf5_ aA.out; obtain ⟨xA, yA, zA, aB, bB, cB, dB, eB, fB, gB⟩ := cf5_ eA.out))
  go_ret
  exact ⟨er_, hs2_ dA.out fA.out⟩
 have jE : (a0_0 == a1_0) = true := beq_iff_eq.mpr c3
 have kE : (a0_0 != a1_0) = false := bne_eq_false_iff_eq.mpr c3
 clear c3
 replace H := ite_ H
 obtain ⟨c4, H⟩ | ⟨c4, H⟩ := H
 rotate_left
 ·have lE : (a0_1 == a1_1) = false := beq_eq_false_iff_ne.mpr c4
  have mE : (a0_1 != a1_1) = true := bne_iff_ne.mpr c4
  obtain rfl := Option.some.inj H
  go_enter Try.func29, Try.ntmps29
  go_wp2_with (first | ((with_reducible refine gate_dst (N := 2) rfl ?_); refine bq_ (N := 2) #[.int .i64 a0_0, .int .i64 a0_1, .int .i64 a0_2, .int .i64 a0_3, .slice A0_4 l0_4.length c0_4] 44 ?_; intro gA hg dF aA hb; have dA := ge_ hg; replace HB := nb_ hb; clear hb hg) | ((with_reducible refine gate_dst (N := 3) rfl ?_); refine bq_ (N := 3) #[.int .i64 a1_0, .int .i64 a1_1, .int .i64 a1_2, .int .i64 a1_3, .slice A1_4 l1_4.length c1_4] 44 ?_; intro hA hg eF eA hb; have fA := ge1_ hg dA; replace HB := nc_ dA hb; have bA := nl_ aA hg; have cA := ng_ aA hg; replace aA := bK_ aA hb; clear hb hg; have tE := bA.out; have uE := cA.out; obtain ⟨hB, iB, jB, kB, lB, mB, nB, oB, pB, qB⟩ := cf5_ aA.out; obtain ⟨rB, sB, tB, uB, vB, wB, xB, yB, zB, aC⟩ := cf5_ eA.out))
  go_ret
  exact ⟨er_, hs2_ dA.out fA.out⟩
 have lE : (a0_1 == a1_1) = true := beq_iff_eq.mpr c4
 have mE : (a0_1 != a1_1) = false := bne_eq_false_iff_eq.mpr c4
 clear c4
 replace H := ite_ H
 obtain ⟨c5, H⟩ | ⟨c5, H⟩ := H
 rotate_left
 ·have nE : (a0_2 == a1_2) = false := beq_eq_false_iff_ne.mpr c5
  have oE : (a0_2 != a1_2) = true := bne_iff_ne.mpr c5
  obtain rfl := Option.some.inj H
  go_enter Try.func29, Try.ntmps29
  go_wp2_with (first | ((with_reducible refine gate_dst (N := 2) rfl ?_); refine bq_ (N := 2) #[.int .i64 a0_0, .int .i64 a0_1, .int .i64 a0_2, .int .i64 a0_3, .slice A0_4 l0_4.length c0_4] 44 ?_; intro gA hg fF aA hb; have dA := ge_ hg; replace HB := nb_ hb; clear hb hg) | ((with_reducible refine gate_dst (N := 3) rfl ?_); refine bq_ (N := 3) #[.int .i64 a1_0, .int .i64 a1_1, .int .i64 a1_2, .int .i64 a1_3, .slice A1_4 l1_4.length c1_4] 44 ?_; intro hA hg gF eA hb; have fA := ge1_ hg dA; replace HB := nc_ dA hb; have bA := nl_ aA hg; have cA := ng_ aA hg; replace aA := bK_ aA hb; clear hb hg; have vE := bA.out; have wE := cA.out; obtain ⟨bC, cC, dC, eC, fC, gC, hC, iC, jC, kC⟩ := cf5_ aA.out; obtain ⟨lC, mC, nC, oC, pC, qC, rC, sC, tC, uC⟩ := cf5_ eA.out))
  go_ret
  exact ⟨er_, hs2_ dA.out fA.out⟩
 have nE : (a0_2 == a1_2) = true := beq_iff_eq.mpr c5
 have oE : (a0_2 != a1_2) = false := bne_eq_false_iff_eq.mpr c5
 clear c5
 replace H := ite_ H
 obtain ⟨c6, H⟩ | ⟨c6, H⟩ := H
 rotate_left
 ·have pE : (a0_3 == a1_3) = false := beq_eq_false_iff_ne.mpr c6
  have qE : (a0_3 != a1_3) = true := bne_iff_ne.mpr c6
  obtain rfl := Option.some.inj H
  go_enter Try.func29, Try.ntmps29
  go_wp2_with (first | ((with_reducible refine gate_dst (N := 2) rfl ?_); refine bq_ (N := 2) #[.int .i64 a0_0, .int .i64 a0_1, .int .i64 a0_2, .int .i64 a0_3, .slice A0_4 l0_4.length c0_4] 44 ?_; intro gA hg hF aA hb; have dA := ge_ hg; replace HB := nb_ hb; clear hb hg) | ((with_reducible refine gate_dst (N := 3) rfl ?_); refine bq_ (N := 3) #[.int .i64 a1_0, .int .i64 a1_1, .int .i64 a1_2, .int .i64 a1_3, .slice A1_4 l1_4.length c1_4] 44 ?_; intro hA hg iF eA hb; have fA := ge1_ hg dA; replace HB := nc_ dA hb; have bA := nl_ aA hg; have cA := ng_ aA hg; replace aA := bK_ aA hb; clear hb hg; have xE := bA.out; have yE := cA.out; obtain ⟨vC, wC, xC, yC, zC, aD, bD, cD, dD, eD⟩ := cf5_ aA.out; obtain ⟨fD, gD, hD, iD, jD, kD, lD, mD, nD, oD⟩ := cf5_ eA.out))
  go_ret
  exact ⟨er_, hs2_ dA.out fA.out⟩
 have pE : (a0_3 == a1_3) = true := beq_iff_eq.mpr c6
 have qE : (a0_3 != a1_3) = false := bne_eq_false_iff_eq.mpr c6
 clear c6
 replace H := bnd_ H
 obtain ⟨iA, A7, H⟩ := H
 obtain rfl := Option.some.inj H
 go_enter Try.func29, Try.ntmps29
 go_wp2_with (first | ((with_reducible refine gate_dst (N := 2) rfl ?_); refine bq_ (N := 2) #[.int .i64 a0_0, .int .i64 a0_1, .int .i64 a0_2, .int .i64 a0_3, .slice A0_4 l0_4.length c0_4] 44 ?_; intro gA hg w8 aA hb; have dA := ge_ hg; replace HB := nb_ hb; clear hb hg) | ((with_reducible refine gate_dst (N := 3) rfl ?_); refine bq_ (N := 3) #[.int .i64 a1_0, .int .i64 a1_1, .int .i64 a1_2, .int .i64 a1_3, .slice A1_4 l1_4.length c1_4] 44 ?_; intro hA hg w9 eA hb; have fA := ge1_ hg dA; replace HB := nc_ dA hb; have bA := nl_ aA hg; have cA := ng_ aA hg; replace aA := bK_ aA hb; clear hb hg; have zE := bA.out; have aF := cA.out; obtain ⟨pD, qD, rD, sD, tD, uD, vD, wD, xD, yD⟩ := cf5_ aA.out; obtain ⟨zD, aE, bE, cE, dE, eE, fE, gE, hE, iE⟩ := cf5_ eA.out) | (go_at_call 73; (with_reducible refine (laws_sameTexts.calls k _ _ l0_4 _ _ l1_4 iA _ ?side1 ?side2 ?side3 ?side4 A7.out).mono ?_); (case side1 => exact cs_ ((Kd.C_below jA.out HB.out))); (case side2 => exact kA.out); (case side3 => exact cs_ ((Kd.C_below lA.out HB.out))); (case side4 => exact mA.out); rintro e w' ⟨rfl, ⟨nd, rfl⟩⟩))
 go_ret
 exact ⟨er_, hs2_ dA.out fA.out⟩
end Go.Proofs.Ytpdpipfkllfhmaa.QFnDisks
