/- For each Go function that one statement reaches: a plain function with the same answers, and the proof that the call comes to them. Conditions: those that each contract names. Written by a program of this repository. -/
import Derived.Test.YtjjhebkkpeapkaaVFnLogsa
import Derived.Test.YtjjhebkkpeapkaaQFnLogsx0
import Derived.Test.YtjjhebkkpeapkaaQFnLogsx2
import Derived.Test.YtjjhebkkpeapkaaQFnLogsx5
import Derived.Test.YtjjhebkkpeapkaaQFnLogsx7
import Derived.Test.YtjjhebkkpeapkaaQFnLogsx8
import Derived.Test.YtjjhebkkpeapkaaQFnLogsx11
import Derived.Test.YtjjhebkkpeapkaaQFnLogsx13
import Derived.Test.YtjjhebkkpeapkaaQFnLogsx14
import Derived.Test.YtjjhebkkpeapkaaQFnLogsx17
namespace Go.Proofs.Ytjjhebkkpeapkaa.QFnLogs
open Go.RowKit Go.Proofs.YtjjhebkkpeapkaaW.PrintWords Go.Proofs.YtjjhebkkpeapkaaW.PrintLast Go.Proofs.YtjjhebkkpeapkaaW.PrintMore
attribute [local go_sem] max2_int min2_int max_two min_two max_three min_three max_four min_four Go.Proofs.YtjjhebkkpeapkaaW.PrintMore2.isSome_setCell   -- for this text's walks alone
set_option linter.unusedVariables false
set_option linter.unusedSimpArgs false

/-! ### laws_FnLogs: function 4 -/
mutual
def laws_FnLogs.j0 : Nat → List Int → List (S25) → ByteArray → Bool → Bool → Option (Bool)
 | 0, _, _, _, _, _ => none
 | k + 1, x1, x5, x6, x7, x58 => if x58 = true then (none) else (if x7 = true then ((impl_ReadLog.f k x6).bind fun bt393 => (if bt393.2.2 = true then (if bt393.2.1 = (x6.size : Int) then ((laws_sameBatches.f k bt393.1 x5).bind fun t398 => (laws_FnLogs.j1 k x1 x5 x6 (!t398))) else (none)) else (none))) else (laws_FnLogs.j3 k x1))
def laws_FnLogs.j3 : Nat → List Int → Option (Bool)
 | 0, _ => none
 | k + 1, x1 => (spec_DrawReadLog.f k x1).bind fun t413 => ((impl_ReadLog.f k t413).bind fun bt414 => ((spec_ReadLog.f k t413).bind fun bt419 => (if (bt414.2.2 == bt419.2.2) = true then (if bt414.2.1 = bt419.2.1 then ((laws_sameBatches.f k bt414.1 bt419.1).bind fun t424 => (if t424 = true then ((impl_GoodLog.f k bt414.1).bind fun t425 => (some t425)) else (none))) else (none)) else (none))))
def laws_FnLogs.j1 : Nat → List Int → List (S25) → ByteArray → Bool → Option (Bool)
 | 0, _, _, _, _ => none
 | k + 1, x1, x5, x6, x79 => if x79 = true then (none) else ((laws_numberOf.f k x1).bind fun t399 => (if (wrap64 ((x6.size : Int) + 1)) = 0 then (none) else (if 0 ≤ (Int.tmod t399 (wrap64 ((x6.size : Int) + 1))) then (if (Int.tmod t399 (wrap64 ((x6.size : Int) + 1))) ≤ (x6.size : Int) then ((impl_ReadLog.f k (x6.extract 0 ((Int.tmod t399 (wrap64 ((x6.size : Int) + 1))) : Int).toNat)).bind fun bt400 => (if bt400.2.1 > (Int.tmod t399 (wrap64 ((x6.size : Int) + 1))) then (none) else (if (bt400.1.length : Int) > (x5.length : Int) then (none) else (if 0 ≤ (bt400.1.length : Int) then (if (bt400.1.length : Int) ≤ (x5.length : Int) then ((laws_sameBatches.f k bt400.1 (x5.take ((bt400.1.length : Int) : Int).toNat)).bind fun t409 => (if t409 = true then (laws_FnLogs.j2 k x1 x5 (Int.tmod t399 (wrap64 ((x6.size : Int) + 1))) bt400.1 bt400.2.1 (bt400.2.2 != (bt400.2.1 == (Int.tmod t399 (wrap64 ((x6.size : Int) + 1)))))) else (none))) else (none)) else (none))))) else (none)) else (none))))
def laws_FnLogs.j2 : Nat → List Int → List (S25) → Int → List (S25) → Int → Bool → Option (Bool)
 | 0, _, _, _, _, _, _ => none
 | k + 1, x1, x5, x13, x14, x15, x119 => if x119 = true then (none) else (if (x14.length : Int) < (x5.length : Int) then (if 0 ≤ (x14.length : Int) then ((impl_BatchBytes.f k ((rd_T25 x5 (x14.length : Int)).f0) ((rd_T25 x5 (x14.length : Int)).f1) ((rd_T25 x5 (x14.length : Int)).f2) ((rd_T25 x5 (x14.length : Int)).f3) ((rd_T25 x5 (x14.length : Int)).f4)).bind fun bt411 => (if bt411.2 = true then (if (wrap64 (x15 + (bt411.1.size : Int))) ≤ x13 then (none) else (laws_FnLogs.j3 k x1)) else (none))) else (none)) else (laws_FnLogs.j3 k x1))
end
def laws_FnLogs.f (k : Nat) (l0 : List Int) (l1 : List Int) : Option (Bool) := if (wrap64 ((l0.length : Int) + (l1.length : Int))) > 1048576 then (some true) else ((spec_DrawLogBytes.f k l0).bind fun t384 => ((impl_LogBytes.f k t384).bind fun bt387 => ((spec_LogBytes.f k t384).bind fun bt389 => (if (bt387.2 != bt389.2) = true then (none) else (if bt387.1.toList = bt389.1.toList then ((impl_GoodLog.f k t384).bind fun t391 => ((spec_GoodLog.f k t384).bind fun t392 => (laws_FnLogs.j0 k l1 t384 bt387.1 bt387.2 (t391 != t392)))) else (none))))))
theorem laws_FnLogs.mono_l : ∀ k, (∀ y0 y1 y2 y3 y4, LeO (laws_FnLogs.j0 k y0 y1 y2 y3 y4) (laws_FnLogs.j0 (k + 1) y0 y1 y2 y3 y4)) ∧ (∀ y0, LeO (laws_FnLogs.j3 k y0) (laws_FnLogs.j3 (k + 1) y0)) ∧ (∀ y0 y1 y2 y3, LeO (laws_FnLogs.j1 k y0 y1 y2 y3) (laws_FnLogs.j1 (k + 1) y0 y1 y2 y3)) ∧ (∀ y0 y1 y2 y3 y4 y5, LeO (laws_FnLogs.j2 k y0 y1 y2 y3 y4 y5) (laws_FnLogs.j2 (k + 1) y0 y1 y2 y3 y4 y5))
 | 0 => ⟨fun _ _ _ _ _ r h => by simp [laws_FnLogs.j0] at h, fun _ r h => by simp [laws_FnLogs.j3] at h, fun _ _ _ _ r h => by simp [laws_FnLogs.j1] at h, fun _ _ _ _ _ _ r h => by simp [laws_FnLogs.j2] at h⟩
 | k + 1 => by
  obtain ⟨ih0, ih1, ih2, ih3⟩ := laws_FnLogs.mono_l k
  refine ⟨?_, ?_, ?_, ?_⟩
  ·intro y0 y1 y2 y3 y4
   unfold laws_FnLogs.j0
   repeat' first
   | (with_reducible exact ih0 _ _ _ _ _)
   | (with_reducible exact ih1 _)
   | (with_reducible exact ih2 _ _ _ _)
   | (with_reducible exact ih3 _ _ _ _ _ _)
   | (with_reducible exact impl_BatchBytes.mono _ _ _ _ _ _)
   | (with_reducible exact impl_GoodLog.mono _ _)
   | (with_reducible exact impl_LogBytes.mono _ _)
   | (with_reducible exact impl_ReadLog.mono _ _)
   | (with_reducible exact laws_numberOf.mono _ _)
   | (with_reducible exact laws_sameBatches.mono _ _ _)
   | (with_reducible exact spec_DrawLogBytes.mono _ _)
   | (with_reducible exact spec_DrawReadLog.mono _ _)
   | (with_reducible exact spec_GoodLog.mono _ _)
   | (with_reducible exact spec_LogBytes.mono _ _)
   | (with_reducible exact spec_ReadLog.mono _ _)
   | (with_reducible exact LeO.refl _)
   | (with_reducible exact LeO.none _)
   | (with_reducible refine LeO.ite ?_ ?_)
   | (with_reducible refine LeO.bind ?_ (fun _ => ?_))
   | exact ih0 _ _ _ _ _
   | exact ih1 _
   | exact ih2 _ _ _ _
   | exact ih3 _ _ _ _ _ _
   | exact impl_BatchBytes.mono _ _ _ _ _ _
   | exact impl_GoodLog.mono _ _
   | exact impl_LogBytes.mono _ _
   | exact impl_ReadLog.mono _ _
   | exact laws_numberOf.mono _ _
   | exact laws_sameBatches.mono _ _ _
   | exact spec_DrawLogBytes.mono _ _
   | exact spec_DrawReadLog.mono _ _
   | exact spec_GoodLog.mono _ _
   | exact spec_LogBytes.mono _ _
   | exact spec_ReadLog.mono _ _
   | exact LeO.none _
   | refine LeO.ite ?_ ?_
   | refine LeO.bind ?_ (fun _ => ?_)
  ·intro y0
   unfold laws_FnLogs.j3
   repeat' first
   | (with_reducible exact ih0 _ _ _ _ _)
   | (with_reducible exact ih1 _)
   | (with_reducible exact ih2 _ _ _ _)
   | (with_reducible exact ih3 _ _ _ _ _ _)
   | (with_reducible exact impl_BatchBytes.mono _ _ _ _ _ _)
   | (with_reducible exact impl_GoodLog.mono _ _)
   | (with_reducible exact impl_LogBytes.mono _ _)
   | (with_reducible exact impl_ReadLog.mono _ _)
   | (with_reducible exact laws_numberOf.mono _ _)
   | (with_reducible exact laws_sameBatches.mono _ _ _)
   | (with_reducible exact spec_DrawLogBytes.mono _ _)
   | (with_reducible exact spec_DrawReadLog.mono _ _)
   | (with_reducible exact spec_GoodLog.mono _ _)
   | (with_reducible exact spec_LogBytes.mono _ _)
   | (with_reducible exact spec_ReadLog.mono _ _)
   | (with_reducible exact LeO.refl _)
   | (with_reducible exact LeO.none _)
   | (with_reducible refine LeO.ite ?_ ?_)
   | (with_reducible refine LeO.bind ?_ (fun _ => ?_))
   | exact ih0 _ _ _ _ _
   | exact ih1 _
   | exact ih2 _ _ _ _
   | exact ih3 _ _ _ _ _ _
   | exact impl_BatchBytes.mono _ _ _ _ _ _
   | exact impl_GoodLog.mono _ _
   | exact impl_LogBytes.mono _ _
   | exact impl_ReadLog.mono _ _
   | exact laws_numberOf.mono _ _
   | exact laws_sameBatches.mono _ _ _
   | exact spec_DrawLogBytes.mono _ _
   | exact spec_DrawReadLog.mono _ _
   | exact spec_GoodLog.mono _ _
   | exact spec_LogBytes.mono _ _
   | exact spec_ReadLog.mono _ _
   | exact LeO.none _
   | refine LeO.ite ?_ ?_
   | refine LeO.bind ?_ (fun _ => ?_)
  ·intro y0 y1 y2 y3
   unfold laws_FnLogs.j1
   repeat' first
   | (with_reducible exact ih0 _ _ _ _ _)
   | (with_reducible exact ih1 _)
   | (with_reducible exact ih2 _ _ _ _)
   | (with_reducible exact ih3 _ _ _ _ _ _)
   | (with_reducible exact impl_BatchBytes.mono _ _ _ _ _ _)
   | (with_reducible exact impl_GoodLog.mono _ _)
   | (with_reducible exact impl_LogBytes.mono _ _)
   | (with_reducible exact impl_ReadLog.mono _ _)
   | (with_reducible exact laws_numberOf.mono _ _)
   | (with_reducible exact laws_sameBatches.mono _ _ _)
   | (with_reducible exact spec_DrawLogBytes.mono _ _)
   | (with_reducible exact spec_DrawReadLog.mono _ _)
   | (with_reducible exact spec_GoodLog.mono _ _)
   | (with_reducible exact spec_LogBytes.mono _ _)
   | (with_reducible exact spec_ReadLog.mono _ _)
   | (with_reducible exact LeO.refl _)
   | (with_reducible exact LeO.none _)
   | (with_reducible refine LeO.ite ?_ ?_)
   | (with_reducible refine LeO.bind ?_ (fun _ => ?_))
   | exact ih0 _ _ _ _ _
   | exact ih1 _
   | exact ih2 _ _ _ _
   | exact ih3 _ _ _ _ _ _
   | exact impl_BatchBytes.mono _ _ _ _ _ _
   | exact impl_GoodLog.mono _ _
   | exact impl_LogBytes.mono _ _
   | exact impl_ReadLog.mono _ _
   | exact laws_numberOf.mono _ _
   | exact laws_sameBatches.mono _ _ _
   | exact spec_DrawLogBytes.mono _ _
   | exact spec_DrawReadLog.mono _ _
   | exact spec_GoodLog.mono _ _
   | exact spec_LogBytes.mono _ _
   | exact spec_ReadLog.mono _ _
   | exact LeO.none _
   | refine LeO.ite ?_ ?_
   | refine LeO.bind ?_ (fun _ => ?_)
  ·intro y0 y1 y2 y3 y4 y5
   unfold laws_FnLogs.j2
   repeat' first
   | (with_reducible exact ih0 _ _ _ _ _)
   | (with_reducible exact ih1 _)
   | (with_reducible exact ih2 _ _ _ _)
   | (with_reducible exact ih3 _ _ _ _ _ _)
   | (with_reducible exact impl_BatchBytes.mono _ _ _ _ _ _)
   | (with_reducible exact impl_GoodLog.mono _ _)
   | (with_reducible exact impl_LogBytes.mono _ _)
   | (with_reducible exact impl_ReadLog.mono _ _)
   | (with_reducible exact laws_numberOf.mono _ _)
   | (with_reducible exact laws_sameBatches.mono _ _ _)
   | (with_reducible exact spec_DrawLogBytes.mono _ _)
   | (with_reducible exact spec_DrawReadLog.mono _ _)
   | (with_reducible exact spec_GoodLog.mono _ _)
   | (with_reducible exact spec_LogBytes.mono _ _)
   | (with_reducible exact spec_ReadLog.mono _ _)
   | (with_reducible exact LeO.refl _)
   | (with_reducible exact LeO.none _)
   | (with_reducible refine LeO.ite ?_ ?_)
   | (with_reducible refine LeO.bind ?_ (fun _ => ?_))
   | exact ih0 _ _ _ _ _
   | exact ih1 _
   | exact ih2 _ _ _ _
   | exact ih3 _ _ _ _ _ _
   | exact impl_BatchBytes.mono _ _ _ _ _ _
   | exact impl_GoodLog.mono _ _
   | exact impl_LogBytes.mono _ _
   | exact impl_ReadLog.mono _ _
   | exact laws_numberOf.mono _ _
   | exact laws_sameBatches.mono _ _ _
   | exact spec_DrawLogBytes.mono _ _
   | exact spec_DrawReadLog.mono _ _
   | exact spec_GoodLog.mono _ _
   | exact spec_LogBytes.mono _ _
   | exact spec_ReadLog.mono _ _
   | exact LeO.none _
   | refine LeO.ite ?_ ?_
   | refine LeO.bind ?_ (fun _ => ?_)
theorem laws_FnLogs.mono : ∀ a0 a1 k, LeO (laws_FnLogs.f k a0 a1) (laws_FnLogs.f (k + 1) a0 a1) := by
 intro a0 a1 k
 obtain ⟨ih0, ih1, ih2, ih3⟩ := laws_FnLogs.mono_l k
 unfold laws_FnLogs.f
 repeat' first
   | (with_reducible exact ih0 _ _ _ _ _)
   | (with_reducible exact ih1 _)
   | (with_reducible exact ih2 _ _ _ _)
   | (with_reducible exact ih3 _ _ _ _ _ _)
   | (with_reducible exact impl_BatchBytes.mono _ _ _ _ _ _)
   | (with_reducible exact impl_GoodLog.mono _ _)
   | (with_reducible exact impl_LogBytes.mono _ _)
   | (with_reducible exact impl_ReadLog.mono _ _)
   | (with_reducible exact laws_numberOf.mono _ _)
   | (with_reducible exact laws_sameBatches.mono _ _ _)
   | (with_reducible exact spec_DrawLogBytes.mono _ _)
   | (with_reducible exact spec_DrawReadLog.mono _ _)
   | (with_reducible exact spec_GoodLog.mono _ _)
   | (with_reducible exact spec_LogBytes.mono _ _)
   | (with_reducible exact spec_ReadLog.mono _ _)
   | (with_reducible exact LeO.refl _)
   | (with_reducible exact LeO.none _)
   | (with_reducible refine LeO.ite ?_ ?_)
   | (with_reducible refine LeO.bind ?_ (fun _ => ?_))
   | exact ih0 _ _ _ _ _
   | exact ih1 _
   | exact ih2 _ _ _ _
   | exact ih3 _ _ _ _ _ _
   | exact impl_BatchBytes.mono _ _ _ _ _ _
   | exact impl_GoodLog.mono _ _
   | exact impl_LogBytes.mono _ _
   | exact impl_ReadLog.mono _ _
   | exact laws_numberOf.mono _ _
   | exact laws_sameBatches.mono _ _ _
   | exact spec_DrawLogBytes.mono _ _
   | exact spec_DrawReadLog.mono _ _
   | exact spec_GoodLog.mono _ _
   | exact spec_LogBytes.mono _ _
   | exact spec_ReadLog.mono _ _
   | exact LeO.none _
   | refine LeO.ite ?_ ?_
   | refine LeO.bind ?_ (fun _ => ?_)
set_option maxHeartbeats 8000000 in
set_option maxRecDepth 100000 in
theorem laws_FnLogs.calls (k : Nat) (A0 : Option Addr) (c0 : Nat) (l0 : List Int) (A1 : Option Addr) (c1 : Nat) (l1 : List Int) (r : Bool) (w : World) (hr0 : Kd.C (Kd.int .u8) w A0 l0.length l0) (hc0 : l0.length ≤ c0) (hr1 : Kd.C (Kd.int .u8) w A1 l1.length l1) (hc1 : l1.length ≤ c1) (h : laws_FnLogs.f k l0 l1 = some r) :
  Calls Try.prog 4 #[.slice A0 l0.length c0, .slice A1 l1.length c1] w fun e w' => e = .returned (.bool r) ∧ Below w.heap.size w w' := by
 have hu25 := Try.underlying25
 have HR0 := Aside0.mk hr0
 have HC0 := Aside0.mk hc0
 clear hr0 hc0
 have HR1 := Aside0.mk hr1
 have HC1 := Aside0.mk hc1
 clear hr1 hc1
 have HB := Aside0.mk (Below.refl w.heap.size w)
 have H : (if (wrap64 ((l0.length : Int) + (l1.length : Int))) > 1048576 then (some true) else ((spec_DrawLogBytes.f k l0).bind fun t384 => ((impl_LogBytes.f k t384).bind fun bt387 => ((spec_LogBytes.f k t384).bind fun bt389 => (if (bt387.2 != bt389.2) = true then (none) else (if bt387.1.toList = bt389.1.toList then ((impl_GoodLog.f k t384).bind fun t391 => ((spec_GoodLog.f k t384).bind fun t392 => (laws_FnLogs.j0 k l1 t384 bt387.1 bt387.2 (t391 != t392)))) else (none))))))) = some r := h
 clear h
 replace H := ite_ H
 obtain ⟨c3, H⟩ | ⟨c3, H⟩ := H
 ·have c3b0 := dgt_ c3
  clear c3
  obtain rfl := Option.some.inj H
  go_enter Try.func4, Try.ntmps4
  go_wp2
  go_ret
  exact ⟨er_, hb_⟩
 have c3b0 := dgf_ c3
 clear c3
 replace H := bnd_ H
 obtain ⟨t384, A4, H⟩ := H
 replace H := bnd_ H
 obtain ⟨⟨t387, t388⟩, A5, H⟩ := H
 replace H := red_ H
 replace H := bnd_ H
 obtain ⟨⟨t389, t390⟩, A6, H⟩ := H
 replace H := red_ H
 have HC7 := Aside0.mk H
 clear H
 go_enter Try.func4, Try.ntmps4
 go_upto_region 6 with (first | ((with_reducible refine gate_callee (f := 19) rfl ?_); refine gl_ 33 Try.func19 #[.slice A0 l0.length c0] rfl ma_ ?_; (with_reducible refine (spec_DrawLogBytes.calls k _ _ l0 t384 _ ?side1 ?side2 A4.out).mono ?_); (case side1 => exact cs_ (HR0.out)); (case side2 => exact HC0.out); rintro e w8 ⟨v385, rfl, ho0, hb⟩; refine ⟨_, rfl, ?_⟩; have HO386 := Aside0.mk (Kd.S_lower ho0 (below_size (hb_))); replace HB := nb_ hb; (try clear hb); (try clear hb2); (try clear hk); (try clear hi); (try clear ho0); obtain ⟨Ao9, co9, eo9⟩ := Kd.S_slice HO386.out; subst eo9) | ((with_reducible refine gate_callee (f := 20) rfl ?_); refine gl_ 36 Try.func20 #[.slice Ao9 t384.length co9] rfl ma_ ?_; (with_reducible refine (impl_LogBytes.calls k _ _ t384 t387 t388 _ ?side1 ?side2 A5.out).mono ?_); (case side1 => exact cs_ ((Kd.S_reads' HO386.out).2.2)); (case side2 => exact (Kd.S_reads' HO386.out).2.1); rintro e w10 ⟨rfl, hb⟩; refine ⟨_, rfl, ?_⟩; replace HO386 := sB_ HO386 hb; replace HB := nb_ hb; (try clear hb); (try clear hb2); (try clear hk); (try clear hi)) | ((with_reducible refine gate_callee (f := 21) rfl ?_); refine gl_ 41 Try.func21 #[.slice Ao9 t384.length co9] rfl ma_ ?_; (with_reducible refine (spec_LogBytes.calls k _ _ t384 t389 t390 _ ?side1 ?side2 A6.out).mono ?_); (case side1 => exact cs_ ((Kd.S_reads' HO386.out).2.2)); (case side2 => exact (Kd.S_reads' HO386.out).2.1); rintro e w11 ⟨rfl, hb⟩; refine ⟨_, rfl, ?_⟩; replace HO386 := sB_ HO386 hb; replace HB := nb_ hb; (try clear hb); (try clear hb2); (try clear hk); (try clear hi)))
 (try simp only [Act.put, List.setIfInBounds_toArray, List.set_cons_zero, List.set_cons_succ])
 go_cut [58] (fun v58 wc => ∃ (kq : Nat) (x58_6 : Bool), v58 = .bool x58_6 ∧ Aside0 (laws_FnLogs.j0 kq l1 t384 t387 t388 x58_6 = some r) ∧ Aside0 (kq ≤ k) ∧ Aside0 (Kd.S k25 25 wc w.heap.size (fun _ => True) (.slice Ao9 t384.length co9) t384) ∧ Aside0 (Below w.heap.size w wc))
 case first =>
  have H := HC7.out
  clear HC7
  replace H := ifx_ H
  obtain ⟨c12, H⟩ := H
  have c12b0 : (t388 != t390) = false := by simpa using c12
  (try (have c12b1 : decide (t388 = t390) = true := by simpa using c12))
  (try (have c12b2 : (t388 == t390) = true := by simpa using c12))
  clear c12
  (first | rw [c12b0] | (simp only [i64_w, i32_w]; rw [c12b0]) | rw [c12b1] | skip)
  replace H := ifs_ H
  obtain ⟨c13, H⟩ := H
  have c13b0 : (t387.toList == t389.toList) = true := beq_iff_eq.mpr c13
  have c13b1 : (t387.toList != t389.toList) = false := bne_eq_false_iff_eq.mpr c13
  clear c13
  replace H := bnd_ H
  obtain ⟨t391, A14, H⟩ := H
  replace H := bnd_ H
  obtain ⟨t392, A15, H⟩ := H
  have H' := Aside0.mk H
  clear H
  go_wp2_with (first | (go_at_call 22; (with_reducible refine (impl_GoodLog.calls k _ _ t384 t391 _ ?side1 ?side2 A14.out).mono ?_); (case side1 => exact cs_ ((Kd.S_reads' HO386.out).2.2)); (case side2 => exact (Kd.S_reads' HO386.out).2.1); rintro e w16 ⟨rfl, hb⟩; replace HO386 := sB_ HO386 hb; replace HB := nb_ hb; (try clear hb); (try clear hb2); (try clear hk); (try clear hi)) | (go_at_call 23; (with_reducible refine (spec_GoodLog.calls k _ _ t384 t392 _ ?side1 ?side2 A15.out).mono ?_); (case side1 => exact cs_ ((Kd.S_reads' HO386.out).2.2)); (case side2 => exact (Kd.S_reads' HO386.out).2.1); rintro e w17 ⟨rfl, hb⟩; replace HO386 := sB_ HO386 hb; replace HB := nb_ hb; (try clear hb); (try clear hb2); (try clear hk); (try clear hi)))
  go_meet
  case rel => exact ⟨_, ((t391 != t392)), sr_, H', ⟨by first | omega | exact Nat.le_refl _⟩, ⟨ks_ HO386.out⟩, ⟨hb_⟩⟩
 case rest =>
  clear HC7
  try clear c1
  try clear c2
  try clear p2
  try clear c3
  try clear c3b0
  try clear c4
  try clear p6
  try clear c12
  try clear c12b0
  try clear c12b1
  try clear c12b2
  try clear c13
  try clear c13b0
  try clear c13b1
  obtain ⟨kq, x58_6, rfl, HA, HJ6, HO_5, HB⟩ := hcut
  cases kq with
  | zero => exact absurd HA.out (by simp [laws_FnLogs.j0])
  | succ kj6 =>
   have H := HA.out
   clear HA
   simp only [laws_FnLogs.j0] at H
   replace H := ifb_ H
   obtain ⟨rfl, H⟩ | ⟨rfl, H⟩ := H
   ·exact absurd H (by simp)
   have HC19 := Aside0.mk H
   clear H
   go_upto_if 59 with (fail)
   go_cut [] (fun wc => ∃ (kq : Nat), Aside0 (laws_FnLogs.j3 kq l1 = some r) ∧ Aside0 (kq ≤ kj6) ∧ Aside0 (Below w.heap.size w wc))
   case first =>
    have H := HC19.out
    clear HC19
    replace H := ifb_ H
    obtain ⟨rfl, H⟩ | ⟨rfl, H⟩ := H
    rotate_left
    ·have H' := Aside0.mk H
     clear H
     go_wp2
     go_meet
     case rel => exact ⟨_, H', ⟨by have := HJ6.out; first | omega | exact Nat.le_refl _⟩, ⟨hb_⟩⟩
    replace H := bnd_ H
    obtain ⟨⟨t393, t394, t395⟩, A21, H⟩ := H
    replace H := red_ H
    have HC22 := Aside0.mk H
    clear H
    go_upto_region 10 with (first | ((with_reducible refine gate_callee (f := 24) rfl ?_); refine gl_ 62 Try.func24 #[.string t387] rfl ma_ ?_; (with_reducible refine (impl_ReadLog.calls kj6 t387 t393 t394 t395 _ A21.out).mono ?_); rintro e w23 ⟨v396, rfl, ho0, hb⟩; refine ⟨_, rfl, ?_⟩; have HO397 := Aside0.mk (Kd.S_lower (Kd.S_new' ho0 (Kd.S_lt (ks_ HO_5.out))) (below_size (hb_))); replace HO_5 := Aside0.mk (Kd.S_elder' (ks_ HO_5.out) (Kd.S_base ho0) hb); replace HB := nb_ hb; (try clear hb); (try clear hb2); (try clear hk); (try clear hi); (try clear ho0)))
    (try simp only [Act.put, List.setIfInBounds_toArray, List.set_cons_zero, List.set_cons_succ])
    go_cut [79] (fun v79 wc => ∃ (kq : Nat) (x79_21 : Bool), v79 = .bool x79_21 ∧ Aside0 (laws_FnLogs.j1 kq l1 t384 t387 x79_21 = some r) ∧ Aside0 (kq ≤ kj6) ∧ Aside0 (Kd.S k25 25 wc w.heap.size (fun _ => True) (.slice Ao9 t384.length co9) t384) ∧ Aside0 (Below w.heap.size w wc))
    case first =>
     have H := HC22.out
     clear HC22
     replace H := ifb_ H
     obtain ⟨rfl, H⟩ | ⟨rfl, H⟩ := H
     rotate_left
     ·exact absurd H (by simp)
     replace H := ifs_ H
     obtain ⟨c25, H⟩ := H
     have c25b0 : (t394 == (t387.size : Int)) = true := beq_iff_eq.mpr c25
     have c25b1 : (t394 != (t387.size : Int)) = false := bne_eq_false_iff_eq.mpr c25
     clear c25
     (first | rw [c25b0] | (simp only [i64_w, i32_w]; rw [c25b0]) | rw [c25b1] | skip)
     replace H := bnd_ H
     obtain ⟨t398, A26, H⟩ := H
     have H' := Aside0.mk H
     clear H
     obtain ⟨Ao27, co27, eo27⟩ := Kd.S_slice HO397.out
     subst eo27
     go_wp2_with (first | (go_at_call 25; (with_reducible refine (laws_sameBatches.calls kj6 _ _ t393 _ _ t384 t398 _ ?side1 ?side2 ?side3 ?side4 A26.out).mono ?_); (case side1 => exact cs_ ((Kd.S_reads' HO397.out).2.2)); (case side2 => exact (Kd.S_reads' HO397.out).2.1); (case side3 => exact cs_ ((Kd.S_reads' HO_5.out).2.2)); (case side4 => exact (Kd.S_reads' HO_5.out).2.1); rintro e w28 ⟨rfl, hb⟩; replace HO_5 := sB_ HO_5 hb; replace HO397 := sB_ HO397 hb; replace HB := nb_ hb; (try clear hb); (try clear hb2); (try clear hk); (try clear hi)))
     go_meet
     case rel => exact ⟨_, (!t398), sr_, H', ⟨by have := HJ6.out; first | omega | exact Nat.le_refl _⟩, ⟨by (with_reducible repeat (first | apply Kd.S_alloc | apply Kd.S_drewN | apply Kd.S_drew)); exact Kd.S_mono HO_5.out (fun _ hk => trivial)⟩, ⟨hb_⟩⟩
    case rest =>
     clear HC22
     try clear c1
     try clear c2
     try clear p2
     try clear c3
     try clear c3b0
     try clear c4
     try clear p6
     try clear c12
     try clear c12b0
     try clear c12b1
     try clear c12b2
     try clear c13
     try clear c13b0
     try clear c13b1
     try clear c18
     try clear c19
     try clear c20
     try clear c21
     try clear c24
     try clear c25
     try clear c25b0
     try clear c25b1
     try clear p2
     try clear p6
     obtain ⟨kq, x79_21, rfl, HA, HJ21, HO_5, HB⟩ := hcut
     cases kq with
     | zero => exact absurd HA.out (by simp [laws_FnLogs.j1])
     | succ kj21 =>
      have H := HA.out
      clear HA
      simp only [laws_FnLogs.j1] at H
      replace H := ifb_ H
      obtain ⟨rfl, H⟩ | ⟨rfl, H⟩ := H
      ·exact absurd H (by simp)
      replace H := bnd_ H
      obtain ⟨t399, A30, H⟩ := H
      replace H := ifx_ H
      obtain ⟨c31, H⟩ := H
      have c31b0 : ((wrap64 ((t387.size : Int) + 1)) == 0) = false := beq_eq_false_iff_ne.mpr c31
      have c31b1 : ((wrap64 ((t387.size : Int) + 1)) != 0) = true := bne_iff_ne.mpr c31
      obtain ⟨ji32, hji32⟩ : ∃ j_ : Int, (Int.tmod t399 (wrap64 ((t387.size : Int) + 1))) = j_ := ⟨_, rfl⟩
      first | rw [hji32] at H | simp only [hji32] at H
      (try rw [hji32] at A30)
      replace H := ifs_ H
      obtain ⟨c33, H⟩ := H
      have c33b0 := eq_true c33
      have c33b1 := decide_eq_true c33
      clear c33
      replace H := ifs_ H
      obtain ⟨c34, H⟩ := H
      have c34b0 := eq_true c34
      have c34b1 := decide_eq_true c34
      clear c34
      replace H := bnd_ H
      obtain ⟨⟨t400, t401, t402⟩, A35, H⟩ := H
      replace H := red_ H
      have HC36 := Aside0.mk H
      clear H
      go_upto_region 14 with (first | ((with_reducible refine gate_callee (f := 14) rfl ?_); refine gl_ 81 Try.func14 #[.slice A1 l1.length c1] rfl ma_ ?_; (with_reducible refine (laws_numberOf.calls kj21 _ _ l1 t399 _ ?side1 ?side2 A30.out).mono ?_); (case side1 => exact cs_ ((Kd.C_below HR1.out HB.out))); (case side2 => exact HC1.out); rintro e w' ⟨rfl, ⟨nd, rfl⟩⟩; refine ⟨_, rfl, ?_⟩) | ((with_reducible refine gate_callee (f := 24) rfl ?_); refine gl_ 90 Try.func24 #[.string (t387.extract 0 ((ji32) : Int).toNat)] rfl (mb_ hji32) ?_; (with_reducible refine (impl_ReadLog.calls kj21 (t387.extract 0 ((ji32) : Int).toNat) t400 t401 t402 _ A35.out).mono ?_); rintro e w37 ⟨v403, rfl, ho0, hb⟩; refine ⟨_, rfl, ?_⟩; have HO404 := Aside0.mk (Kd.S_lower (Kd.S_new' ho0 (Kd.S_lt (ks_ HO_5.out))) (below_size (hb_))); replace HO_5 := Aside0.mk (Kd.S_elder' (ks_ HO_5.out) (Kd.S_base ho0) hb); replace HB := nb_ hb; (try clear hb); (try clear hb2); (try clear hk); (try clear hi); (try clear ho0)))
      (try simp only [Act.put, List.setIfInBounds_toArray, List.set_cons_zero, List.set_cons_succ])
      go_cut [119] (fun v119 wc => ∃ (kq : Nat) (x119_35 : Bool), v119 = .bool x119_35 ∧ Aside0 (laws_FnLogs.j2 kq l1 t384 ji32 t400 t401 x119_35 = some r) ∧ Aside0 (kq ≤ kj21) ∧ Aside0 (Kd.S k25 25 wc w.heap.size (fun k_ => some k_ ≠ (v403 : Value).ownBlock) (.slice Ao9 t384.length co9) t384) ∧ Aside0 (Kd.S k25 25 wc w.heap.size (fun k_ => some k_ ≠ ((.slice Ao9 t384.length co9) : Value).ownBlock) v403 t400) ∧ Aside0 (Below w.heap.size w wc))
      case first =>
       have H := HC36.out
       clear HC36
       replace H := ifx_ H
       obtain ⟨c38, H⟩ := H
       have c38b0 := dgf_ c38
       clear c38
       (first | rw [c38b0] | (simp only [i64_w, i32_w]; rw [c38b0]) | rw [c38b1] | skip)
       replace H := ifx_ H
       obtain ⟨c39, H⟩ := H
       have c39b0 := dgf_ c39
       have c39b1 : decide (t384.length < t400.length) = false := decide_eq_false (fun h => c39 (Int.ofNat_lt.mpr h))
       clear c39
       replace H := ifs_ H
       obtain ⟨c40, H⟩ := H
       have c40b0 := eq_true c40
       have c40b1 := decide_eq_true c40
       clear c40
       replace H := ifs_ H
       obtain ⟨c41, H⟩ := H
       have c41b0 := eq_true c41
       have c41b1 := decide_eq_true c41
       clear c41
       obtain ⟨y405, hy405⟩ : ∃ y_ : List (S25), y_ = (t384.take ((t400.length : Int) : Int).toNat) := ⟨_, rfl⟩
       replace H : ((laws_sameBatches.f kj21 t400 y405).bind fun t409 => (if t409 = true then (laws_FnLogs.j2 kj21 l1 t384 ji32 t400 t401 (t402 != (t401 == (ji32)))) else (none))) = some r := by first | (rw [hy405]; with_reducible exact H) | (have H2_ := (Option.bind_some _ _).symm.trans H; rw [hy405]; with_reducible exact H2_) | (have H2_ := (Option.bind_some _ _).symm.trans H; with_reducible exact H2_) | with_reducible exact H | (rw [hy405]; exact H) | exact H
       have Ny405 := Aside0.mk hy405
       clear hy405
       replace H := bnd_ H
       obtain ⟨t409, A42, H⟩ := H
       replace H := ifb_ H
       obtain ⟨rfl, H⟩ | ⟨rfl, H⟩ := H
       rotate_left
       ·exact absurd H (by simp)
       have H' := Aside0.mk H
       clear H
       obtain ⟨Ao44, co44, eo44⟩ := Kd.S_slice HO404.out
       subst eo44
       have q45 : ((t400.length : Int) : Int) ≤ ((t384.length : Int) : Int) := oa_
       obtain ⟨i045, hi045, _, hsz45, _⟩ := info_parts info25
       have hroom45 : t384.length ≤ co9 := (Kd.S_reads' HO_5.out).2.1
       have hC45 : Kd.C k25 _ Ao9 t384.length t384 := (Kd.S_reads' HO_5.out).2.2
       have hcut45 := cut_to (P := Try.prog) 42 25 .i64 Try.underlying42 hi045 Ao9 t384.length co9 (t400.length : Int) (oa_) q45 hroom45
       have hr45 := Kd.C_take (m := ((t400.length : Int) : Int).toNat) hC45 (by omega)
       have hy45 : y405.length = ((t400.length : Int) : Int).toNat := (by rw [Ny405.out, List.length_take]; omega)
       rw [← Ny405.out] at hr45
       rw [← hy45] at hcut45
       have HR408 := Aside0.mk hr45
       have HC408 := Aside0.mk (show y405.length ≤ co9 from by omega)
       clear hr45 hC45 hroom45 hi045 hsz45
       have KY45 := Aside0.mk hy45
       clear hy45
       have KL45 := Aside0.mk (show ((t400.length : Int) : Int).toNat ≤ t384.length from by omega)
       replace q45 := eq_true q45
       go_wp2_with (first | (go_at_call 25; (with_reducible refine (laws_sameBatches.calls kj21 _ _ t400 _ _ y405 true _ ?side1 ?side2 ?side3 ?side4 A42.out).mono ?_); (case side1 => exact cs_ ((Kd.S_reads' HO404.out).2.2)); (case side2 => exact (Kd.S_reads' HO404.out).2.1); (case side3 => repeat (first | exact (by repeat (first | (with_reducible exact HR408.out) | (with_reducible refine Kd.C_alloc ?_ _) | (with_reducible refine Kd.C_drewN ?_ _) | (with_reducible refine Kd.C_drew ?_) | exact HR408.out)) | (with_reducible refine Kd.C_alloc ?_ _) | (with_reducible refine Kd.C_drewN ?_ _) | (with_reducible refine Kd.C_drew ?_))); (case side4 => exact HC408.out); rintro e w46 ⟨rfl, hb⟩; replace HO_5 := sB_ HO_5 hb; replace HO404 := sB_ HO404 hb; replace HR408 := Aside0.mk (Kd.C_below (by repeat (first | (with_reducible exact HR408.out) | (with_reducible refine Kd.C_alloc ?_ _) | (with_reducible refine Kd.C_drewN ?_ _) | (with_reducible refine Kd.C_drew ?_) | exact HR408.out)) hb); replace HB := nb_ hb; (try clear hb); (try clear hb2); (try clear hk); (try clear hi)))
       go_meet
       case rel => exact ⟨_, ((t402 != (t401 == (ji32)))), (by first | rfl | (simp; done) | (simp only [← hji32] <;> (first | rfl | simp)) | (simp [*]; done)), H', ⟨by have := HJ6.out; have := HJ21.out; first | omega | exact Nat.le_refl _⟩, ⟨by (with_reducible repeat (first | apply Kd.S_alloc | apply Kd.S_drewN | apply Kd.S_drew)); exact Kd.S_mono HO_5.out (fun _ hk => hk.2)⟩, ⟨by (with_reducible repeat (first | apply Kd.S_alloc | apply Kd.S_drewN | apply Kd.S_drew)); exact Kd.S_mono HO404.out (fun _ hk => hk.2)⟩, ⟨hb_⟩⟩
      case rest =>
       clear HC36
       try clear c1
       try clear c2
       try clear p2
       try clear c3
       try clear c3b0
       try clear c4
       try clear q4
       try clear p6
       try clear c12
       try clear c12b0
       try clear c12b1
       try clear c12b2
       try clear c13
       try clear c13b0
       try clear c13b1
       try clear c14
       try clear c18
       try clear c19
       try clear c20
       try clear c21
       try clear c24
       try clear c25
       try clear c25b0
       try clear c25b1
       try clear c29
       try clear c31
       try clear c31b0
       try clear c31b1
       try clear c33
       try clear c33b0
       try clear c33b1
       try clear c34
       try clear c34b0
       try clear c34b1
       try clear c38
       try clear c38b0
       try clear c39
       try clear c39b0
       try clear c39b1
       try clear c40
       try clear c40b0
       try clear c40b1
       try clear c41
       try clear c41b0
       try clear c41b1
       try clear c43
       try clear q45
       try clear p2
       try clear p6
       try clear q45
       obtain ⟨kq, x119_35, rfl, HA, HJ35, HO_5, HO_14, HB⟩ := hcut
       cases kq with
       | zero => exact absurd HA.out (by simp [laws_FnLogs.j2])
       | succ kj35 =>
        have H := HA.out
        clear HA
        simp only [laws_FnLogs.j2] at H
        replace H := ifb_ H
        obtain ⟨rfl, H⟩ | ⟨rfl, H⟩ := H
        ·exact absurd H (by simp)
        replace H := ite_ H
        obtain ⟨c48, H⟩ | ⟨c48, H⟩ := H
        rotate_left
        ·have c48b0 := decide_eq_false c48
         have c48b1 : decide (t400.length < t384.length) = false := decide_eq_false (fun h => c48 (Int.ofNat_lt.mpr h))
         clear c48
         have H' := Aside0.mk H
         clear H
         obtain ⟨Ao55, co55, eo55⟩ := Kd.S_slice HO_14.out
         subst eo55
         go_wp2
         go_meet
         case rel => exact ⟨_, H', ⟨by have := HJ6.out; have := HJ21.out; have := HJ35.out; first | omega | exact Nat.le_refl _⟩, ⟨hb_⟩⟩
        have c48b0 := decide_eq_true c48
        have c48b1 : decide (t400.length < t384.length) = true := decide_eq_true (Int.ofNat_lt.mp c48)
        clear c48
        replace H := ifs_ H
        obtain ⟨c49, H⟩ := H
        have c49b0 := decide_eq_true c49
        have c49b1 : decide (0 ≤ t400.length) = true := decide_eq_true (by omega)
        clear c49
        replace H := bnd_ H
        obtain ⟨⟨t411, t412⟩, A50, H⟩ := H
        replace H := red_ H
        replace H := ifb_ H
        obtain ⟨rfl, H⟩ | ⟨rfl, H⟩ := H
        rotate_left
        ·exact absurd H (by simp)
        replace H := ifx_ H
        obtain ⟨c52, H⟩ := H
        have c52b0 := decide_eq_false c52
        clear c52
        have H' := Aside0.mk H
        clear H
        obtain ⟨Ao53, co53, eo53⟩ := Kd.S_slice HO_14.out
        subst eo53
        have p410 : 0 ≤ ((t400.length : Int) : Int) := oa_
        have q410 : (t400.length : Int) < (t384.length : Int) := oa_
        obtain ⟨ad410, A410_4, c410_4, e410, hx410_0, hx410_1, hx410_2, hx410_3, hx410_4, hl410_4, hi410_4⟩ := at_T25 (Kd.S_reads' HO_5.out).2.2 (t400.length : Int) p410 q410
        cases e410
        obtain ⟨ce410, hce410, hMe410, hcc410⟩ := Kd.S_get HO_5.out z25 (t400.length : Int) p410 (by first | exact q410 | exact oa_ | (have e_ := (Kd.S_reads' HO_5.out).1; omega))
        obtain ⟨ve410_4, rfl, ge410_4⟩ := k25_openM hMe410
        have hv410_4 := hcc410 4 _ rfl
        rw [add_field _ _ 4 (by omega)] at hv410_4
        replace hv410_4 := Option.some.inj (hv410_4.symm.trans hx410_4)
        rw [hv410_4] at ge410_4
        have HL410_4 := Aside0.mk (show Kd.R Kd.string 9 _ _ _ _ ((rd_T25 t384 (t400.length : Int)).f4) from ge410_4)
        clear hv410_4 ge410_4
        clear hcc410 hce410
        have HR410_4 := Aside0.mk hi410_4
        have HC410_4 := Aside0.mk hl410_4
        clear hi410_4 hl410_4
        (try simp only [Go.IntWalk.toNatUp] at hx410_0)
        (try simp only [Go.IntWalk.toNatUp] at hx410_1)
        (try simp only [Go.IntWalk.toNatUp] at hx410_2)
        (try simp only [Go.IntWalk.toNatUp] at hx410_3)
        (try simp only [Go.IntWalk.toNatUp] at hx410_4)
        replace p410 := eq_true p410
        replace q410 := eq_true q410
        go_wp2_with (first | ((with_reducible refine gate_callee (f := 6) rfl ?_); refine gl_ 131 Try.func6 #[.agg #[.int .i64 ((rd_T25 t384 (t400.length : Int)).f0), .int .i64 ((rd_T25 t384 (t400.length : Int)).f1), .int .i64 ((rd_T25 t384 (t400.length : Int)).f2), .int .i64 ((rd_T25 t384 (t400.length : Int)).f3), .slice A410_4 ((rd_T25 t384 (t400.length : Int)).f4).length c410_4]] rfl ma_ ?_; (with_reducible refine (impl_BatchBytes.calls kj35 ((rd_T25 t384 (t400.length : Int)).f0) ((rd_T25 t384 (t400.length : Int)).f1) ((rd_T25 t384 (t400.length : Int)).f2) ((rd_T25 t384 (t400.length : Int)).f3) _ _ ((rd_T25 t384 (t400.length : Int)).f4) t411 true _ ?side1 ?side2 A50.out).mono ?_); (case side1 => repeat (first | exact (by repeat (first | (with_reducible exact HR410_4.out) | (with_reducible refine Kd.C_alloc ?_ _) | (with_reducible refine Kd.C_drewN ?_ _) | (with_reducible refine Kd.C_drew ?_) | exact HR410_4.out)) | (with_reducible refine Kd.C_alloc ?_ _) | (with_reducible refine Kd.C_drewN ?_ _) | (with_reducible refine Kd.C_drew ?_))); (case side2 => exact HC410_4.out); rintro e w54 ⟨rfl, hb⟩; refine ⟨_, rfl, ?_⟩; replace HO_5 := sB_ HO_5 hb; replace HO_14 := sB_ HO_14 hb; replace HL410_4 := rB_ HL410_4 hb; replace HR410_4 := Aside0.mk (Kd.C_below (by repeat (first | (with_reducible exact HR410_4.out) | (with_reducible refine Kd.C_alloc ?_ _) | (with_reducible refine Kd.C_drewN ?_ _) | (with_reducible refine Kd.C_drew ?_) | exact HR410_4.out)) hb); replace HB := nb_ hb; (try clear hb); (try clear hb2); (try clear hk); (try clear hi)))
        go_meet
        case rel => exact ⟨_, H', ⟨by have := HJ6.out; have := HJ21.out; have := HJ35.out; first | omega | exact Nat.le_refl _⟩, ⟨hb_⟩⟩
   case rest =>
    clear HC19
    try clear c1
    try clear c2
    try clear p2
    try clear c3
    try clear c3b0
    try clear c4
    try clear p4
    try clear q4
    try clear hx4
    try clear c5
    try clear c6
    try clear p6
    try clear c12
    try clear c12b0
    try clear c12b1
    try clear c12b2
    try clear c13
    try clear c13b0
    try clear c13b1
    try clear c14
    try clear c18
    try clear c19
    try clear c20
    try clear c21
    try clear c24
    try clear c25
    try clear c25b0
    try clear c25b1
    try clear c29
    try clear c31
    try clear c31b0
    try clear c31b1
    try clear c33
    try clear c33b0
    try clear c33b1
    try clear c34
    try clear c34b0
    try clear c34b1
    try clear c38
    try clear c38b0
    try clear c39
    try clear c39b0
    try clear c39b1
    try clear c40
    try clear c40b0
    try clear c40b1
    try clear c41
    try clear c41b0
    try clear c41b1
    try clear p41
    try clear q41
    try clear hx41
    try clear c43
    try clear q45
    try clear c47
    try clear c48
    try clear c48b0
    try clear c48b1
    try clear c49
    try clear c49b0
    try clear c49b1
    try clear c51
    try clear c52
    try clear c52b0
    try clear hx410_0
    try clear hx410_1
    try clear hx410_2
    try clear hx410_3
    try clear hx410_4
    try clear p2
    try clear p410
    try clear p6
    try clear q4
    try clear q410
    try clear q45
    obtain ⟨kq, HA, HJ18, HB⟩ := hcut
    cases kq with
    | zero => exact absurd HA.out (by simp [laws_FnLogs.j3])
    | succ kj18 =>
     have H := HA.out
     clear HA
     simp only [laws_FnLogs.j3] at H
     replace H := bnd_ H
     obtain ⟨t413, A56, H⟩ := H
     replace H := bnd_ H
     obtain ⟨⟨t414, t415, t416⟩, A57, H⟩ := H
     replace H := red_ H
     replace H := bnd_ H
     obtain ⟨⟨t419, t420, t421⟩, A58, H⟩ := H
     replace H := red_ H
     replace H := ifs_ H
     obtain ⟨c59, H⟩ := H
     have c59b0 : (t416 == t421) = true := c59
     (try (have c59b1 : decide (t416 = t421) = true := by simpa using c59))
     (try (have c59b2 : (t416 == t421) = true := by simpa using c59))
     clear c59
     replace H := ifs_ H
     obtain ⟨c60, H⟩ := H
     have c60b0 : (t415 == t420) = true := beq_iff_eq.mpr c60
     have c60b1 : (t415 != t420) = false := bne_eq_false_iff_eq.mpr c60
     clear c60
     replace H := bnd_ H
     obtain ⟨t424, A61, H⟩ := H
     replace H := ifb_ H
     obtain ⟨rfl, H⟩ | ⟨rfl, H⟩ := H
     rotate_left
     ·exact absurd H (by simp)
     replace H := bnd_ H
     obtain ⟨t425, A63, H⟩ := H
     obtain rfl := Option.some.inj H
     go_wp2_with (first | ((with_reducible refine gate_callee (f := 26) rfl ?_); refine gl_ 145 Try.func26 #[.slice A1 l1.length c1] rfl ma_ ?_; (with_reducible refine (spec_DrawReadLog.calls kj18 _ _ l1 t413 _ ?side1 ?side2 A56.out).mono ?_); (case side1 => exact cs_ ((Kd.C_below HR1.out HB.out))); (case side2 => exact HC1.out); rintro e w64 ⟨rfl, hb⟩; refine ⟨_, rfl, ?_⟩; replace HB := nb_ hb; (try clear hb); (try clear hb2); (try clear hk); (try clear hi)) | ((with_reducible refine gate_callee (f := 24) rfl ?_); refine gl_ 148 Try.func24 #[.string t413] rfl ma_ ?_; (with_reducible refine (impl_ReadLog.calls kj18 t413 t414 t415 t416 _ A57.out).mono ?_); rintro e w65 ⟨v417, rfl, ho0, hb⟩; refine ⟨_, rfl, ?_⟩; have HO418 := Aside0.mk (Kd.S_lower ho0 (below_size (hb_))); replace HB := nb_ hb; (try clear hb); (try clear hb2); (try clear hk); (try clear hi); (try clear ho0)) | ((with_reducible refine gate_callee (f := 27) rfl ?_); refine gl_ 154 Try.func27 #[.string t413] rfl ma_ ?_; (with_reducible refine (spec_ReadLog.calls kj18 t413 t419 t420 t421 _ A58.out).mono ?_); rintro e w66 ⟨v422, rfl, ho0, hb⟩; refine ⟨_, rfl, ?_⟩; have HO423 := Aside0.mk (Kd.S_lower (Kd.S_new' ho0 (Kd.S_lt (ks_ HO418.out))) (below_size (hb_))); replace HO418 := Aside0.mk (Kd.S_elder' (ks_ HO418.out) (Kd.S_base ho0) hb); replace HB := nb_ hb; (try clear hb); (try clear hb2); (try clear hk); (try clear hi); (try clear ho0); obtain ⟨Ao67, co67, eo67⟩ := Kd.S_slice HO418.out; subst eo67; obtain ⟨Ao68, co68, eo68⟩ := Kd.S_slice HO423.out; subst eo68) | (go_at_call 25; (with_reducible refine (laws_sameBatches.calls kj18 _ _ t414 _ _ t419 true _ ?side1 ?side2 ?side3 ?side4 A61.out).mono ?_); (case side1 => exact cs_ ((Kd.S_reads' HO418.out).2.2)); (case side2 => exact (Kd.S_reads' HO418.out).2.1); (case side3 => exact cs_ ((Kd.S_reads' HO423.out).2.2)); (case side4 => exact (Kd.S_reads' HO423.out).2.1); rintro e w69 ⟨rfl, hb⟩; replace HO418 := sB_ HO418 hb; replace HO423 := sB_ HO423 hb; replace HB := nb_ hb; (try clear hb); (try clear hb2); (try clear hk); (try clear hi)) | (go_at_call 22; (with_reducible refine (impl_GoodLog.calls kj18 _ _ t414 t425 _ ?side1 ?side2 A63.out).mono ?_); (case side1 => exact cs_ ((Kd.S_reads' HO418.out).2.2)); (case side2 => exact (Kd.S_reads' HO418.out).2.1); rintro e w70 ⟨rfl, hb⟩; replace HO418 := sB_ HO418 hb; replace HO423 := sB_ HO423 hb; replace HB := nb_ hb; (try clear hb); (try clear hb2); (try clear hk); (try clear hi)))
     go_ret
     exact ⟨er_, hb_⟩

/-- The one pure statement of laws_FnLogs. -/
def laws_FnLogs.Pure : Prop := ∀ (l0 : List Int) (l1 : List Int), (l0.length ≤ maxLen ∧ ∀ x0 ∈ l0, (Lit.int .u8 x0).wf = true) → (l1.length ≤ maxLen ∧ ∀ x0 ∈ l1, (Lit.int .u8 x0).wf = true) → ∃ k, laws_FnLogs.f k l0 l1 = some true

end Go.Proofs.Ytjjhebkkpeapkaa.QFnLogs
