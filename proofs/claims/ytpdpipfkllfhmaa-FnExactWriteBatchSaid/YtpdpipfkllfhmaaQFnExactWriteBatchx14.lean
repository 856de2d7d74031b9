/- For each Go function that one statement reaches: a plain function with the same answers, and the proof that the call comes to them. Conditions: those that each contract names. Written by a program of this repository. -/
import Derived.Test.YtpdpipfkllfhmaaVWriteBatcha
import Derived.Test.YtpdpipfkllfhmaaQFnExactWriteBatchx0
import Derived.Test.YtpdpipfkllfhmaaQFnExactWriteBatchx1
import Derived.Test.YtpdpipfkllfhmaaQFnExactWriteBatchx2
import Derived.Test.YtpdpipfkllfhmaaQFnExactWriteBatchx7
import Derived.Test.YtpdpipfkllfhmaaQFnExactWriteBatchx8
import Derived.Test.YtpdpipfkllfhmaaQFnExactWriteBatchx12
import Derived.Test.YtpdpipfkllfhmaaQFnExactWriteBatchx13
namespace Go.Proofs.Ytpdpipfkllfhmaa.QFnExactWriteBatch
open Go.RowKit Go.Proofs.YtpdpipfkllfhmaaW.PrintWords Go.Proofs.YtpdpipfkllfhmaaW.PrintLast Go.Proofs.YtpdpipfkllfhmaaW.PrintMore
attribute [local go_sem] max2_int min2_int max_two min_two max_three min_three max_four min_four Go.Proofs.YtpdpipfkllfhmaaW.PrintMore2.isSome_setCell   -- for this text's walks alone
set_option linter.unusedVariables false
set_option linter.unusedSimpArgs false

/-! ### laws_FnExactWriteBatch: function 4 -/
mutual
def laws_FnExactWriteBatch.j0 : Nat → Int → Bool → Bool → Bool → List (S100) → Int → Int → Int → Int → List ByteArray → List (S56) → List (S56) → Int → Int → Int → Int → List ByteArray → List (S56) → Option (Bool)
 | 0, _, _, _, _, _, _, _, _, _, _, _, _, _, _, _, _, _, _ => none
 | k + 1, x1, x9, x13, x57, x353000, x354000, x354001, x354002, x354003, x354004, x371000, x375000, x383000, x383001, x383002, x383003, x383004, x388000 => if x57 = true then (none) else ((laws_toDisk.f k x353000).bind fun t389 => ((laws_eqDisk.f k x375000 t389).bind fun t392 => (if t392 = true then ((laws_toBatch.f k x354000 x354001 x354002 x354003 x354004).bind fun bt393 => ((laws_eqBatch.f k x383000 x383001 x383002 x383003 x383004 bt393.1 bt393.2.1 bt393.2.2.1 bt393.2.2.2.1 bt393.2.2.2.2).bind fun t400 => (if t400 = true then ((laws_markDisk.f k x375000 1).bind fun bt401 => ((laws_markBatch.f k x383000 x383001 x383002 x383003 x383004 bt401.1).bind fun bt403 => (if bt403.1 < 0 then (none) else ((laws_eqDisk.f k x388000 x371000).bind fun t405 => (if t405 = true then (laws_FnExactWriteBatch.j1 k x1 x9 (x13 != x9) x353000 x354000 x354001 x354002 x354003 x354004 x371000 x388000) else (none)))))) else (none)))) else (none))))
def laws_FnExactWriteBatch.j1 : Nat → Int → Bool → Bool → List (S100) → Int → Int → Int → Int → List ByteArray → List (S56) → List (S56) → Option (Bool)
 | 0, _, _, _, _, _, _, _, _, _, _, _ => none
 | k + 1, x1, x9, x86, x353000, x354000, x354001, x354002, x354003, x354004, x371000, x388000 => if x86 = true then (none) else ((laws_markDisk.f k x388000 1).bind fun bt406 => ((laws_heldDisk.f k bt406.2 1).bind fun t408 => (if t408 < 0 then (none) else (if t408 = bt406.1 then ((laws_toDisk.f k x353000).bind fun t409 => ((laws_toBatch.f k x354000 x354001 x354002 x354003 x354004).bind fun bt412 => ((impl_WriteBatch.f k t409 x1 bt412.1 bt412.2.1 bt412.2.2.1 bt412.2.2.2.1 bt412.2.2.2.2).bind fun bt419 => ((laws_eqDisk.f k bt419.1 x371000).bind fun t424 => (if t424 = true then (laws_FnExactWriteBatch.j2 k bt406.1 (bt419.2 != x9) bt406.2) else (none)))))) else (none)))))
def laws_FnExactWriteBatch.j2 : Nat → Int → Bool → List (S56) → Option (Bool)
 | 0, _, _, _ => none
 | k + 1, x15, x115, x388000 => if x115 = true then (none) else ((laws_heldDisk.f k x388000 1).bind fun t425 => (if t425 < 0 then (none) else (if t425 = x15 then (some true) else (none))))
end
def laws_FnExactWriteBatch.f (k : Nat) (l0_0 : List (S100)) (a1 : Int) (a2_0 : Int) (a2_1 : Int) (a2_2 : Int) (a2_3 : Int) (l2_4 : List ByteArray) : Option (Bool) := (laws_szDisk.f k l0_0 1048576).bind fun t354 => (if t354 < 0 then (some true) else ((laws_szBatch.f k a2_0 a2_1 a2_2 a2_3 l2_4 t354).bind fun t355 => (if t355 < 0 then (some true) else ((laws_toDisk.f k l0_0).bind fun t356 => ((laws_toBatch.f k a2_0 a2_1 a2_2 a2_3 l2_4).bind fun bt359 => ((spec_WriteBatch.f k t356 a1 bt359.1 bt359.2.1 bt359.2.2.1 bt359.2.2.2.1 bt359.2.2.2.2).bind fun bt366 => ((laws_toDisk.f k l0_0).bind fun t371 => ((laws_toBatch.f k a2_0 a2_1 a2_2 a2_3 l2_4).bind fun bt375 => ((impl_WriteBatch.f k t371 a1 bt375.1 bt375.2.1 bt375.2.2.1 bt375.2.2.2.1 bt375.2.2.2.2).bind fun bt383 => ((laws_eqDisk.f k bt383.1 bt366.1).bind fun t388 => (if t388 = true then (laws_FnExactWriteBatch.j0 k a1 bt366.2 bt383.2 (bt383.2 != bt366.2) l0_0 a2_0 a2_1 a2_2 a2_3 l2_4 bt366.1 t371 bt375.1 bt375.2.1 bt375.2.2.1 bt375.2.2.2.1 bt375.2.2.2.2 bt383.1) else (none))))))))))))
theorem laws_FnExactWriteBatch.mono_l : ∀ k, (∀ y0 y1 y2 y3 y4 y5 y6 y7 y8 y9 y10 y11 y12 y13 y14 y15 y16 y17, LeO (laws_FnExactWriteBatch.j0 k y0 y1 y2 y3 y4 y5 y6 y7 y8 y9 y10 y11 y12 y13 y14 y15 y16 y17) (laws_FnExactWriteBatch.j0 (k + 1) y0 y1 y2 y3 y4 y5 y6 y7 y8 y9 y10 y11 y12 y13 y14 y15 y16 y17)) ∧ (∀ y0 y1 y2 y3 y4 y5 y6 y7 y8 y9 y10, LeO (laws_FnExactWriteBatch.j1 k y0 y1 y2 y3 y4 y5 y6 y7 y8 y9 y10) (laws_FnExactWriteBatch.j1 (k + 1) y0 y1 y2 y3 y4 y5 y6 y7 y8 y9 y10)) ∧ (∀ y0 y1 y2, LeO (laws_FnExactWriteBatch.j2 k y0 y1 y2) (laws_FnExactWriteBatch.j2 (k + 1) y0 y1 y2))
 | 0 => ⟨fun _ _ _ _ _ _ _ _ _ _ _ _ _ _ _ _ _ _ r h => by simp [laws_FnExactWriteBatch.j0] at h, fun _ _ _ _ _ _ _ _ _ _ _ r h => by simp [laws_FnExactWriteBatch.j1] at h, fun _ _ _ r h => by simp [laws_FnExactWriteBatch.j2] at h⟩
 | k + 1 => by
  obtain ⟨ih0, ih1, ih2⟩ := laws_FnExactWriteBatch.mono_l k
  refine ⟨?_, ?_, ?_⟩
  ·intro y0 y1 y2 y3 y4 y5 y6 y7 y8 y9 y10 y11 y12 y13 y14 y15 y16 y17
   unfold laws_FnExactWriteBatch.j0
   repeat' first
   | (with_reducible exact ih0 _ _ _ _ _ _ _ _ _ _ _ _ _ _ _ _ _ _)
   | (with_reducible exact ih1 _ _ _ _ _ _ _ _ _ _ _)
   | (with_reducible exact ih2 _ _ _)
   | (with_reducible exact impl_WriteBatch.mono _ _ _ _ _ _ _ _)
   | (with_reducible exact laws_eqBatch.mono _ _ _ _ _ _ _ _ _ _ _)
   | (with_reducible exact laws_eqDisk.mono _ _ _)
   | (with_reducible exact laws_heldDisk.mono _ _ _)
   | (with_reducible exact laws_markBatch.mono _ _ _ _ _ _ _)
   | (with_reducible exact laws_markDisk.mono _ _ _)
   | (with_reducible exact laws_szBatch.mono _ _ _ _ _ _ _)
   | (with_reducible exact laws_szDisk.mono _ _ _)
   | (with_reducible exact laws_toBatch.mono _ _ _ _ _ _)
   | (with_reducible exact laws_toDisk.mono _ _)
   | (with_reducible exact spec_WriteBatch.mono _ _ _ _ _ _ _ _)
   | (with_reducible exact LeO.refl _)
   | (with_reducible exact LeO.none _)
   | (with_reducible refine LeO.ite ?_ ?_)
   | (with_reducible refine LeO.bind ?_ (fun _ => ?_))
   | exact ih0 _ _ _ _ _ _ _ _ _ _ _ _ _ _ _ _ _ _
   | exact ih1 _ _ _ _ _ _ _ _ _ _ _
   | exact ih2 _ _ _
   | exact impl_WriteBatch.mono _ _ _ _ _ _ _ _
   | exact laws_eqBatch.mono _ _ _ _ _ _ _ _ _ _ _
   | exact laws_eqDisk.mono _ _ _
   | exact laws_heldDisk.mono _ _ _
   | exact laws_markBatch.mono _ _ _ _ _ _ _
   | exact laws_markDisk.mono _ _ _
   | exact laws_szBatch.mono _ _ _ _ _ _ _
   | exact laws_szDisk.mono _ _ _
   | exact laws_toBatch.mono _ _ _ _ _ _
   | exact laws_toDisk.mono _ _
   | exact spec_WriteBatch.mono _ _ _ _ _ _ _ _
   | exact LeO.none _
   | refine LeO.ite ?_ ?_
   | refine LeO.bind ?_ (fun _ => ?_)
  ·intro y0 y1 y2 y3 y4 y5 y6 y7 y8 y9 y10
   unfold laws_FnExactWriteBatch.j1
   repeat' first
   | (with_reducible exact ih0 _ _ _ _ _ _ _ _ _ _ _ _ _ _ _ _ _ _)
   | (with_reducible exact ih1 _ _ _ _ _ _ _ _ _ _ _)
   | (with_reducible exact ih2 _ _ _)
   | (with_reducible exact impl_WriteBatch.mono _ _ _ _ _ _ _ _)
   | (with_reducible exact laws_eqBatch.mono _ _ _ _ _ _ _ _ _ _ _)
   | (with_reducible exact laws_eqDisk.mono _ _ _)
   | (with_reducible exact laws_heldDisk.mono _ _ _)
   | (with_reducible exact laws_markBatch.mono _ _ _ _ _ _ _)
   | (with_reducible exact laws_markDisk.mono _ _ _)
   | (with_reducible exact laws_szBatch.mono _ _ _ _ _ _ _)
   | (with_reducible exact laws_szDisk.mono _ _ _)
   | (with_reducible exact laws_toBatch.mono _ _ _ _ _ _)
   | (with_reducible exact laws_toDisk.mono _ _)
   | (with_reducible exact spec_WriteBatch.mono _ _ _ _ _ _ _ _)
   | (with_reducible exact LeO.refl _)
   | (with_reducible exact LeO.none _)
   | (with_reducible refine LeO.ite ?_ ?_)
   | (with_reducible refine LeO.bind ?_ (fun _ => ?_))
   | exact ih0 _ _ _ _ _ _ _ _ _ _ _ _ _ _ _ _ _ _
   | exact ih1 _ _ _ _ _ _ _ _ _ _ _
   | exact ih2 _ _ _
   | exact impl_WriteBatch.mono _ _ _ _ _ _ _ _
   | exact laws_eqBatch.mono _ _ _ _ _ _ _ _ _ _ _
   | exact laws_eqDisk.mono _ _ _
   | exact laws_heldDisk.mono _ _ _
   | exact laws_markBatch.mono _ _ _ _ _ _ _
   | exact laws_markDisk.mono _ _ _
   | exact laws_szBatch.mono _ _ _ _ _ _ _
   | exact laws_szDisk.mono _ _ _
   | exact laws_toBatch.mono _ _ _ _ _ _
   | exact laws_toDisk.mono _ _
   | exact spec_WriteBatch.mono _ _ _ _ _ _ _ _
   | exact LeO.none _
   | refine LeO.ite ?_ ?_
   | refine LeO.bind ?_ (fun _ => ?_)
  ·intro y0 y1 y2
   unfold laws_FnExactWriteBatch.j2
   repeat' first
   | (with_reducible exact ih0 _ _ _ _ _ _ _ _ _ _ _ _ _ _ _ _ _ _)
   | (with_reducible exact ih1 _ _ _ _ _ _ _ _ _ _ _)
   | (with_reducible exact ih2 _ _ _)
   | (with_reducible exact impl_WriteBatch.mono _ _ _ _ _ _ _ _)
   | (with_reducible exact laws_eqBatch.mono _ _ _ _ _ _ _ _ _ _ _)
   | (with_reducible exact laws_eqDisk.mono _ _ _)
   | (with_reducible exact laws_heldDisk.mono _ _ _)
   | (with_reducible exact laws_markBatch.mono _ _ _ _ _ _ _)
   | (with_reducible exact laws_markDisk.mono _ _ _)
   | (with_reducible exact laws_szBatch.mono _ _ _ _ _ _ _)
   | (with_reducible exact laws_szDisk.mono _ _ _)
   | (with_reducible exact laws_toBatch.mono _ _ _ _ _ _)
   | (with_reducible exact laws_toDisk.mono _ _)
   | (with_reducible exact spec_WriteBatch.mono _ _ _ _ _ _ _ _)
   | (with_reducible exact LeO.refl _)
   | (with_reducible exact LeO.none _)
   | (with_reducible refine LeO.ite ?_ ?_)
   | (with_reducible refine LeO.bind ?_ (fun _ => ?_))
   | exact ih0 _ _ _ _ _ _ _ _ _ _ _ _ _ _ _ _ _ _
   | exact ih1 _ _ _ _ _ _ _ _ _ _ _
   | exact ih2 _ _ _
   | exact impl_WriteBatch.mono _ _ _ _ _ _ _ _
   | exact laws_eqBatch.mono _ _ _ _ _ _ _ _ _ _ _
   | exact laws_eqDisk.mono _ _ _
   | exact laws_heldDisk.mono _ _ _
   | exact laws_markBatch.mono _ _ _ _ _ _ _
   | exact laws_markDisk.mono _ _ _
   | exact laws_szBatch.mono _ _ _ _ _ _ _
   | exact laws_szDisk.mono _ _ _
   | exact laws_toBatch.mono _ _ _ _ _ _
   | exact laws_toDisk.mono _ _
   | exact spec_WriteBatch.mono _ _ _ _ _ _ _ _
   | exact LeO.none _
   | refine LeO.ite ?_ ?_
   | refine LeO.bind ?_ (fun _ => ?_)
theorem laws_FnExactWriteBatch.mono : ∀ a0 a1 a2 a3 a4 a5 a6 k, LeO (laws_FnExactWriteBatch.f k a0 a1 a2 a3 a4 a5 a6) (laws_FnExactWriteBatch.f (k + 1) a0 a1 a2 a3 a4 a5 a6) := by
 intro a0 a1 a2 a3 a4 a5 a6 k
 obtain ⟨ih0, ih1, ih2⟩ := laws_FnExactWriteBatch.mono_l k
 unfold laws_FnExactWriteBatch.f
 repeat' first
   | (with_reducible exact ih0 _ _ _ _ _ _ _ _ _ _ _ _ _ _ _ _ _ _)
   | (with_reducible exact ih1 _ _ _ _ _ _ _ _ _ _ _)
   | (with_reducible exact ih2 _ _ _)
   | (with_reducible exact impl_WriteBatch.mono _ _ _ _ _ _ _ _)
   | (with_reducible exact laws_eqBatch.mono _ _ _ _ _ _ _ _ _ _ _)
   | (with_reducible exact laws_eqDisk.mono _ _ _)
   | (with_reducible exact laws_heldDisk.mono _ _ _)
   | (with_reducible exact laws_markBatch.mono _ _ _ _ _ _ _)
   | (with_reducible exact laws_markDisk.mono _ _ _)
   | (with_reducible exact laws_szBatch.mono _ _ _ _ _ _ _)
   | (with_reducible exact laws_szDisk.mono _ _ _)
   | (with_reducible exact laws_toBatch.mono _ _ _ _ _ _)
   | (with_reducible exact laws_toDisk.mono _ _)
   | (with_reducible exact spec_WriteBatch.mono _ _ _ _ _ _ _ _)
   | (with_reducible exact LeO.refl _)
   | (with_reducible exact LeO.none _)
   | (with_reducible refine LeO.ite ?_ ?_)
   | (with_reducible refine LeO.bind ?_ (fun _ => ?_))
   | exact ih0 _ _ _ _ _ _ _ _ _ _ _ _ _ _ _ _ _ _
   | exact ih1 _ _ _ _ _ _ _ _ _ _ _
   | exact ih2 _ _ _
   | exact impl_WriteBatch.mono _ _ _ _ _ _ _ _
   | exact laws_eqBatch.mono _ _ _ _ _ _ _ _ _ _ _
   | exact laws_eqDisk.mono _ _ _
   | exact laws_heldDisk.mono _ _ _
   | exact laws_markBatch.mono _ _ _ _ _ _ _
   | exact laws_markDisk.mono _ _ _
   | exact laws_szBatch.mono _ _ _ _ _ _ _
   | exact laws_szDisk.mono _ _ _
   | exact laws_toBatch.mono _ _ _ _ _ _
   | exact laws_toDisk.mono _ _
   | exact spec_WriteBatch.mono _ _ _ _ _ _ _ _
   | exact LeO.none _
   | refine LeO.ite ?_ ?_
   | refine LeO.bind ?_ (fun _ => ?_)
def laws_FnExactWriteBatch.T8 : Bool × List (List Nat × List Nat) := (true, [([], []), ([0], [0]), ([], []), ([], []), ([3, 1], [3]), ([1, 2, 4, 4], [1, 2, 4]), ([5], [5]), ([6], [6]), ([6], [6]), ([], []), ([9, 7, 5, 0, 1, 2, 3, 4, 5, 6, 7, 9], [7, 9]), ([8, 10, 0, 1, 2, 3, 4, 5, 6, 7, 8, 9, 10], [8])])
def laws_FnExactWriteBatch.B8 : List Nat := [0, 1, 0, 0, 11, 31, 63, 127, 127, 0, 767, 2047]
theorem laws_FnExactWriteBatch.tab8 : rtab .any (opsOf Try.f4 8) = laws_FnExactWriteBatch.T8 := by kernel_rfl
theorem laws_FnExactWriteBatch.bits8 : waitsOk laws_FnExactWriteBatch.T8.2 laws_FnExactWriteBatch.B8 = true := by kernel_rfl
def laws_FnExactWriteBatch.T31 : Bool × List (List Nat × List Nat) := (true, [([], []), ([0], [0]), ([], []), ([], []), ([3, 1], [3]), ([1, 2, 4, 4], [1, 2, 4]), ([5], [5]), ([6], [6]), ([6], [6]), ([], []), ([9, 7, 5, 0, 1, 2, 3, 4, 5, 6, 7, 9], [7, 9]), ([8, 10, 0, 1, 2, 3, 4, 5, 6, 7, 8, 9, 10], [8])])
def laws_FnExactWriteBatch.B31 : List Nat := [0, 1, 0, 0, 11, 31, 63, 127, 127, 0, 767, 2047]
theorem laws_FnExactWriteBatch.tab31 : rtab .any (opsOf Try.f4 31) = laws_FnExactWriteBatch.T31 := by kernel_rfl
theorem laws_FnExactWriteBatch.bits31 : waitsOk laws_FnExactWriteBatch.T31.2 laws_FnExactWriteBatch.B31 = true := by kernel_rfl
set_option maxHeartbeats 8000000 in
set_option maxRecDepth 100000 in
theorem laws_FnExactWriteBatch.calls (k : Nat) (A0_0 : Option Addr) (c0_0 : Nat) (l0_0 : List (S100)) (a1 : Int) (a2_0 : Int) (a2_1 : Int) (a2_2 : Int) (a2_3 : Int) (A2_4 : Option Addr) (c2_4 : Nat) (l2_4 : List ByteArray) (r : Bool) (w : World) (hr0_0 : Kd.C k100 w A0_0 l0_0.length l0_0) (hc0_0 : l0_0.length ≤ c0_0) (hr2_4 : Kd.C Kd.string w A2_4 l2_4.length l2_4) (hc2_4 : l2_4.length ≤ c2_4) (h : laws_FnExactWriteBatch.f k l0_0 a1 a2_0 a2_1 a2_2 a2_3 l2_4 = some r) :
  Calls Try.prog 4 #[.agg #[.slice A0_0 l0_0.length c0_0], .int .i64 a1, .agg #[.int .i64 a2_0, .int .i64 a2_1, .int .i64 a2_2, .int .i64 a2_3, .slice A2_4 l2_4.length c2_4]] w fun e w' => e = .returned (.bool r) ∧ Below w.heap.size w w' := by
 have hu24 := Try.underlying24
 have hu40 := Try.underlying40
 have hu31 := Try.underlying31
 have hu44 := Try.underlying44
 have HR0_0 := Aside0.mk hr0_0
 have HC0_0 := Aside0.mk hc0_0
 clear hr0_0 hc0_0
 have HR2_4 := Aside0.mk hr2_4
 have HC2_4 := Aside0.mk hc2_4
 clear hr2_4 hc2_4
 have HB := Aside0.mk (Below.refl w.heap.size w)
 have H : ((laws_szDisk.f k l0_0 1048576).bind fun t354 => (if t354 < 0 then (some true) else ((laws_szBatch.f k a2_0 a2_1 a2_2 a2_3 l2_4 t354).bind fun t355 => (if t355 < 0 then (some true) else ((laws_toDisk.f k l0_0).bind fun t356 => ((laws_toBatch.f k a2_0 a2_1 a2_2 a2_3 l2_4).bind fun bt359 => ((spec_WriteBatch.f k t356 a1 bt359.1 bt359.2.1 bt359.2.2.1 bt359.2.2.2.1 bt359.2.2.2.2).bind fun bt366 => ((laws_toDisk.f k l0_0).bind fun t371 => ((laws_toBatch.f k a2_0 a2_1 a2_2 a2_3 l2_4).bind fun bt375 => ((impl_WriteBatch.f k t371 a1 bt375.1 bt375.2.1 bt375.2.2.1 bt375.2.2.2.1 bt375.2.2.2.2).bind fun bt383 => ((laws_eqDisk.f k bt383.1 bt366.1).bind fun t388 => (if t388 = true then (laws_FnExactWriteBatch.j0 k a1 bt366.2 bt383.2 (bt383.2 != bt366.2) l0_0 a2_0 a2_1 a2_2 a2_3 l2_4 bt366.1 t371 bt375.1 bt375.2.1 bt375.2.2.1 bt375.2.2.2.1 bt375.2.2.2.2 bt383.1) else (none))))))))))))) = some r := h
 clear h
 replace H := bnd_ H
 obtain ⟨t354, A4, H⟩ := H
 replace H := ite_ H
 obtain ⟨c5, H⟩ | ⟨c5, H⟩ := H
 ·have c5b0 := decide_eq_true c5
  clear c5
  obtain rfl := Option.some.inj H
  go_enter Try.func4, Try.ntmps4
  go_wp2_with (first | ((with_reducible refine gate_dst (N := 3) rfl ?_); refine be_ (N := 3) #[.slice A0_0 l0_0.length c0_0] 24 ?_; intro gb352 hg w6 hbox hb; have BK352 := Aside0.mk (hbox); have GW352 := ge_ hg; have GE352 := ge_ hg; replace HB := nb_ hb; clear hb hbox hg) | ((with_reducible refine gate_dst (N := 5) rfl ?_); refine be_ (N := 5) #[.int .i64 a2_0, .int .i64 a2_1, .int .i64 a2_2, .int .i64 a2_3, .slice A2_4 l2_4.length c2_4] 40 ?_; intro gb353 hg w7 hbox hb; have BK353 := Aside0.mk (hbox); have GW353 := ge1_ hg GE352; have GE353 := ge1_ hg GE352; replace HB := nc_ GE352 hb; have NB352_353 := nl_ BK352 hg; have NB353_352 := ng_ BK352 hg; replace BK352 := bK_ BK352 hb; clear hb hbox hg; have hnb8 := NB352_353.out; have hnc8 := NB353_352.out; obtain ⟨hcz9_0, hfz9_0⟩ := cf1_ BK352.out) | ((with_reducible refine gate_callee (f := 8) rfl ?_); refine gl_ 21 Try.func8 #[.agg #[.slice A0_0 l0_0.length c0_0], .int .i64 1048576] rfl ma_ ?_; (with_reducible refine (laws_szDisk.calls k _ _ l0_0 1048576 t354 _ ?side1 ?side2 A4.out).mono ?_); (case side1 => exact cs_ ((Kd.C_below HR0_0.out HB.out))); (case side2 => exact HC0_0.out); rintro e w10 ⟨rfl, hb⟩; refine ⟨_, rfl, ?_⟩; replace BK352 := bK_ BK352 hb; replace BK353 := bK_ BK353 hb; replace HB := nc2_ GE352 GE353 hb; (try clear hb); (try clear hb2); (try clear hk); (try clear hi)))
  go_ret
  exact ⟨er_, hs2_ GE352.out GE353.out⟩
 have c5b0 := decide_eq_false c5
 clear c5
 replace H := bnd_ H
 obtain ⟨t355, A11, H⟩ := H
 replace H := ite_ H
 obtain ⟨c12, H⟩ | ⟨c12, H⟩ := H
 ·have c12b0 := decide_eq_true c12
  clear c12
  obtain rfl := Option.some.inj H
  go_enter Try.func4, Try.ntmps4
  go_wp2_with (first | ((with_reducible refine gate_dst (N := 3) rfl ?_); refine be_ (N := 3) #[.slice A0_0 l0_0.length c0_0] 24 ?_; intro gb352 hg w13 hbox hb; have BK352 := Aside0.mk (hbox); have GW352 := ge_ hg; have GE352 := ge_ hg; replace HB := nb_ hb; clear hb hbox hg) | ((with_reducible refine gate_dst (N := 5) rfl ?_); refine be_ (N := 5) #[.int .i64 a2_0, .int .i64 a2_1, .int .i64 a2_2, .int .i64 a2_3, .slice A2_4 l2_4.length c2_4] 40 ?_; intro gb353 hg w14 hbox hb; have BK353 := Aside0.mk (hbox); have GW353 := ge1_ hg GE352; have GE353 := ge1_ hg GE352; replace HB := nc_ GE352 hb; have NB352_353 := nl_ BK352 hg; have NB353_352 := ng_ BK352 hg; replace BK352 := bK_ BK352 hb; clear hb hbox hg; have hnb15 := NB352_353.out; have hnc15 := NB353_352.out; obtain ⟨hcz16_0, hfz16_0⟩ := cf1_ BK352.out) | ((with_reducible refine gate_callee (f := 8) rfl ?_); refine gl_ 21 Try.func8 #[.agg #[.slice A0_0 l0_0.length c0_0], .int .i64 1048576] rfl ma_ ?_; (with_reducible refine (laws_szDisk.calls k _ _ l0_0 1048576 t354 _ ?side1 ?side2 A4.out).mono ?_); (case side1 => exact cs_ ((Kd.C_below HR0_0.out HB.out))); (case side2 => exact HC0_0.out); rintro e w17 ⟨rfl, hb⟩; refine ⟨_, rfl, ?_⟩; replace BK352 := bK_ BK352 hb; replace BK353 := bK_ BK353 hb; replace HB := nc2_ GE352 GE353 hb; (try clear hb); (try clear hb2); (try clear hk); (try clear hi); obtain ⟨hcz18_0, hcz18_1, hcz18_2, hcz18_3, hcz18_4, hfz18_0, hfz18_1, hfz18_2, hfz18_3, hfz18_4⟩ := cf5_ BK353.out) | ((with_reducible refine gate_callee (f := 17) rfl ?_); refine gl_ 26 Try.func17 #[.agg #[.int .i64 a2_0, .int .i64 a2_1, .int .i64 a2_2, .int .i64 a2_3, .slice A2_4 l2_4.length c2_4], .int .i64 t354] rfl ma_ ?_; (with_reducible refine (laws_szBatch.calls k a2_0 a2_1 a2_2 a2_3 _ _ l2_4 t354 t355 _ ?side1 ?side2 A11.out).mono ?_); (case side1 => exact cs_ ((Kd.C_below HR2_4.out HB.out))); (case side2 => exact HC2_4.out); rintro e w19 ⟨rfl, hb⟩; refine ⟨_, rfl, ?_⟩; replace BK352 := bK_ BK352 hb; replace BK353 := bK_ BK353 hb; replace HB := nc2_ GE352 GE353 hb; (try clear hb); (try clear hb2); (try clear hk); (try clear hi)))
  go_ret
  exact ⟨er_, hs2_ GE352.out GE353.out⟩
 have c12b0 := decide_eq_false c12
 clear c12
 replace H := bnd_ H
 obtain ⟨t356, A20, H⟩ := H
 replace H := bnd_ H
 obtain ⟨⟨t359, t360, t361, t362, t363⟩, A21, H⟩ := H
 replace H := red_ H
 replace H := bnd_ H
 obtain ⟨⟨t366, t369⟩, A22, H⟩ := H
 replace H := red_ H
 replace H := bnd_ H
 obtain ⟨t371, A23, H⟩ := H
 replace H := bnd_ H
 obtain ⟨⟨t375, t376, t377, t378, t379⟩, A24, H⟩ := H
 replace H := red_ H
 replace H := bnd_ H
 obtain ⟨⟨t383, t386⟩, A25, H⟩ := H
 replace H := red_ H
 have HC26 := Aside0.mk H
 clear H
 go_enter Try.func4, Try.ntmps4
 try go_wp2_with (first | ((with_reducible refine gate_dst (N := 3) rfl ?_); refine be_ (N := 3) #[.slice A0_0 l0_0.length c0_0] 24 ?_; intro gb352 hg w27 hbox hb; have BK352 := Aside0.mk (hbox); have GW352 := ge_ hg; have GE352 := ge_ hg; replace HB := nb_ hb; clear hb hbox hg) | ((with_reducible refine gate_dst (N := 5) rfl ?_); refine be_ (N := 5) #[.int .i64 a2_0, .int .i64 a2_1, .int .i64 a2_2, .int .i64 a2_3, .slice A2_4 l2_4.length c2_4] 40 ?_; intro gb353 hg w28 hbox hb; have BK353 := Aside0.mk (hbox); have GW353 := ge1_ hg GE352; have GE353 := ge1_ hg GE352; replace HB := nc_ GE352 hb; have NB352_353 := nl_ BK352 hg; have NB353_352 := ng_ BK352 hg; replace BK352 := bK_ BK352 hb; clear hb hbox hg; have hnb29 := NB352_353.out; have hnc29 := NB353_352.out; obtain ⟨hcz30_0, hfz30_0⟩ := cf1_ BK352.out) | ((with_reducible refine gate_callee (f := 8) rfl ?_); refine gl_ 21 Try.func8 #[.agg #[.slice A0_0 l0_0.length c0_0], .int .i64 1048576] rfl ma_ ?_; (with_reducible refine (laws_szDisk.calls k _ _ l0_0 1048576 t354 _ ?side1 ?side2 A4.out).mono ?_); (case side1 => exact cs_ ((Kd.C_below HR0_0.out HB.out))); (case side2 => exact HC0_0.out); rintro e w31 ⟨rfl, hb⟩; refine ⟨_, rfl, ?_⟩; replace BK352 := bK_ BK352 hb; replace BK353 := bK_ BK353 hb; replace HB := nc2_ GE352 GE353 hb; (try clear hb); (try clear hb2); (try clear hk); (try clear hi); obtain ⟨hcz32_0, hcz32_1, hcz32_2, hcz32_3, hcz32_4, hfz32_0, hfz32_1, hfz32_2, hfz32_3, hfz32_4⟩ := cf5_ BK353.out) | ((with_reducible refine gate_callee (f := 17) rfl ?_); refine gl_ 26 Try.func17 #[.agg #[.int .i64 a2_0, .int .i64 a2_1, .int .i64 a2_2, .int .i64 a2_3, .slice A2_4 l2_4.length c2_4], .int .i64 t354] rfl ma_ ?_; (with_reducible refine (laws_szBatch.calls k a2_0 a2_1 a2_2 a2_3 _ _ l2_4 t354 t355 _ ?side1 ?side2 A11.out).mono ?_); (case side1 => exact cs_ ((Kd.C_below HR2_4.out HB.out))); (case side2 => exact HC2_4.out); rintro e w33 ⟨rfl, hb⟩; refine ⟨_, rfl, ?_⟩; replace BK352 := bK_ BK352 hb; replace BK353 := bK_ BK353 hb; replace HB := nc2_ GE352 GE353 hb; (try clear hb); (try clear hb2); (try clear hk); (try clear hi)))
 replace BK352 := qK_ BK352
 replace BK353 := qK_ BK353
 replace HB := qH_ HB
 refine start_ (n := 12) (S := fun w' => w'.cell? ⟨gb352, 0, none⟩ = some (.slice A0_0 l0_0.length c0_0) ∧ w'.cell? ⟨gb353, 0, none⟩ = some (.int .i64 a2_0) ∧ w'.cell? ⟨gb353, 1, none⟩ = some (.int .i64 a2_1) ∧ w'.cell? ⟨gb353, 2, none⟩ = some (.int .i64 a2_2) ∧ w'.cell? ⟨gb353, 3, none⟩ = some (.int .i64 a2_3) ∧ w'.cell? ⟨gb353, 4, none⟩ = some (.slice A2_4 l2_4.length c2_4)) (ds := []) #[false, false, false, false, false, false, false, false, false, false, false, false] (by kernel_rfl) rfl rfl ⟨(blk_cell BK352.out 0).trans rfl, (blk_cell BK353.out 0).trans rfl, (blk_cell BK353.out 1).trans rfl, (blk_cell BK353.out 2).trans rfl, (blk_cell BK353.out 3).trans rfl, (blk_cell BK353.out 4).trans rfl⟩ (fun hHeld => ?_); refine with_tabW laws_FnExactWriteBatch.tab8 laws_FnExactWriteBatch.bits8 (fun HT_ HW_ => ?_)
 generalize w33.drew = w34 at BK352 BK353 HB hHeld ⊢
 refine pv_ 2 32 ?_
 refine take_ (i := 0) (N := some 30) (v := ?_) (a' := ?_) #[true, false, true, false, false, false, false, false, false, false, false, false] rfl rfl (take_ofW HT_.out HW_.out (by kernel_rfl)) (fun _ _ _ h => h) (Or.inl ⟨by rfl, ?_⟩) hHeld ?_ ?_
 rotate_left
 ·rintro w' ⟨s0, s1, s2, s3, s4, s5⟩
  go_simp
  with_reducible rfl
 rotate_left
 ·simp only [Act.put, List.setIfInBounds_toArray, List.set_cons_zero, List.set_cons_succ, i64_w, i32_w]
  rfl
 refine take_ (i := 3) (N := some 33) (v := ?_) (a' := ?_) #[true, false, true, true, false, false, false, false, false, false, false, false] rfl rfl (take_ofW HT_.out HW_.out (by kernel_rfl)) (fun _ _ _ h => h) (Or.inl ⟨by rfl, ?_⟩) hHeld ?_ ?_
 rotate_left
 ·rintro w' ⟨s0, s1, s2, s3, s4, s5⟩
  go_simp
  with_reducible rfl
 rotate_left
 ·simp only [Act.put, List.setIfInBounds_toArray, List.set_cons_zero, List.set_cons_succ, i64_w, i32_w]
  rfl
 refine join_ (σ := Value × Value × Value × Nat) 2 #[true, true, true, true, true, true, true, true, true, true, false, false] (fun s_ => [(31, .agg #[s_.1]), (34, .agg #[.int .i64 t359, .int .i64 t360, .int .i64 t361, .int .i64 t362, s_.2.1]), (35, .tuple #[.agg #[s_.2.2.1], .bool t369]), (8, .pointer (some ⟨s_.2.2.2, 0, none⟩)), (29, .tuple #[.agg #[s_.2.2.1], .bool t369]), (36, .agg #[s_.2.2.1]), (37, .bool t369)]) (fun s_ w' => (w'.cell? ⟨gb352, 0, none⟩ = some (.slice A0_0 l0_0.length c0_0) ∧ w'.cell? ⟨gb353, 0, none⟩ = some (.int .i64 a2_0) ∧ w'.cell? ⟨gb353, 1, none⟩ = some (.int .i64 a2_1) ∧ w'.cell? ⟨gb353, 2, none⟩ = some (.int .i64 a2_2) ∧ w'.cell? ⟨gb353, 3, none⟩ = some (.int .i64 a2_3) ∧ w'.cell? ⟨gb353, 4, none⟩ = some (.slice A2_4 l2_4.length c2_4)) ∧ (Kd.R k56 56 w' w.heap.size (fun k_ => some k_ ≠ (s_.2.2.1 : Value).ownBlock) s_.1 t356) ∧ (Kd.R Kd.string 9 w' w.heap.size (fun _ => True) s_.2.1 t363) ∧ (Kd.R k56 56 w' w.heap.size (fun k_ => some k_ ≠ (s_.1 : Value).ownBlock) s_.2.2.1 t366) ∧ (w'.heap[gb352]? = some (.cells #[.slice A0_0 l0_0.length c0_0] 24 (0, 0))) ∧ (w'.heap[gb353]? = some (.cells #[.int .i64 a2_0, .int .i64 a2_1, .int .i64 a2_2, .int .i64 a2_3, .slice A2_4 l2_4.length c2_4] 40 (0, 0))) ∧ (w'.heap[s_.2.2.2]? = some (.cells #[.slice none 0 0] 31 (0, 0))) ∧ (w.heap.size ≤ s_.2.2.2) ∧ (w.heap.size ≤ s_.2.2.2) ∧ (gb352 ≠ s_.2.2.2) ∧ (s_.2.2.2 ≠ gb352) ∧ (gb353 ≠ s_.2.2.2) ∧ (s_.2.2.2 ≠ gb353) ∧ (Below w.heap.size w w')) ?_ ?_
 rotate_left
 ·intro hCont
  refine two_ (i := 1) (j := 9) (Ni := some 31) (Nj := some 8) #[true, true, true, true, false, false, false, false, false, false, false, false] #[true, false, true, true, false, false, false, false, false, true, false, false] rfl rfl rfl rfl (two_of HT_.out (by kernel_rfl)) (by decide) (by decide) (fun K hK => ?_) (fun K hK => ?_)
  ·skip
   refine gs_ Try.func10 #[.agg #[.slice A0_0 l0_0.length c0_0]] rfl ma_ ?_
   with_reducible refine (laws_toDisk.calls k _ _ l0_0 t356 _ ?side1 ?side2 A20.out).mono ?_
   (case side1 => exact cs_ ((Kd.C_below HR0_0.out HB.out)))
   (case side2 => exact HC0_0.out)
   rintro e w35 ⟨v357, rfl, ho0, hb⟩
   refine ⟨_, rfl, ?_⟩
   have HO358 := Aside0.mk (Kd.R_lower ho0 (below_size (hs2_ GE352.out GE353.out)))
   replace BK352 := bK_ BK352 hb
   replace BK353 := bK_ BK353 hb
   replace HB := nc2_ GE352 GE353 hb
   (try clear hb)
   (try clear hb2)
   (try clear hk)
   (try clear hi)
   (try clear ho0)
   refine hK.out _ _ ⟨(blk_cell BK352.out 0).trans rfl, (blk_cell BK353.out 0).trans rfl, (blk_cell BK353.out 1).trans rfl, (blk_cell BK353.out 2).trans rfl, (blk_cell BK353.out 3).trans rfl, (blk_cell BK353.out 4).trans rfl⟩ (fun hHeld => ?_)
   clear hK K
   refine no_ ?_
   refine two_ (i := 4) (j := 9) (Ni := some 34) (Nj := some 8) #[true, true, true, true, true, false, false, false, false, false, false, false] #[true, true, true, true, false, false, false, false, false, true, false, false] rfl rfl rfl rfl (two_of HT_.out (by kernel_rfl)) (by decide) (by decide) (fun K hK => ?_) (fun K hK => ?_)
   ·skip
    refine gs_ Try.func19 #[.agg #[.int .i64 a2_0, .int .i64 a2_1, .int .i64 a2_2, .int .i64 a2_3, .slice A2_4 l2_4.length c2_4]] rfl ma_ ?_
    with_reducible refine (laws_toBatch.calls k a2_0 a2_1 a2_2 a2_3 _ _ l2_4 t359 t360 t361 t362 t363 _ ?side1 ?side2 A21.out).mono ?_
    (case side1 => exact cs_ ((Kd.C_below HR2_4.out HB.out)))
    (case side2 => exact HC2_4.out)
    rintro e w36 ⟨v364, rfl, ho0, hb⟩
    refine ⟨_, rfl, ?_⟩
    replace HO358 := rB_ HO358 hb
    have HO365 := Aside0.mk (Kd.R_lower ho0 (below_size (hs2_ GE352.out GE353.out)))
    replace BK352 := bK_ BK352 hb
    replace BK353 := bK_ BK353 hb
    replace HB := nc2_ GE352 GE353 hb
    (try clear hb)
    (try clear hb2)
    (try clear hk)
    (try clear hi)
    (try clear ho0)
    obtain ⟨Ao37, co37, eo37⟩ := Kd.R_slice HO358.out
    (first | subst eo37 | (injection eo37 with f1_ f2_ f3_; have f4_ := f1_.symm; have f5_ := f3_.symm; clear f1_ f2_ f3_; subst f4_; subst f5_))
    obtain ⟨Ao38, co38, eo38⟩ := Kd.R_slice HO365.out
    (first | subst eo38 | (injection eo38 with f1_ f2_ f3_; have f4_ := f1_.symm; have f5_ := f3_.symm; clear f1_ f2_ f3_; subst f4_; subst f5_))
    refine hK.out _ _ ⟨(blk_cell BK352.out 0).trans rfl, (blk_cell BK353.out 0).trans rfl, (blk_cell BK353.out 1).trans rfl, (blk_cell BK353.out 2).trans rfl, (blk_cell BK353.out 3).trans rfl, (blk_cell BK353.out 4).trans rfl⟩ (fun hHeld => ?_)
    clear hK K
    refine no_ ?_
    refine two_ (i := 5) (j := 9) (Ni := some 35) (Nj := some 8) #[true, true, true, true, true, true, false, false, false, false, false, false] #[true, true, true, true, true, false, false, false, false, true, false, false] rfl rfl rfl rfl (two_of HT_.out (by kernel_rfl)) (by decide) (by decide) (fun K hK => ?_) (fun K hK => ?_)
    ·skip
     refine gs_ Try.func18 #[.agg #[.slice Ao37 t356.length co37], .int .i64 a1, .agg #[.int .i64 t359, .int .i64 t360, .int .i64 t361, .int .i64 t362, .slice Ao38 t363.length co38]] rfl ma_ ?_
     with_reducible refine (spec_WriteBatch.calls k _ _ t356 a1 t359 t360 t361 t362 _ _ t363 t366 t369 _ ?side1 ?side2 ?side3 ?side4 A22.out).mono ?_
     (case side1 => exact cs_ ((Kd.R_reads' HO358.out).2.2))
     (case side2 => exact (Kd.R_reads' HO358.out).2.1)
     (case side3 => exact cs_ ((Kd.R_reads' HO365.out).2.2))
     (case side4 => exact (Kd.R_reads' HO365.out).2.1)
     rintro e w39 ⟨v367, rfl, ho0, hb⟩
     refine ⟨_, rfl, ?_⟩
     replace HO365 := rB_ HO365 hb
     have HO368 := Aside0.mk (Kd.R_lower (Kd.R_new' ho0 (Kd.R_lt (kr_ HO358.out))) (below_size (hs2_ GE352.out GE353.out)))
     replace HO358 := Aside0.mk (Kd.R_elder' (kr_ HO358.out) (Kd.R_base ho0) hb)
     replace BK352 := bK_ BK352 hb
     replace BK353 := bK_ BK353 hb
     replace HB := nc2_ GE352 GE353 hb
     (try clear hb)
     (try clear hb2)
     (try clear hk)
     (try clear hi)
     (try clear ho0)
     refine hK.out _ _ ⟨(blk_cell BK352.out 0).trans rfl, (blk_cell BK353.out 0).trans rfl, (blk_cell BK353.out 1).trans rfl, (blk_cell BK353.out 2).trans rfl, (blk_cell BK353.out 3).trans rfl, (blk_cell BK353.out 4).trans rfl⟩ (fun hHeld => ?_)
     clear hK K
     refine no_ ?_
     refine pv_ 6 29 ?_
     refine pv_ 7 36 ?_
     refine pv_ 8 37 ?_
     refine one_ (i := 9) (N := some 8) #[true, true, true, true, true, true, true, true, true, true, false, false] rfl rfl (one_of HT_.out (by kernel_rfl)) (by decide) (fun K hK => ?_)
     refine bs_ (N := 8) #[.slice none 0 0] 31 ?_
     intro gb370 hg w40 hbox hb
     replace HO358 := rB_ HO358 hb
     replace HO365 := rB_ HO365 hb
     replace HO368 := rB_ HO368 hb
     have BK370 := Aside0.mk (hbox)
     have GW370 := ge2_ hg GE352 GE353
     have GE370 := ge2_ hg GE352 GE353
     replace HB := nc2_ GE352 GE353 hb
     have NB352_370 := nl_ BK352 hg
     have NB370_352 := ng_ BK352 hg
     replace BK352 := bK_ BK352 hb
     have NB353_370 := nl_ BK353 hg
     have NB370_353 := ng_ BK353 hg
     replace BK353 := bK_ BK353 hb
     clear hb hbox hg
     refine hK.out _ _ ⟨(blk_cell BK352.out 0).trans rfl, (blk_cell BK353.out 0).trans rfl, (blk_cell BK353.out 1).trans rfl, (blk_cell BK353.out 2).trans rfl, (blk_cell BK353.out 3).trans rfl, (blk_cell BK353.out 4).trans rfl⟩ (fun hHeld => ?_)
     clear hK K
     refine no_ ?_
     exact norm_ (by simp only [putAll, Act.put, List.setIfInBounds_toArray, List.set_cons_zero, List.set_cons_succ]) (hCont (.slice Ao37 t356.length co37, .slice Ao38 t363.length co38, v367, gb370) _ ⟨hHeld, (by (with_reducible repeat (first | apply Kd.R_alloc | apply Kd.R_drewN | apply Kd.R_drew)); exact Kd.R_mono HO358.out (fun _ hk => hk.2)), (kr_ HO365.out), (by (with_reducible repeat (first | apply Kd.R_alloc | apply Kd.R_drewN | apply Kd.R_drew)); exact Kd.R_mono HO368.out (fun _ hk => hk.2)), (kb_ BK352.out), (kb_ BK353.out), (kb_ BK370.out), GW370.out, GE370.out, NB352_370.out, NB370_352.out, NB353_370.out, NB370_353.out, (hs3_ GE352.out GE353.out GE370.out)⟩)
    ·skip
     refine bs_ (N := 8) #[.slice none 0 0] 31 ?_
     intro gb370 hg w37 hbox hb
     replace HO358 := rB_ HO358 hb
     replace HO365 := rB_ HO365 hb
     have BK370 := Aside0.mk (hbox)
     have GW370 := ge2_ hg GE352 GE353
     have GE370 := ge2_ hg GE352 GE353
     replace HB := nc2_ GE352 GE353 hb
     have NB352_370 := nl_ BK352 hg
     have NB370_352 := ng_ BK352 hg
     replace BK352 := bK_ BK352 hb
     have NB353_370 := nl_ BK353 hg
     have NB370_353 := ng_ BK353 hg
     replace BK353 := bK_ BK353 hb
     clear hb hbox hg
     obtain ⟨Ao38, co38, eo38⟩ := Kd.R_slice HO358.out
     (first | subst eo38 | (injection eo38 with f1_ f2_ f3_; have f4_ := f1_.symm; have f5_ := f3_.symm; clear f1_ f2_ f3_; subst f4_; subst f5_))
     obtain ⟨Ao39, co39, eo39⟩ := Kd.R_slice HO365.out
     (first | subst eo39 | (injection eo39 with f1_ f2_ f3_; have f4_ := f1_.symm; have f5_ := f3_.symm; clear f1_ f2_ f3_; subst f4_; subst f5_))
     refine hK.out _ _ ⟨(blk_cell BK352.out 0).trans rfl, (blk_cell BK353.out 0).trans rfl, (blk_cell BK353.out 1).trans rfl, (blk_cell BK353.out 2).trans rfl, (blk_cell BK353.out 3).trans rfl, (blk_cell BK353.out 4).trans rfl⟩ (fun hHeld => ?_)
     clear hK K
     refine no_ ?_
     refine one_ (i := 5) (N := some 35) #[true, true, true, true, true, true, false, false, false, true, false, false] rfl rfl (one_of HT_.out (by kernel_rfl)) (by decide) (fun K hK => ?_)
     refine gs_ Try.func18 #[.agg #[.slice Ao38 t356.length co38], .int .i64 a1, .agg #[.int .i64 t359, .int .i64 t360, .int .i64 t361, .int .i64 t362, .slice Ao39 t363.length co39]] rfl ma_ ?_
     with_reducible refine (spec_WriteBatch.calls k _ _ t356 a1 t359 t360 t361 t362 _ _ t363 t366 t369 _ ?side1 ?side2 ?side3 ?side4 A22.out).mono ?_
     (case side1 => exact cs_ ((Kd.R_reads' HO358.out).2.2))
     (case side2 => exact (Kd.R_reads' HO358.out).2.1)
     (case side3 => exact cs_ ((Kd.R_reads' HO365.out).2.2))
     (case side4 => exact (Kd.R_reads' HO365.out).2.1)
     rintro e w40 ⟨v367, rfl, ho0, hb⟩
     refine ⟨_, rfl, ?_⟩
     replace HO365 := rB_ HO365 hb
     have HO368 := Aside0.mk (Kd.R_lower (Kd.R_new' ho0 (Kd.R_lt (kr_ HO358.out))) (below_size (hs3_ GE352.out GE353.out GE370.out)))
     replace HO358 := Aside0.mk (Kd.R_elder' (kr_ HO358.out) (Kd.R_base ho0) hb)
     replace BK352 := bK_ BK352 hb
     replace BK353 := bK_ BK353 hb
     replace BK370 := bK_ BK370 hb
     replace HB := nc3_ GE352 GE353 GE370 hb
     (try clear hb)
     (try clear hb2)
     (try clear hk)
     (try clear hi)
     (try clear ho0)
     refine hK.out _ _ ⟨(blk_cell BK352.out 0).trans rfl, (blk_cell BK353.out 0).trans rfl, (blk_cell BK353.out 1).trans rfl, (blk_cell BK353.out 2).trans rfl, (blk_cell BK353.out 3).trans rfl, (blk_cell BK353.out 4).trans rfl⟩ (fun hHeld => ?_)
     clear hK K
     refine no_ ?_
     refine pv_ 6 29 ?_
     refine pv_ 7 36 ?_
     refine pv_ 8 37 ?_
     exact norm_ (by simp only [putAll, Act.put, List.setIfInBounds_toArray, List.set_cons_zero, List.set_cons_succ]) (hCont (.slice Ao38 t356.length co38, .slice Ao39 t363.length co39, v367, gb370) _ ⟨hHeld, (by (with_reducible repeat (first | apply Kd.R_alloc | apply Kd.R_drewN | apply Kd.R_drew)); exact Kd.R_mono HO358.out (fun _ hk => hk.2)), (kr_ HO365.out), (by (with_reducible repeat (first | apply Kd.R_alloc | apply Kd.R_drewN | apply Kd.R_drew)); exact Kd.R_mono HO368.out (fun _ hk => hk.2)), (kb_ BK352.out), (kb_ BK353.out), (kb_ BK370.out), GW370.out, GE370.out, NB352_370.out, NB370_352.out, NB353_370.out, NB370_353.out, (hs3_ GE352.out GE353.out GE370.out)⟩)
   ·skip
    refine bs_ (N := 8) #[.slice none 0 0] 31 ?_
    intro gb370 hg w36 hbox hb
    replace HO358 := rB_ HO358 hb
    have BK370 := Aside0.mk (hbox)
    have GW370 := ge2_ hg GE352 GE353
    have GE370 := ge2_ hg GE352 GE353
    replace HB := nc2_ GE352 GE353 hb
    have NB352_370 := nl_ BK352 hg
    have NB370_352 := ng_ BK352 hg
    replace BK352 := bK_ BK352 hb
    have NB353_370 := nl_ BK353 hg
    have NB370_353 := ng_ BK353 hg
    replace BK353 := bK_ BK353 hb
    clear hb hbox hg
    refine hK.out _ _ ⟨(blk_cell BK352.out 0).trans rfl, (blk_cell BK353.out 0).trans rfl, (blk_cell BK353.out 1).trans rfl, (blk_cell BK353.out 2).trans rfl, (blk_cell BK353.out 3).trans rfl, (blk_cell BK353.out 4).trans rfl⟩ (fun hHeld => ?_)
    clear hK K
    refine no_ ?_
    refine one_ (i := 4) (N := some 34) #[true, true, true, true, true, false, false, false, false, true, false, false] rfl rfl (one_of HT_.out (by kernel_rfl)) (by decide) (fun K hK => ?_)
    refine gs_ Try.func19 #[.agg #[.int .i64 a2_0, .int .i64 a2_1, .int .i64 a2_2, .int .i64 a2_3, .slice A2_4 l2_4.length c2_4]] rfl ma_ ?_
    with_reducible refine (laws_toBatch.calls k a2_0 a2_1 a2_2 a2_3 _ _ l2_4 t359 t360 t361 t362 t363 _ ?side1 ?side2 A21.out).mono ?_
    (case side1 => exact cs_ ((Kd.C_below HR2_4.out HB.out)))
    (case side2 => exact HC2_4.out)
    rintro e w37 ⟨v364, rfl, ho0, hb⟩
    refine ⟨_, rfl, ?_⟩
    replace HO358 := rB_ HO358 hb
    have HO365 := Aside0.mk (Kd.R_lower ho0 (below_size (hs3_ GE352.out GE353.out GE370.out)))
    replace BK352 := bK_ BK352 hb
    replace BK353 := bK_ BK353 hb
    replace BK370 := bK_ BK370 hb
    replace HB := nc3_ GE352 GE353 GE370 hb
    (try clear hb)
    (try clear hb2)
    (try clear hk)
    (try clear hi)
    (try clear ho0)
    obtain ⟨Ao38, co38, eo38⟩ := Kd.R_slice HO358.out
    (first | subst eo38 | (injection eo38 with f1_ f2_ f3_; have f4_ := f1_.symm; have f5_ := f3_.symm; clear f1_ f2_ f3_; subst f4_; subst f5_))
    obtain ⟨Ao39, co39, eo39⟩ := Kd.R_slice HO365.out
    (first | subst eo39 | (injection eo39 with f1_ f2_ f3_; have f4_ := f1_.symm; have f5_ := f3_.symm; clear f1_ f2_ f3_; subst f4_; subst f5_))
    refine hK.out _ _ ⟨(blk_cell BK352.out 0).trans rfl, (blk_cell BK353.out 0).trans rfl, (blk_cell BK353.out 1).trans rfl, (blk_cell BK353.out 2).trans rfl, (blk_cell BK353.out 3).trans rfl, (blk_cell BK353.out 4).trans rfl⟩ (fun hHeld => ?_)
    clear hK K
    refine no_ ?_
    refine one_ (i := 5) (N := some 35) #[true, true, true, true, true, true, false, false, false, true, false, false] rfl rfl (one_of HT_.out (by kernel_rfl)) (by decide) (fun K hK => ?_)
    refine gs_ Try.func18 #[.agg #[.slice Ao38 t356.length co38], .int .i64 a1, .agg #[.int .i64 t359, .int .i64 t360, .int .i64 t361, .int .i64 t362, .slice Ao39 t363.length co39]] rfl ma_ ?_
    with_reducible refine (spec_WriteBatch.calls k _ _ t356 a1 t359 t360 t361 t362 _ _ t363 t366 t369 _ ?side1 ?side2 ?side3 ?side4 A22.out).mono ?_
    (case side1 => exact cs_ ((Kd.R_reads' HO358.out).2.2))
    (case side2 => exact (Kd.R_reads' HO358.out).2.1)
    (case side3 => exact cs_ ((Kd.R_reads' HO365.out).2.2))
    (case side4 => exact (Kd.R_reads' HO365.out).2.1)
    rintro e w40 ⟨v367, rfl, ho0, hb⟩
    refine ⟨_, rfl, ?_⟩
    replace HO365 := rB_ HO365 hb
    have HO368 := Aside0.mk (Kd.R_lower (Kd.R_new' ho0 (Kd.R_lt (kr_ HO358.out))) (below_size (hs3_ GE352.out GE353.out GE370.out)))
    replace HO358 := Aside0.mk (Kd.R_elder' (kr_ HO358.out) (Kd.R_base ho0) hb)
    replace BK352 := bK_ BK352 hb
    replace BK353 := bK_ BK353 hb
    replace BK370 := bK_ BK370 hb
    replace HB := nc3_ GE352 GE353 GE370 hb
    (try clear hb)
    (try clear hb2)
    (try clear hk)
    (try clear hi)
    (try clear ho0)
    refine hK.out _ _ ⟨(blk_cell BK352.out 0).trans rfl, (blk_cell BK353.out 0).trans rfl, (blk_cell BK353.out 1).trans rfl, (blk_cell BK353.out 2).trans rfl, (blk_cell BK353.out 3).trans rfl, (blk_cell BK353.out 4).trans rfl⟩ (fun hHeld => ?_)
    clear hK K
    refine no_ ?_
    refine pv_ 6 29 ?_
    refine pv_ 7 36 ?_
    refine pv_ 8 37 ?_
    exact norm_ (by simp only [putAll, Act.put, List.setIfInBounds_toArray, List.set_cons_zero, List.set_cons_succ]) (hCont (.slice Ao38 t356.length co38, .slice Ao39 t363.length co39, v367, gb370) _ ⟨hHeld, (by (with_reducible repeat (first | apply Kd.R_alloc | apply Kd.R_drewN | apply Kd.R_drew)); exact Kd.R_mono HO358.out (fun _ hk => hk.2)), (kr_ HO365.out), (by (with_reducible repeat (first | apply Kd.R_alloc | apply Kd.R_drewN | apply Kd.R_drew)); exact Kd.R_mono HO368.out (fun _ hk => hk.2)), (kb_ BK352.out), (kb_ BK353.out), (kb_ BK370.out), GW370.out, GE370.out, NB352_370.out, NB370_352.out, NB353_370.out, NB370_353.out, (hs3_ GE352.out GE353.out GE370.out)⟩)
  ·skip
   refine bs_ (N := 8) #[.slice none 0 0] 31 ?_
   intro gb370 hg w35 hbox hb
   have BK370 := Aside0.mk (hbox)
   have GW370 := ge2_ hg GE352 GE353
   have GE370 := ge2_ hg GE352 GE353
   replace HB := nc2_ GE352 GE353 hb
   have NB352_370 := nl_ BK352 hg
   have NB370_352 := ng_ BK352 hg
   replace BK352 := bK_ BK352 hb
   have NB353_370 := nl_ BK353 hg
   have NB370_353 := ng_ BK353 hg
   replace BK353 := bK_ BK353 hb
   clear hb hbox hg
   refine hK.out _ _ ⟨(blk_cell BK352.out 0).trans rfl, (blk_cell BK353.out 0).trans rfl, (blk_cell BK353.out 1).trans rfl, (blk_cell BK353.out 2).trans rfl, (blk_cell BK353.out 3).trans rfl, (blk_cell BK353.out 4).trans rfl⟩ (fun hHeld => ?_)
   clear hK K
   refine no_ ?_
   refine one_ (i := 1) (N := some 31) #[true, true, true, true, false, false, false, false, false, true, false, false] rfl rfl (one_of HT_.out (by kernel_rfl)) (by decide) (fun K hK => ?_)
   refine gs_ Try.func10 #[.agg #[.slice A0_0 l0_0.length c0_0]] rfl ma_ ?_
   with_reducible refine (laws_toDisk.calls k _ _ l0_0 t356 _ ?side1 ?side2 A20.out).mono ?_
   (case side1 => exact cs_ ((Kd.C_below HR0_0.out HB.out)))
   (case side2 => exact HC0_0.out)
   rintro e w36 ⟨v357, rfl, ho0, hb⟩
   refine ⟨_, rfl, ?_⟩
   have HO358 := Aside0.mk (Kd.R_lower ho0 (below_size (hs3_ GE352.out GE353.out GE370.out)))
   replace BK352 := bK_ BK352 hb
   replace BK353 := bK_ BK353 hb
   replace BK370 := bK_ BK370 hb
   replace HB := nc3_ GE352 GE353 GE370 hb
   (try clear hb)
   (try clear hb2)
   (try clear hk)
   (try clear hi)
   (try clear ho0)
   refine hK.out _ _ ⟨(blk_cell BK352.out 0).trans rfl, (blk_cell BK353.out 0).trans rfl, (blk_cell BK353.out 1).trans rfl, (blk_cell BK353.out 2).trans rfl, (blk_cell BK353.out 3).trans rfl, (blk_cell BK353.out 4).trans rfl⟩ (fun hHeld => ?_)
   clear hK K
   refine no_ ?_
   refine one_ (i := 4) (N := some 34) #[true, true, true, true, true, false, false, false, false, true, false, false] rfl rfl (one_of HT_.out (by kernel_rfl)) (by decide) (fun K hK => ?_)
   refine gs_ Try.func19 #[.agg #[.int .i64 a2_0, .int .i64 a2_1, .int .i64 a2_2, .int .i64 a2_3, .slice A2_4 l2_4.length c2_4]] rfl ma_ ?_
   with_reducible refine (laws_toBatch.calls k a2_0 a2_1 a2_2 a2_3 _ _ l2_4 t359 t360 t361 t362 t363 _ ?side1 ?side2 A21.out).mono ?_
   (case side1 => exact cs_ ((Kd.C_below HR2_4.out HB.out)))
   (case side2 => exact HC2_4.out)
   rintro e w37 ⟨v364, rfl, ho0, hb⟩
   refine ⟨_, rfl, ?_⟩
   replace HO358 := rB_ HO358 hb
   have HO365 := Aside0.mk (Kd.R_lower ho0 (below_size (hs3_ GE352.out GE353.out GE370.out)))
   replace BK352 := bK_ BK352 hb
   replace BK353 := bK_ BK353 hb
   replace BK370 := bK_ BK370 hb
   replace HB := nc3_ GE352 GE353 GE370 hb
   (try clear hb)
   (try clear hb2)
   (try clear hk)
   (try clear hi)
   (try clear ho0)
   obtain ⟨Ao38, co38, eo38⟩ := Kd.R_slice HO358.out
   (first | subst eo38 | (injection eo38 with f1_ f2_ f3_; have f4_ := f1_.symm; have f5_ := f3_.symm; clear f1_ f2_ f3_; subst f4_; subst f5_))
   obtain ⟨Ao39, co39, eo39⟩ := Kd.R_slice HO365.out
   (first | subst eo39 | (injection eo39 with f1_ f2_ f3_; have f4_ := f1_.symm; have f5_ := f3_.symm; clear f1_ f2_ f3_; subst f4_; subst f5_))
   refine hK.out _ _ ⟨(blk_cell BK352.out 0).trans rfl, (blk_cell BK353.out 0).trans rfl, (blk_cell BK353.out 1).trans rfl, (blk_cell BK353.out 2).trans rfl, (blk_cell BK353.out 3).trans rfl, (blk_cell BK353.out 4).trans rfl⟩ (fun hHeld => ?_)
   clear hK K
   refine no_ ?_
   refine one_ (i := 5) (N := some 35) #[true, true, true, true, true, true, false, false, false, true, false, false] rfl rfl (one_of HT_.out (by kernel_rfl)) (by decide) (fun K hK => ?_)
   refine gs_ Try.func18 #[.agg #[.slice Ao38 t356.length co38], .int .i64 a1, .agg #[.int .i64 t359, .int .i64 t360, .int .i64 t361, .int .i64 t362, .slice Ao39 t363.length co39]] rfl ma_ ?_
   with_reducible refine (spec_WriteBatch.calls k _ _ t356 a1 t359 t360 t361 t362 _ _ t363 t366 t369 _ ?side1 ?side2 ?side3 ?side4 A22.out).mono ?_
   (case side1 => exact cs_ ((Kd.R_reads' HO358.out).2.2))
   (case side2 => exact (Kd.R_reads' HO358.out).2.1)
   (case side3 => exact cs_ ((Kd.R_reads' HO365.out).2.2))
   (case side4 => exact (Kd.R_reads' HO365.out).2.1)
   rintro e w40 ⟨v367, rfl, ho0, hb⟩
   refine ⟨_, rfl, ?_⟩
   replace HO365 := rB_ HO365 hb
   have HO368 := Aside0.mk (Kd.R_lower (Kd.R_new' ho0 (Kd.R_lt (kr_ HO358.out))) (below_size (hs3_ GE352.out GE353.out GE370.out)))
   replace HO358 := Aside0.mk (Kd.R_elder' (kr_ HO358.out) (Kd.R_base ho0) hb)
   replace BK352 := bK_ BK352 hb
   replace BK353 := bK_ BK353 hb
   replace BK370 := bK_ BK370 hb
   replace HB := nc3_ GE352 GE353 GE370 hb
   (try clear hb)
   (try clear hb2)
   (try clear hk)
   (try clear hi)
   (try clear ho0)
   refine hK.out _ _ ⟨(blk_cell BK352.out 0).trans rfl, (blk_cell BK353.out 0).trans rfl, (blk_cell BK353.out 1).trans rfl, (blk_cell BK353.out 2).trans rfl, (blk_cell BK353.out 3).trans rfl, (blk_cell BK353.out 4).trans rfl⟩ (fun hHeld => ?_)
   clear hK K
   refine no_ ?_
   refine pv_ 6 29 ?_
   refine pv_ 7 36 ?_
   refine pv_ 8 37 ?_
   exact norm_ (by simp only [putAll, Act.put, List.setIfInBounds_toArray, List.set_cons_zero, List.set_cons_succ]) (hCont (.slice Ao38 t356.length co38, .slice Ao39 t363.length co39, v367, gb370) _ ⟨hHeld, (by (with_reducible repeat (first | apply Kd.R_alloc | apply Kd.R_drewN | apply Kd.R_drew)); exact Kd.R_mono HO358.out (fun _ hk => hk.2)), (kr_ HO365.out), (by (with_reducible repeat (first | apply Kd.R_alloc | apply Kd.R_drewN | apply Kd.R_drew)); exact Kd.R_mono HO368.out (fun _ hk => hk.2)), (kb_ BK352.out), (kb_ BK353.out), (kb_ BK370.out), GW370.out, GE370.out, NB352_370.out, NB370_352.out, NB353_370.out, NB370_353.out, (hs3_ GE352.out GE353.out GE370.out)⟩)
 rintro ⟨v357, v364, v367, gb370⟩ w41 ⟨hS_, h0_, h1_, h2_, h3_, h4_, h5_, h6_, h7_, h8_, h9_, h10_, h11_, h12_⟩
 have n0_ : Aside0 (Kd.R k56 56 w41 w.heap.size (fun k_ => some k_ ≠ (v367 : Value).ownBlock) v357 t356) := ⟨h0_⟩
 have n1_ : Aside0 (Kd.R Kd.string 9 w41 w.heap.size (fun _ => True) v364 t363) := ⟨h1_⟩
 have n2_ : Aside0 (Kd.R k56 56 w41 w.heap.size (fun k_ => some k_ ≠ (v357 : Value).ownBlock) v367 t366) := ⟨h2_⟩
 have n3_ : Aside0 (w41.heap[gb352]? = some (.cells #[.slice A0_0 l0_0.length c0_0] 24 (0, 0))) := ⟨h3_⟩
 have n4_ : Aside0 (w41.heap[gb353]? = some (.cells #[.int .i64 a2_0, .int .i64 a2_1, .int .i64 a2_2, .int .i64 a2_3, .slice A2_4 l2_4.length c2_4] 40 (0, 0))) := ⟨h4_⟩
 have n5_ : Aside0 (w41.heap[gb370]? = some (.cells #[.slice none 0 0] 31 (0, 0))) := ⟨h5_⟩
 have n6_ : Aside0 (w.heap.size ≤ gb370) := ⟨h6_⟩
 have n7_ : Aside0 (w.heap.size ≤ gb370) := ⟨h7_⟩
 have n8_ : Aside0 (gb352 ≠ gb370) := ⟨h8_⟩
 have n9_ : Aside0 (gb370 ≠ gb352) := ⟨h9_⟩
 have n10_ : Aside0 (gb353 ≠ gb370) := ⟨h10_⟩
 have n11_ : Aside0 (gb370 ≠ gb353) := ⟨h11_⟩
 have n12_ : Aside0 (Below w.heap.size w w41) := ⟨h12_⟩
 clear BK352
 clear BK353
 clear HB
 clear h0_ h1_ h2_ h3_ h4_ h5_ h6_ h7_ h8_ h9_ h10_ h11_ h12_
 have HO358 := n0_
 have HO365 := n1_
 have HO368 := n2_
 have BK352 := n3_
 have BK353 := n4_
 have BK370 := n5_
 have GW370 := n6_
 have GE370 := n7_
 have NB352_370 := n8_
 have NB370_352 := n9_
 have NB353_370 := n10_
 have NB370_353 := n11_
 have HB := n12_
 clear n0_ n1_ n2_ n3_ n4_ n5_ n6_ n7_ n8_ n9_ n10_ n11_ n12_
 have hHeld : w41.cell? ⟨gb352, 0, none⟩ = some (.slice A0_0 l0_0.length c0_0) ∧ w41.cell? ⟨gb353, 0, none⟩ = some (.int .i64 a2_0) ∧ w41.cell? ⟨gb353, 1, none⟩ = some (.int .i64 a2_1) ∧ w41.cell? ⟨gb353, 2, none⟩ = some (.int .i64 a2_2) ∧ w41.cell? ⟨gb353, 3, none⟩ = some (.int .i64 a2_3) ∧ w41.cell? ⟨gb353, 4, none⟩ = some (.slice A2_4 l2_4.length c2_4) := hS_
 obtain ⟨Ao42, co42, eo42⟩ := Kd.R_slice HO368.out
 (first | subst eo42 | (injection eo42 with f1_ f2_ f3_; have f4_ := f1_.symm; have f5_ := f3_.symm; clear f1_ f2_ f3_; subst f4_; subst f5_))
 refine np_ ?_
 refine one_ (i := 10) (N := none) #[true, true, true, true, true, true, true, true, true, true, true, false] rfl rfl (one_of HT_.out (by kernel_rfl)) (by decide) (fun K hK => ?_)
 obtain ⟨hs43, hfs43⟩ := cf1_ BK370.out
 have hns43_0 := NB352_370.out
 have hns43_1 := NB353_370.out
 have hms43_0 := NB370_352.out
 have hms43_1 := NB370_353.out
 refine skip_ (w1 := ?_) (by rfl) rfl ?_ ?_
 rotate_left
 ·go_simp
  rfl
 refine hK.out _ _ ⟨((cell_far (p := ⟨gb370, _, none⟩) NB352_370.out _).trans (hHeld.1)), ((cell_far (p := ⟨gb370, _, none⟩) NB353_370.out _).trans (hHeld.2.1)), ((cell_far (p := ⟨gb370, _, none⟩) NB353_370.out _).trans (hHeld.2.2.1)), ((cell_far (p := ⟨gb370, _, none⟩) NB353_370.out _).trans (hHeld.2.2.2.1)), ((cell_far (p := ⟨gb370, _, none⟩) NB353_370.out _).trans (hHeld.2.2.2.2.1)), ((cell_far (p := ⟨gb370, _, none⟩) NB353_370.out _).trans (hHeld.2.2.2.2.2))⟩ (fun hHeld => ?_)
 clear hK K
 refine pv_ 11 9 ?_
 refine done_ (done_of HT_.out (by kernel_rfl)) ?_
 have hnb44 := NB352_370.out
 have hnc44 := NB370_352.out
 obtain ⟨hcz45_0, hfz45_0⟩ := cf1_ BK352.out
 go_upto_region 12 with (first | ((with_reducible refine gate_callee (f := 10) rfl ?_); refine gl_ 39 Try.func10 #[.agg #[.slice A0_0 l0_0.length c0_0]] rfl ma_ ?_; (with_reducible refine (laws_toDisk.calls k _ _ l0_0 t371 _ ?side1 ?side2 A23.out).mono ?_); (case side1 => exact Kd.C_below HR0_0.out (hs3_ GE352.out GE353.out GE370.out)); (case side2 => exact HC0_0.out); rintro e w46 ⟨v372, rfl, ho0, hb⟩; refine ⟨_, rfl, ?_⟩; replace HO365 := Aside0.mk (Kd.R_below (by (with_reducible repeat (first | apply Kd.R_alloc | apply Kd.R_drewN | apply Kd.R_drew)); exact (Kd.R_mono (Kd.R_far (p := ⟨gb370, 0, none⟩) (Kd.R_types HO365.out BK370.out (by decide)) (fun _ hk => hk.2) (.slice Ao42 t366.length co42)) (fun _ h_ => h_.1))) hb); have HO373 := Aside0.mk (Kd.R_lower (Kd.R_new' (Kd.R_new' ho0 (Kd.R_lt (by (with_reducible repeat (first | apply Kd.R_alloc | apply Kd.R_drewN | apply Kd.R_drew)); exact (Kd.R_mono (Kd.R_far (p := ⟨gb370, 0, none⟩) (Kd.R_types HO358.out BK370.out (by decide)) (fun _ hk => hk.2) (.slice Ao42 t366.length co42)) (fun _ h_ => h_.1))))) (Kd.R_lt (by (with_reducible repeat (first | apply Kd.R_alloc | apply Kd.R_drewN | apply Kd.R_drew)); exact (Kd.R_mono (Kd.R_far (p := ⟨gb370, 0, none⟩) (Kd.R_types HO368.out BK370.out (by decide)) (fun _ hk => hk.2) (.slice Ao42 t366.length co42)) (fun _ h_ => h_.1))))) (below_size (hs3_ GE352.out GE353.out GE370.out))); replace HO358 := Aside0.mk (Kd.R_elder' (by (with_reducible repeat (first | apply Kd.R_alloc | apply Kd.R_drewN | apply Kd.R_drew)); exact (Kd.R_mono (Kd.R_far (p := ⟨gb370, 0, none⟩) (Kd.R_types HO358.out BK370.out (by decide)) (fun _ hk => hk.2) (.slice Ao42 t366.length co42)) (fun _ h_ => h_.1))) (Kd.R_base ho0) hb); replace HO368 := Aside0.mk (Kd.R_elder' (by (with_reducible repeat (first | apply Kd.R_alloc | apply Kd.R_drewN | apply Kd.R_drew)); exact (Kd.R_mono (Kd.R_far (p := ⟨gb370, 0, none⟩) (Kd.R_types HO368.out BK370.out (by decide)) (fun _ hk => hk.2) (.slice Ao42 t366.length co42)) (fun _ h_ => h_.1))) (Kd.R_base ho0) hb); replace BK352 := Aside0.mk (blk_below (g := gb352) (o := .cells #[.slice A0_0 l0_0.length c0_0] 24 (0, 0)) (by (with_reducible repeat (first | refine blk_drewN ?_ _ | refine blk_drew ?_ | refine blk_alloc ?_ _)); refine blk_far ?_ NB352_370.out _; (with_reducible repeat (first | refine blk_drewN ?_ _ | refine blk_drew ?_ | refine blk_alloc ?_ _)); exact BK352.out) hb); replace BK353 := Aside0.mk (blk_below (g := gb353) (o := .cells #[.int .i64 a2_0, .int .i64 a2_1, .int .i64 a2_2, .int .i64 a2_3, .slice A2_4 l2_4.length c2_4] 40 (0, 0)) (by (with_reducible repeat (first | refine blk_drewN ?_ _ | refine blk_drew ?_ | refine blk_alloc ?_ _)); refine blk_far ?_ NB353_370.out _; (with_reducible repeat (first | refine blk_drewN ?_ _ | refine blk_drew ?_ | refine blk_alloc ?_ _)); exact BK353.out) hb); replace BK370 := Aside0.mk (blk_below (g := gb370) (o := .cells #[.slice Ao42 t366.length co42] 31 (0, 0)) (by (with_reducible repeat (first | refine blk_drewN ?_ _ | refine blk_drew ?_ | refine blk_alloc ?_ _)); refine blk_put (cs := #[.slice none 0 0]) ?_ 0 _ rfl; (with_reducible repeat (first | refine blk_drewN ?_ _ | refine blk_drew ?_ | refine blk_alloc ?_ _)); exact BK370.out) hb); replace HB := nc3_ GE352 GE353 GE370 hb; (try clear hb); (try clear hb2); (try clear hk); (try clear hi); (try clear ho0)) | ((with_reducible refine gate_dst (N := 10) rfl ?_); refine be_ (N := 10) #[.slice none 0 0] 31 ?_; intro gb374 hg w47 hbox hb; replace HO358 := rB_ HO358 hb; replace HO365 := rB_ HO365 hb; replace HO368 := rB_ HO368 hb; replace HO373 := rB_ HO373 hb; have BK374 := Aside0.mk (hbox); have GW374 := ge3_ hg GE352 GE353 GE370; have GE374 := ge3_ hg GE352 GE353 GE370; replace HB := nc3_ GE352 GE353 GE370 hb; have NB352_374 := nl_ BK352 hg; have NB374_352 := ng_ BK352 hg; replace BK352 := bK_ BK352 hb; have NB353_374 := nl_ BK353 hg; have NB374_353 := ng_ BK353 hg; replace BK353 := bK_ BK353 hb; have NB370_374 := nl_ BK370 hg; have NB374_370 := ng_ BK370 hg; replace BK370 := bK_ BK370 hb; clear hb hbox hg; obtain ⟨Ao48, co48, eo48⟩ := Kd.R_slice HO373.out; subst eo48; have hnb49 := NB374_352.out; have hnc49 := NB352_374.out; have hnb50 := NB374_353.out; have hnc50 := NB353_374.out; have hnb51 := NB374_370.out; have hnc51 := NB370_374.out; obtain ⟨hcz52_0, hfz52_0⟩ := cf1_ BK374.out; have hnb53 := NB353_370.out; have hnc53 := NB370_353.out; obtain ⟨hcz54_0, hcz54_1, hcz54_2, hcz54_3, hcz54_4, hfz54_0, hfz54_1, hfz54_2, hfz54_3, hfz54_4⟩ := cf5_ BK353.out) | ((with_reducible refine gate_callee (f := 19) rfl ?_); refine gl_ 41 Try.func19 #[.agg #[.int .i64 a2_0, .int .i64 a2_1, .int .i64 a2_2, .int .i64 a2_3, .slice A2_4 l2_4.length c2_4]] rfl ma_ ?_; (with_reducible refine (laws_toBatch.calls k a2_0 a2_1 a2_2 a2_3 _ _ l2_4 t375 t376 t377 t378 t379 _ ?side1 ?side2 A24.out).mono ?_); (case side1 => exact Kd.C_below HR2_4.out (hs4_ GE352.out GE353.out GE370.out GE374.out)); (case side2 => exact HC2_4.out); rintro e w55 ⟨v380, rfl, ho0, hb⟩; refine ⟨_, rfl, ?_⟩; replace HO358 := Aside0.mk (Kd.R_below (by (with_reducible repeat (first | apply Kd.R_alloc | apply Kd.R_drewN | apply Kd.R_drew)); exact (Kd.R_mono (Kd.R_far (p := ⟨gb374, 0, none⟩) (Kd.R_types HO358.out BK374.out (by decide)) (fun _ hk => hk.2) (.slice Ao48 t371.length co48)) (fun _ h_ => h_.1))) hb); replace HO368 := Aside0.mk (Kd.R_below (by (with_reducible repeat (first | apply Kd.R_alloc | apply Kd.R_drewN | apply Kd.R_drew)); exact (Kd.R_mono (Kd.R_far (p := ⟨gb374, 0, none⟩) (Kd.R_types HO368.out BK374.out (by decide)) (fun _ hk => hk.2) (.slice Ao48 t371.length co48)) (fun _ h_ => h_.1))) hb); replace HO373 := Aside0.mk (Kd.R_below (by (with_reducible repeat (first | apply Kd.R_alloc | apply Kd.R_drewN | apply Kd.R_drew)); exact (Kd.R_mono (Kd.R_far (p := ⟨gb374, 0, none⟩) (Kd.R_types HO373.out BK374.out (by decide)) (fun _ hk => hk.2) (.slice Ao48 t371.length co48)) (fun _ h_ => h_.1))) hb); have HO381 := Aside0.mk (Kd.R_lower (Kd.R_new' ho0 (Kd.R_lt (by (with_reducible repeat (first | apply Kd.R_alloc | apply Kd.R_drewN | apply Kd.R_drew)); exact (Kd.R_mono (Kd.R_far (p := ⟨gb374, 0, none⟩) (Kd.R_types HO365.out BK374.out (by decide)) (fun _ hk => hk.2) (.slice Ao48 t371.length co48)) (fun _ h_ => h_.1))))) (below_size (hs4_ GE352.out GE353.out GE370.out GE374.out))); replace HO365 := Aside0.mk (Kd.R_elder' (by (with_reducible repeat (first | apply Kd.R_alloc | apply Kd.R_drewN | apply Kd.R_drew)); exact (Kd.R_mono (Kd.R_far (p := ⟨gb374, 0, none⟩) (Kd.R_types HO365.out BK374.out (by decide)) (fun _ hk => hk.2) (.slice Ao48 t371.length co48)) (fun _ h_ => h_.1))) (Kd.R_base ho0) hb); replace BK352 := Aside0.mk (blk_below (g := gb352) (o := .cells #[.slice A0_0 l0_0.length c0_0] 24 (0, 0)) (by (with_reducible repeat (first | refine blk_drewN ?_ _ | refine blk_drew ?_ | refine blk_alloc ?_ _)); refine blk_far ?_ NB352_374.out _; (with_reducible repeat (first | refine blk_drewN ?_ _ | refine blk_drew ?_ | refine blk_alloc ?_ _)); exact BK352.out) hb); replace BK353 := Aside0.mk (blk_below (g := gb353) (o := .cells #[.int .i64 a2_0, .int .i64 a2_1, .int .i64 a2_2, .int .i64 a2_3, .slice A2_4 l2_4.length c2_4] 40 (0, 0)) (by (with_reducible repeat (first | refine blk_drewN ?_ _ | refine blk_drew ?_ | refine blk_alloc ?_ _)); refine blk_far ?_ NB353_374.out _; (with_reducible repeat (first | refine blk_drewN ?_ _ | refine blk_drew ?_ | refine blk_alloc ?_ _)); exact BK353.out) hb); replace BK370 := Aside0.mk (blk_below (g := gb370) (o := .cells #[.slice Ao42 t366.length co42] 31 (0, 0)) (by (with_reducible repeat (first | refine blk_drewN ?_ _ | refine blk_drew ?_ | refine blk_alloc ?_ _)); refine blk_far ?_ NB370_374.out _; (with_reducible repeat (first | refine blk_drewN ?_ _ | refine blk_drew ?_ | refine blk_alloc ?_ _)); exact BK370.out) hb); replace BK374 := Aside0.mk (blk_below (g := gb374) (o := .cells #[.slice Ao48 t371.length co48] 31 (0, 0)) (by (with_reducible repeat (first | refine blk_drewN ?_ _ | refine blk_drew ?_ | refine blk_alloc ?_ _)); refine blk_put (cs := #[.slice none 0 0]) ?_ 0 _ rfl; (with_reducible repeat (first | refine blk_drewN ?_ _ | refine blk_drew ?_ | refine blk_alloc ?_ _)); exact BK374.out) hb); replace HB := nc4_ GE352 GE353 GE370 GE374 hb; (try clear hb); (try clear hb2); (try clear hk); (try clear hi); (try clear ho0)) | ((with_reducible refine gate_dst (N := 11) rfl ?_); refine be_ (N := 11) #[.int .i64 0, .int .i64 0, .int .i64 0, .int .i64 0, .slice none 0 0] 44 ?_; intro gb382 hg w56 hbox hb; replace HO358 := rB_ HO358 hb; replace HO365 := rB_ HO365 hb; replace HO368 := rB_ HO368 hb; replace HO373 := rB_ HO373 hb; replace HO381 := rB_ HO381 hb; have BK382 := Aside0.mk (hbox); have GW382 := ge4_ hg GE352 GE353 GE370 GE374; have GE382 := ge4_ hg GE352 GE353 GE370 GE374; replace HB := nc4_ GE352 GE353 GE370 GE374 hb; have NB352_382 := nl_ BK352 hg; have NB382_352 := ng_ BK352 hg; replace BK352 := bK_ BK352 hb; have NB353_382 := nl_ BK353 hg; have NB382_353 := ng_ BK353 hg; replace BK353 := bK_ BK353 hb; have NB370_382 := nl_ BK370 hg; have NB382_370 := ng_ BK370 hg; replace BK370 := bK_ BK370 hb; have NB374_382 := nl_ BK374 hg; have NB382_374 := ng_ BK374 hg; replace BK374 := bK_ BK374 hb; clear hb hbox hg; have hnb57 := NB382_352.out; have hnc57 := NB352_382.out; have hnb58 := NB382_353.out; have hnc58 := NB353_382.out; have hnb59 := NB382_370.out; have hnc59 := NB370_382.out; have hnb60 := NB382_374.out; have hnc60 := NB374_382.out; obtain ⟨hcz61_0, hcz61_1, hcz61_2, hcz61_3, hcz61_4, hfz61_0, hfz61_1, hfz61_2, hfz61_3, hfz61_4⟩ := cf5_ BK382.out; obtain ⟨Ao62, co62, eo62⟩ := Kd.R_slice HO381.out; subst eo62; obtain ⟨hcz63_0, hfz63_0⟩ := cf1_ BK374.out) | ((with_reducible refine gate_callee (f := 20) rfl ?_); refine gl_ 46 Try.func20 #[.agg #[.slice Ao48 t371.length co48], .int .i64 a1, .agg #[.int .i64 t375, .int .i64 t376, .int .i64 t377, .int .i64 t378, .slice Ao62 t379.length co62]] rfl ma_ ?_; (with_reducible refine (impl_WriteBatch.calls k _ _ t371 a1 t375 t376 t377 t378 _ _ t379 t383 t386 _ ?side1 ?side2 ?side3 ?side4 A25.out).mono ?_); (case side1 => refine (Kd.R_reads' (e := 56) (base := w.heap.size) (ok := fun k_ => ((True ∧ some k_ ≠ (v357 : Value).ownBlock) ∧ some k_ ≠ (.slice Ao42 t366.length co42 : Value).ownBlock)) (n := t371.length) (c := co48) ?_).2.2; exact (by (with_reducible repeat (first | apply Kd.R_alloc | apply Kd.R_drewN | apply Kd.R_drew)); exact (Kd.R_mono (Kd.R_far (p := ⟨gb382, 4, none⟩) (Kd.R_far (p := ⟨gb382, 3, none⟩) (Kd.R_far (p := ⟨gb382, 2, none⟩) (Kd.R_far (p := ⟨gb382, 1, none⟩) (Kd.R_far (p := ⟨gb382, 0, none⟩) (Kd.R_types HO373.out BK382.out (by decide)) (fun _ hk => hk.2) (.int .i64 t375)) (fun _ hk => hk.2) (.int .i64 t376)) (fun _ hk => hk.2) (.int .i64 t377)) (fun _ hk => hk.2) (.int .i64 t378)) (fun _ hk => hk.2) (.slice Ao62 t379.length co62)) (fun _ h_ => h_.1)))); (case side2 => exact (Kd.R_reads' HO373.out).2.1); (case side3 => refine (Kd.R_reads' (e := 9) (base := w.heap.size) (ok := fun k_ => (True ∧ some k_ ≠ (v364 : Value).ownBlock)) (n := t379.length) (c := co62) ?_).2.2; exact (by (with_reducible repeat (first | apply Kd.R_alloc | apply Kd.R_drewN | apply Kd.R_drew)); exact (Kd.R_mono (Kd.R_far (p := ⟨gb382, 4, none⟩) (Kd.R_far (p := ⟨gb382, 3, none⟩) (Kd.R_far (p := ⟨gb382, 2, none⟩) (Kd.R_far (p := ⟨gb382, 1, none⟩) (Kd.R_far (p := ⟨gb382, 0, none⟩) (Kd.R_types HO381.out BK382.out (by decide)) (fun _ hk => hk.2) (.int .i64 t375)) (fun _ hk => hk.2) (.int .i64 t376)) (fun _ hk => hk.2) (.int .i64 t377)) (fun _ hk => hk.2) (.int .i64 t378)) (fun _ hk => hk.2) (.slice Ao62 t379.length co62)) (fun _ h_ => h_.1)))); (case side4 => exact (Kd.R_reads' HO381.out).2.1); rintro e w64 ⟨v384, rfl, ho0, hb⟩; refine ⟨_, rfl, ?_⟩; replace HO365 := Aside0.mk (Kd.R_below (by (with_reducible repeat (first | apply Kd.R_alloc | apply Kd.R_drewN | apply Kd.R_drew)); exact (Kd.R_mono (Kd.R_far (p := ⟨gb382, 4, none⟩) (Kd.R_far (p := ⟨gb382, 3, none⟩) (Kd.R_far (p := ⟨gb382, 2, none⟩) (Kd.R_far (p := ⟨gb382, 1, none⟩) (Kd.R_far (p := ⟨gb382, 0, none⟩) (Kd.R_types HO365.out BK382.out (by decide)) (fun _ hk => hk.2) (.int .i64 t375)) (fun _ hk => hk.2) (.int .i64 t376)) (fun _ hk => hk.2) (.int .i64 t377)) (fun _ hk => hk.2) (.int .i64 t378)) (fun _ hk => hk.2) (.slice Ao62 t379.length co62)) (fun _ h_ => h_.1))) hb); replace HO381 := Aside0.mk (Kd.R_below (by (with_reducible repeat (first | apply Kd.R_alloc | apply Kd.R_drewN | apply Kd.R_drew)); exact (Kd.R_mono (Kd.R_far (p := ⟨gb382, 4, none⟩) (Kd.R_far (p := ⟨gb382, 3, none⟩) (Kd.R_far (p := ⟨gb382, 2, none⟩) (Kd.R_far (p := ⟨gb382, 1, none⟩) (Kd.R_far (p := ⟨gb382, 0, none⟩) (Kd.R_types HO381.out BK382.out (by decide)) (fun _ hk => hk.2) (.int .i64 t375)) (fun _ hk => hk.2) (.int .i64 t376)) (fun _ hk => hk.2) (.int .i64 t377)) (fun _ hk => hk.2) (.int .i64 t378)) (fun _ hk => hk.2) (.slice Ao62 t379.length co62)) (fun _ h_ => h_.1))) hb); have HO385 := Aside0.mk (Kd.R_lower (Kd.R_new' (Kd.R_new' (Kd.R_new' ho0 (Kd.R_lt (by (with_reducible repeat (first | apply Kd.R_alloc | apply Kd.R_drewN | apply Kd.R_drew)); exact (Kd.R_mono (Kd.R_far (p := ⟨gb382, 4, none⟩) (Kd.R_far (p := ⟨gb382, 3, none⟩) (Kd.R_far (p := ⟨gb382, 2, none⟩) (Kd.R_far (p := ⟨gb382, 1, none⟩) (Kd.R_far (p := ⟨gb382, 0, none⟩) (Kd.R_types HO358.out BK382.out (by decide)) (fun _ hk => hk.2) (.int .i64 t375)) (fun _ hk => hk.2) (.int .i64 t376)) (fun _ hk => hk.2) (.int .i64 t377)) (fun _ hk => hk.2) (.int .i64 t378)) (fun _ hk => hk.2) (.slice Ao62 t379.length co62)) (fun _ h_ => h_.1))))) (Kd.R_lt (by (with_reducible repeat (first | apply Kd.R_alloc | apply Kd.R_drewN | apply Kd.R_drew)); exact (Kd.R_mono (Kd.R_far (p := ⟨gb382, 4, none⟩) (Kd.R_far (p := ⟨gb382, 3, none⟩) (Kd.R_far (p := ⟨gb382, 2, none⟩) (Kd.R_far (p := ⟨gb382, 1, none⟩) (Kd.R_far (p := ⟨gb382, 0, none⟩) (Kd.R_types HO368.out BK382.out (by decide)) (fun _ hk => hk.2) (.int .i64 t375)) (fun _ hk => hk.2) (.int .i64 t376)) (fun _ hk => hk.2) (.int .i64 t377)) (fun _ hk => hk.2) (.int .i64 t378)) (fun _ hk => hk.2) (.slice Ao62 t379.length co62)) (fun _ h_ => h_.1))))) (Kd.R_lt (by (with_reducible repeat (first | apply Kd.R_alloc | apply Kd.R_drewN | apply Kd.R_drew)); exact (Kd.R_mono (Kd.R_far (p := ⟨gb382, 4, none⟩) (Kd.R_far (p := ⟨gb382, 3, none⟩) (Kd.R_far (p := ⟨gb382, 2, none⟩) (Kd.R_far (p := ⟨gb382, 1, none⟩) (Kd.R_far (p := ⟨gb382, 0, none⟩) (Kd.R_types HO373.out BK382.out (by decide)) (fun _ hk => hk.2) (.int .i64 t375)) (fun _ hk => hk.2) (.int .i64 t376)) (fun _ hk => hk.2) (.int .i64 t377)) (fun _ hk => hk.2) (.int .i64 t378)) (fun _ hk => hk.2) (.slice Ao62 t379.length co62)) (fun _ h_ => h_.1))))) (below_size (hs5_ GE352.out GE353.out GE370.out GE374.out GE382.out))); replace HO358 := Aside0.mk (Kd.R_elder' (by (with_reducible repeat (first | apply Kd.R_alloc | apply Kd.R_drewN | apply Kd.R_drew)); exact (Kd.R_mono (Kd.R_far (p := ⟨gb382, 4, none⟩) (Kd.R_far (p := ⟨gb382, 3, none⟩) (Kd.R_far (p := ⟨gb382, 2, none⟩) (Kd.R_far (p := ⟨gb382, 1, none⟩) (Kd.R_far (p := ⟨gb382, 0, none⟩) (Kd.R_types HO358.out BK382.out (by decide)) (fun _ hk => hk.2) (.int .i64 t375)) (fun _ hk => hk.2) (.int .i64 t376)) (fun _ hk => hk.2) (.int .i64 t377)) (fun _ hk => hk.2) (.int .i64 t378)) (fun _ hk => hk.2) (.slice Ao62 t379.length co62)) (fun _ h_ => h_.1))) (Kd.R_base ho0) hb); replace HO368 := Aside0.mk (Kd.R_elder' (by (with_reducible repeat (first | apply Kd.R_alloc | apply Kd.R_drewN | apply Kd.R_drew)); exact (Kd.R_mono (Kd.R_far (p := ⟨gb382, 4, none⟩) (Kd.R_far (p := ⟨gb382, 3, none⟩) (Kd.R_far (p := ⟨gb382, 2, none⟩) (Kd.R_far (p := ⟨gb382, 1, none⟩) (Kd.R_far (p := ⟨gb382, 0, none⟩) (Kd.R_types HO368.out BK382.out (by decide)) (fun _ hk => hk.2) (.int .i64 t375)) (fun _ hk => hk.2) (.int .i64 t376)) (fun _ hk => hk.2) (.int .i64 t377)) (fun _ hk => hk.2) (.int .i64 t378)) (fun _ hk => hk.2) (.slice Ao62 t379.length co62)) (fun _ h_ => h_.1))) (Kd.R_base ho0) hb); replace HO373 := Aside0.mk (Kd.R_elder' (by (with_reducible repeat (first | apply Kd.R_alloc | apply Kd.R_drewN | apply Kd.R_drew)); exact (Kd.R_mono (Kd.R_far (p := ⟨gb382, 4, none⟩) (Kd.R_far (p := ⟨gb382, 3, none⟩) (Kd.R_far (p := ⟨gb382, 2, none⟩) (Kd.R_far (p := ⟨gb382, 1, none⟩) (Kd.R_far (p := ⟨gb382, 0, none⟩) (Kd.R_types HO373.out BK382.out (by decide)) (fun _ hk => hk.2) (.int .i64 t375)) (fun _ hk => hk.2) (.int .i64 t376)) (fun _ hk => hk.2) (.int .i64 t377)) (fun _ hk => hk.2) (.int .i64 t378)) (fun _ hk => hk.2) (.slice Ao62 t379.length co62)) (fun _ h_ => h_.1))) (Kd.R_base ho0) hb); replace BK352 := Aside0.mk (blk_below (g := gb352) (o := .cells #[.slice A0_0 l0_0.length c0_0] 24 (0, 0)) (by (with_reducible repeat (first | refine blk_drewN ?_ _ | refine blk_drew ?_ | refine blk_alloc ?_ _)); refine blk_far ?_ NB352_382.out _; (with_reducible repeat (first | refine blk_drewN ?_ _ | refine blk_drew ?_ | refine blk_alloc ?_ _)); refine blk_far ?_ NB352_382.out _; (with_reducible repeat (first | refine blk_drewN ?_ _ | refine blk_drew ?_ | refine blk_alloc ?_ _)); refine blk_far ?_ NB352_382.out _; (with_reducible repeat (first | refine blk_drewN ?_ _ | refine blk_drew ?_ | refine blk_alloc ?_ _)); refine blk_far ?_ NB352_382.out _; (with_reducible repeat (first | refine blk_drewN ?_ _ | refine blk_drew ?_ | refine blk_alloc ?_ _)); refine blk_far ?_ NB352_382.out _; (with_reducible repeat (first | refine blk_drewN ?_ _ | refine blk_drew ?_ | refine blk_alloc ?_ _)); exact BK352.out) hb); replace BK353 := Aside0.mk (blk_below (g := gb353) (o := .cells #[.int .i64 a2_0, .int .i64 a2_1, .int .i64 a2_2, .int .i64 a2_3, .slice A2_4 l2_4.length c2_4] 40 (0, 0)) (by (with_reducible repeat (first | refine blk_drewN ?_ _ | refine blk_drew ?_ | refine blk_alloc ?_ _)); refine blk_far ?_ NB353_382.out _; (with_reducible repeat (first | refine blk_drewN ?_ _ | refine blk_drew ?_ | refine blk_alloc ?_ _)); refine blk_far ?_ NB353_382.out _; (with_reducible repeat (first | refine blk_drewN ?_ _ | refine blk_drew ?_ | refine blk_alloc ?_ _)); refine blk_far ?_ NB353_382.out _; (with_reducible repeat (first | refine blk_drewN ?_ _ | refine blk_drew ?_ | refine blk_alloc ?_ _)); refine blk_far ?_ NB353_382.out _; (with_reducible repeat (first | refine blk_drewN ?_ _ | refine blk_drew ?_ | refine blk_alloc ?_ _)); refine blk_far ?_ NB353_382.out _; (with_reducible repeat (first | refine blk_drewN ?_ _ | refine blk_drew ?_ | refine blk_alloc ?_ _)); exact BK353.out) hb); replace BK370 := Aside0.mk (blk_below (g := gb370) (o := .cells #[.slice Ao42 t366.length co42] 31 (0, 0)) (by (with_reducible repeat (first | refine blk_drewN ?_ _ | refine blk_drew ?_ | refine blk_alloc ?_ _)); refine blk_far ?_ NB370_382.out _; (with_reducible repeat (first | refine blk_drewN ?_ _ | refine blk_drew ?_ | refine blk_alloc ?_ _)); refine blk_far ?_ NB370_382.out _; (with_reducible repeat (first | refine blk_drewN ?_ _ | refine blk_drew ?_ | refine blk_alloc ?_ _)); refine blk_far ?_ NB370_382.out _; (with_reducible repeat (first | refine blk_drewN ?_ _ | refine blk_drew ?_ | refine blk_alloc ?_ _)); refine blk_far ?_ NB370_382.out _; (with_reducible repeat (first | refine blk_drewN ?_ _ | refine blk_drew ?_ | refine blk_alloc ?_ _)); refine blk_far ?_ NB370_382.out _; (with_reducible repeat (first | refine blk_drewN ?_ _ | refine blk_drew ?_ | refine blk_alloc ?_ _)); exact BK370.out) hb); replace BK374 := Aside0.mk (blk_below (g := gb374) (o := .cells #[.slice Ao48 t371.length co48] 31 (0, 0)) (by (with_reducible repeat (first | refine blk_drewN ?_ _ | refine blk_drew ?_ | refine blk_alloc ?_ _)); refine blk_far ?_ NB374_382.out _; (with_reducible repeat (first | refine blk_drewN ?_ _ | refine blk_drew ?_ | refine blk_alloc ?_ _)); refine blk_far ?_ NB374_382.out _; (with_reducible repeat (first | refine blk_drewN ?_ _ | refine blk_drew ?_ | refine blk_alloc ?_ _)); refine blk_far ?_ NB374_382.out _; (with_reducible repeat (first | refine blk_drewN ?_ _ | refine blk_drew ?_ | refine blk_alloc ?_ _)); refine blk_far ?_ NB374_382.out _; (with_reducible repeat (first | refine blk_drewN ?_ _ | refine blk_drew ?_ | refine blk_alloc ?_ _)); refine blk_far ?_ NB374_382.out _; (with_reducible repeat (first | refine blk_drewN ?_ _ | refine blk_drew ?_ | refine blk_alloc ?_ _)); exact BK374.out) hb); replace BK382 := Aside0.mk (blk_below (g := gb382) (o := .cells #[.int .i64 t375, .int .i64 t376, .int .i64 t377, .int .i64 t378, .slice Ao62 t379.length co62] 44 (0, 0)) (by (with_reducible repeat (first | refine blk_drewN ?_ _ | refine blk_drew ?_ | refine blk_alloc ?_ _)); refine blk_put (cs := #[.int .i64 t375, .int .i64 t376, .int .i64 t377, .int .i64 t378, .slice none 0 0]) ?_ 4 _ rfl; (with_reducible repeat (first | refine blk_drewN ?_ _ | refine blk_drew ?_ | refine blk_alloc ?_ _)); refine blk_put (cs := #[.int .i64 t375, .int .i64 t376, .int .i64 t377, .int .i64 0, .slice none 0 0]) ?_ 3 _ rfl; (with_reducible repeat (first | refine blk_drewN ?_ _ | refine blk_drew ?_ | refine blk_alloc ?_ _)); refine blk_put (cs := #[.int .i64 t375, .int .i64 t376, .int .i64 0, .int .i64 0, .slice none 0 0]) ?_ 2 _ rfl; (with_reducible repeat (first | refine blk_drewN ?_ _ | refine blk_drew ?_ | refine blk_alloc ?_ _)); refine blk_put (cs := #[.int .i64 t375, .int .i64 0, .int .i64 0, .int .i64 0, .slice none 0 0]) ?_ 1 _ rfl; (with_reducible repeat (first | refine blk_drewN ?_ _ | refine blk_drew ?_ | refine blk_alloc ?_ _)); refine blk_put (cs := #[.int .i64 0, .int .i64 0, .int .i64 0, .int .i64 0, .slice none 0 0]) ?_ 0 _ rfl; (with_reducible repeat (first | refine blk_drewN ?_ _ | refine blk_drew ?_ | refine blk_alloc ?_ _)); exact BK382.out) hb); replace HB := nc5_ GE352 GE353 GE370 GE374 GE382 hb; (try clear hb); (try clear hb2); (try clear hk); (try clear hi); (try clear ho0)) | ((with_reducible refine gate_dst (N := 12) rfl ?_); refine be_ (N := 12) #[.slice none 0 0] 31 ?_; intro gb387 hg w65 hbox hb; replace HO358 := rB_ HO358 hb; replace HO365 := rB_ HO365 hb; replace HO368 := rB_ HO368 hb; replace HO373 := rB_ HO373 hb; replace HO381 := rB_ HO381 hb; replace HO385 := rB_ HO385 hb; have BK387 := Aside0.mk (hbox); have GW387 := ge5_ hg GE352 GE353 GE370 GE374 GE382; have GE387 := ge5_ hg GE352 GE353 GE370 GE374 GE382; replace HB := nc5_ GE352 GE353 GE370 GE374 GE382 hb; have NB352_387 := nl_ BK352 hg; have NB387_352 := ng_ BK352 hg; replace BK352 := bK_ BK352 hb; have NB353_387 := nl_ BK353 hg; have NB387_353 := ng_ BK353 hg; replace BK353 := bK_ BK353 hb; have NB370_387 := nl_ BK370 hg; have NB387_370 := ng_ BK370 hg; replace BK370 := bK_ BK370 hb; have NB374_387 := nl_ BK374 hg; have NB387_374 := ng_ BK374 hg; replace BK374 := bK_ BK374 hb; have NB382_387 := nl_ BK382 hg; have NB387_382 := ng_ BK382 hg; replace BK382 := bK_ BK382 hb; clear hb hbox hg; obtain ⟨Ao66, co66, eo66⟩ := Kd.R_slice HO385.out; subst eo66; have hnb67 := NB387_352.out; have hnc67 := NB352_387.out; have hnb68 := NB387_353.out; have hnc68 := NB353_387.out; have hnb69 := NB387_370.out; have hnc69 := NB370_387.out; have hnb70 := NB387_374.out; have hnc70 := NB374_387.out; have hnb71 := NB387_382.out; have hnc71 := NB382_387.out; obtain ⟨hcz72_0, hfz72_0⟩ := cf1_ BK387.out))
 (try simp only [Act.put, List.setIfInBounds_toArray, List.set_cons_zero, List.set_cons_succ])
 go_cut [57] (fun v57 wc => ∃ (kq : Nat) (x57_25 : Bool), v57 = .bool x57_25 ∧ Aside0 (laws_FnExactWriteBatch.j0 kq a1 t369 t386 x57_25 l0_0 a2_0 a2_1 a2_2 a2_3 l2_4 t366 t371 t375 t376 t377 t378 t379 t383 = some r) ∧ Aside0 (kq ≤ k) ∧ Aside0 (Kd.R k56 56 wc w.heap.size (fun k_ => some k_ ≠ ((.slice Ao48 t371.length co48) : Value).ownBlock ∧ some k_ ≠ ((.slice Ao66 t383.length co66) : Value).ownBlock) (.slice Ao42 t366.length co42) t366) ∧ Aside0 (Kd.R k56 56 wc w.heap.size (fun k_ => some k_ ≠ ((.slice Ao42 t366.length co42) : Value).ownBlock ∧ some k_ ≠ ((.slice Ao66 t383.length co66) : Value).ownBlock) (.slice Ao48 t371.length co48) t371) ∧ Aside0 (Kd.R Kd.string 9 wc w.heap.size (fun _ => True) (.slice Ao62 t379.length co62) t379) ∧ Aside0 (Kd.R k56 56 wc w.heap.size (fun k_ => some k_ ≠ ((.slice Ao42 t366.length co42) : Value).ownBlock ∧ some k_ ≠ ((.slice Ao48 t371.length co48) : Value).ownBlock) (.slice Ao66 t383.length co66) t383) ∧ Aside0 (wc.heap[gb352]? = some (.cells #[(.slice A0_0 l0_0.length c0_0)] 24 (0, 0))) ∧ Aside0 (wc.heap[gb353]? = some (.cells #[.int .i64 a2_0, .int .i64 a2_1, .int .i64 a2_2, .int .i64 a2_3, (.slice A2_4 l2_4.length c2_4)] 40 (0, 0))) ∧ Aside0 (wc.heap[gb370]? = some (.cells #[(.slice Ao42 t366.length co42)] 31 (0, 0))) ∧ Aside0 (wc.heap[gb374]? = some (.cells #[(.slice Ao48 t371.length co48)] 31 (0, 0))) ∧ Aside0 (wc.heap[gb382]? = some (.cells #[.int .i64 t375, .int .i64 t376, .int .i64 t377, .int .i64 t378, (.slice Ao62 t379.length co62)] 44 (0, 0))) ∧ Aside0 (wc.heap[gb387]? = some (.cells #[(.slice Ao66 t383.length co66)] 31 (0, 0))) ∧ Aside0 (Below w.heap.size w wc))
 case first =>
  have H := HC26.out
  clear HC26
  replace H := bnd_ H
  obtain ⟨t388, A73, H⟩ := H
  replace H := ifb_ H
  obtain ⟨rfl, H⟩ | ⟨rfl, H⟩ := H
  rotate_left
  ·exact absurd H (by simp)
  have H' := Aside0.mk H
  clear H
  have hnb75 := NB387_352.out
  have hnc75 := NB352_387.out
  have hnb76 := NB387_353.out
  have hnc76 := NB353_387.out
  have hnb77 := NB387_370.out
  have hnc77 := NB370_387.out
  have hnb78 := NB387_374.out
  have hnc78 := NB374_387.out
  have hnb79 := NB387_382.out
  have hnc79 := NB382_387.out
  obtain ⟨hcz80_0, hfz80_0⟩ := cf1_ BK387.out
  have hnb81 := NB370_352.out
  have hnc81 := NB352_370.out
  have hnb82 := NB370_353.out
  have hnc82 := NB353_370.out
  have hnb83 := NB370_374.out
  have hnc83 := NB374_370.out
  have hnb84 := NB370_382.out
  have hnc84 := NB382_370.out
  obtain ⟨hcz85_0, hfz85_0⟩ := cf1_ BK370.out
  go_wp2_with (first | ((with_reducible refine gate_callee (f := 13) rfl ?_); refine gl_ 51 Try.func13 #[.agg #[.slice Ao66 t383.length co66], .agg #[.slice Ao42 t366.length co42]] rfl ma_ ?_; (with_reducible refine (laws_eqDisk.calls k _ _ t383 _ _ t366 true _ ?side1 ?side2 ?side3 ?side4 A73.out).mono ?_); (case side1 => refine (Kd.R_reads' (e := 56) (base := w.heap.size) (ok := fun k_ => (((True ∧ some k_ ≠ (v357 : Value).ownBlock) ∧ some k_ ≠ (.slice Ao42 t366.length co42 : Value).ownBlock) ∧ some k_ ≠ (.slice Ao48 t371.length co48 : Value).ownBlock)) (n := t383.length) (c := co66) ?_).2.2; exact (by (with_reducible repeat (first | apply Kd.R_alloc | apply Kd.R_drewN | apply Kd.R_drew)); exact (Kd.R_mono (Kd.R_far (p := ⟨gb387, 0, none⟩) (Kd.R_types HO385.out BK387.out (by decide)) (fun _ hk => hk.2) (.slice Ao66 t383.length co66)) (fun _ h_ => h_.1)))); (case side2 => exact (Kd.R_reads' HO385.out).2.1); (case side3 => refine (Kd.R_reads' (e := 56) (base := w.heap.size) (ok := fun k_ => ((some k_ ≠ (v357 : Value).ownBlock ∧ some k_ ≠ (.slice Ao48 t371.length co48 : Value).ownBlock) ∧ some k_ ≠ (.slice Ao66 t383.length co66 : Value).ownBlock)) (n := t366.length) (c := co42) ?_).2.2; exact (by (with_reducible repeat (first | apply Kd.R_alloc | apply Kd.R_drewN | apply Kd.R_drew)); exact (Kd.R_mono (Kd.R_far (p := ⟨gb387, 0, none⟩) (Kd.R_types HO368.out BK387.out (by decide)) (fun _ hk => hk.2) (.slice Ao66 t383.length co66)) (fun _ h_ => h_.1)))); (case side4 => exact (Kd.R_reads' HO368.out).2.1); rintro e w86 ⟨rfl, hb⟩; refine ⟨_, rfl, ?_⟩; replace HO358 := Aside0.mk (Kd.R_below (by (with_reducible repeat (first | apply Kd.R_alloc | apply Kd.R_drewN | apply Kd.R_drew)); exact (Kd.R_mono (Kd.R_far (p := ⟨gb387, 0, none⟩) (Kd.R_types HO358.out BK387.out (by decide)) (fun _ hk => hk.2) (.slice Ao66 t383.length co66)) (fun _ h_ => h_.1))) hb); replace HO365 := Aside0.mk (Kd.R_below (by (with_reducible repeat (first | apply Kd.R_alloc | apply Kd.R_drewN | apply Kd.R_drew)); exact (Kd.R_mono (Kd.R_far (p := ⟨gb387, 0, none⟩) (Kd.R_types HO365.out BK387.out (by decide)) (fun _ hk => hk.2) (.slice Ao66 t383.length co66)) (fun _ h_ => h_.1))) hb); replace HO368 := Aside0.mk (Kd.R_below (by (with_reducible repeat (first | apply Kd.R_alloc | apply Kd.R_drewN | apply Kd.R_drew)); exact (Kd.R_mono (Kd.R_far (p := ⟨gb387, 0, none⟩) (Kd.R_types HO368.out BK387.out (by decide)) (fun _ hk => hk.2) (.slice Ao66 t383.length co66)) (fun _ h_ => h_.1))) hb); replace HO373 := Aside0.mk (Kd.R_below (by (with_reducible repeat (first | apply Kd.R_alloc | apply Kd.R_drewN | apply Kd.R_drew)); exact (Kd.R_mono (Kd.R_far (p := ⟨gb387, 0, none⟩) (Kd.R_types HO373.out BK387.out (by decide)) (fun _ hk => hk.2) (.slice Ao66 t383.length co66)) (fun _ h_ => h_.1))) hb); replace HO381 := Aside0.mk (Kd.R_below (by (with_reducible repeat (first | apply Kd.R_alloc | apply Kd.R_drewN | apply Kd.R_drew)); exact (Kd.R_mono (Kd.R_far (p := ⟨gb387, 0, none⟩) (Kd.R_types HO381.out BK387.out (by decide)) (fun _ hk => hk.2) (.slice Ao66 t383.length co66)) (fun _ h_ => h_.1))) hb); replace HO385 := Aside0.mk (Kd.R_below (by (with_reducible repeat (first | apply Kd.R_alloc | apply Kd.R_drewN | apply Kd.R_drew)); exact (Kd.R_mono (Kd.R_far (p := ⟨gb387, 0, none⟩) (Kd.R_types HO385.out BK387.out (by decide)) (fun _ hk => hk.2) (.slice Ao66 t383.length co66)) (fun _ h_ => h_.1))) hb); replace BK352 := Aside0.mk (blk_below (g := gb352) (o := .cells #[.slice A0_0 l0_0.length c0_0] 24 (0, 0)) (by (with_reducible repeat (first | refine blk_drewN ?_ _ | refine blk_drew ?_ | refine blk_alloc ?_ _)); refine blk_far ?_ NB352_387.out _; (with_reducible repeat (first | refine blk_drewN ?_ _ | refine blk_drew ?_ | refine blk_alloc ?_ _)); exact BK352.out) hb); replace BK353 := Aside0.mk (blk_below (g := gb353) (o := .cells #[.int .i64 a2_0, .int .i64 a2_1, .int .i64 a2_2, .int .i64 a2_3, .slice A2_4 l2_4.length c2_4] 40 (0, 0)) (by (with_reducible repeat (first | refine blk_drewN ?_ _ | refine blk_drew ?_ | refine blk_alloc ?_ _)); refine blk_far ?_ NB353_387.out _; (with_reducible repeat (first | refine blk_drewN ?_ _ | refine blk_drew ?_ | refine blk_alloc ?_ _)); exact BK353.out) hb); replace BK370 := Aside0.mk (blk_below (g := gb370) (o := .cells #[.slice Ao42 t366.length co42] 31 (0, 0)) (by (with_reducible repeat (first | refine blk_drewN ?_ _ | refine blk_drew ?_ | refine blk_alloc ?_ _)); refine blk_far ?_ NB370_387.out _; (with_reducible repeat (first | refine blk_drewN ?_ _ | refine blk_drew ?_ | refine blk_alloc ?_ _)); exact BK370.out) hb); replace BK374 := Aside0.mk (blk_below (g := gb374) (o := .cells #[.slice Ao48 t371.length co48] 31 (0, 0)) (by (with_reducible repeat (first | refine blk_drewN ?_ _ | refine blk_drew ?_ | refine blk_alloc ?_ _)); refine blk_far ?_ NB374_387.out _; (with_reducible repeat (first | refine blk_drewN ?_ _ | refine blk_drew ?_ | refine blk_alloc ?_ _)); exact BK374.out) hb); replace BK382 := Aside0.mk (blk_below (g := gb382) (o := .cells #[.int .i64 t375, .int .i64 t376, .int .i64 t377, .int .i64 t378, .slice Ao62 t379.length co62] 44 (0, 0)) (by (with_reducible repeat (first | refine blk_drewN ?_ _ | refine blk_drew ?_ | refine blk_alloc ?_ _)); refine blk_far ?_ NB382_387.out _; (with_reducible repeat (first | refine blk_drewN ?_ _ | refine blk_drew ?_ | refine blk_alloc ?_ _)); exact BK382.out) hb); replace BK387 := Aside0.mk (blk_below (g := gb387) (o := .cells #[.slice Ao66 t383.length co66] 31 (0, 0)) (by (with_reducible repeat (first | refine blk_drewN ?_ _ | refine blk_drew ?_ | refine blk_alloc ?_ _)); refine blk_put (cs := #[.slice none 0 0]) ?_ 0 _ rfl; (with_reducible repeat (first | refine blk_drewN ?_ _ | refine blk_drew ?_ | refine blk_alloc ?_ _)); exact BK387.out) hb); replace HB := nc6_ GE352 GE353 GE370 GE374 GE382 GE387 hb; (try clear hb); (try clear hb2); (try clear hk); (try clear hi)))
  go_meet
  case rel => exact ⟨_, ((t386 != t369)), sr_, H', ⟨by first | omega | exact Nat.le_refl _⟩, ⟨by (with_reducible repeat (first | apply Kd.R_alloc | apply Kd.R_drewN | apply Kd.R_drew)); exact Kd.R_mono HO368.out (fun _ hk => ⟨hk.1.2, hk.2⟩)⟩, ⟨by (with_reducible repeat (first | apply Kd.R_alloc | apply Kd.R_drewN | apply Kd.R_drew)); exact Kd.R_mono HO373.out (fun _ hk => ⟨hk.1.2, hk.2⟩)⟩, ⟨by (with_reducible repeat (first | apply Kd.R_alloc | apply Kd.R_drewN | apply Kd.R_drew)); exact Kd.R_mono HO381.out (fun _ hk => trivial)⟩, ⟨by (with_reducible repeat (first | apply Kd.R_alloc | apply Kd.R_drewN | apply Kd.R_drew)); exact Kd.R_mono HO385.out (fun _ hk => ⟨hk.1.2, hk.2⟩)⟩, ⟨kb_ BK352.out⟩, ⟨kb_ BK353.out⟩, ⟨kb_ BK370.out⟩, ⟨kb_ BK374.out⟩, ⟨kb_ BK382.out⟩, ⟨kb_ BK387.out⟩, ⟨hs6_ GE352.out GE353.out GE370.out GE374.out GE382.out GE387.out⟩⟩
 case rest =>
  clear HC26
  try clear c1
  try clear c2
  try clear p2
  try clear c4
  try clear c5
  try clear c6
  try clear c7
  try clear c8
  try clear c10
  try clear c13
  try clear c18
  try clear c19
  try clear c20
  try clear c44
  try clear c49
  try clear c50
  try clear c51
  try clear c53
  try clear c57
  try clear c58
  try clear c59
  try clear c60
  try clear c67
  try clear c68
  try clear c69
  try clear c70
  try clear c71
  try clear c74
  try clear c75
  try clear c76
  try clear c77
  try clear c78
  try clear c79
  try clear c81
  try clear c82
  try clear c83
  try clear c84
  try clear hcz45_0
  try clear hcz52_0
  try clear hcz54_0
  try clear hcz54_1
  try clear hcz54_2
  try clear hcz54_3
  try clear hcz54_4
  try clear hcz61_0
  try clear hcz61_1
  try clear hcz61_2
  try clear hcz61_3
  try clear hcz61_4
  try clear hcz63_0
  try clear hcz72_0
  try clear hcz80_0
  try clear hcz85_0
  try clear hfz45_0
  try clear hfz52_0
  try clear hfz54_0
  try clear hfz54_1
  try clear hfz54_2
  try clear hfz54_3
  try clear hfz54_4
  try clear hfz61_0
  try clear hfz61_1
  try clear hfz61_2
  try clear hfz61_3
  try clear hfz61_4
  try clear hfz63_0
  try clear hfz72_0
  try clear hfz80_0
  try clear hfz85_0
  obtain ⟨kq, x57_25, rfl, HA, HJ25, HO_371000, HO_375000, HO_383004, HO_388000, BK352, BK353, BK370, BK374, BK382, BK387, HB⟩ := hcut
  cases kq with
  | zero => exact absurd HA.out (by simp [laws_FnExactWriteBatch.j0])
  | succ kj25 =>
   have H := HA.out
   clear HA
   simp only [laws_FnExactWriteBatch.j0] at H
   replace H := ifb_ H
   obtain ⟨rfl, H⟩ | ⟨rfl, H⟩ := H
   ·exact absurd H (by simp)
   replace H := bnd_ H
   obtain ⟨t389, A88, H⟩ := H
   replace H := bnd_ H
   obtain ⟨t392, A89, H⟩ := H
   replace H := ifb_ H
   obtain ⟨rfl, H⟩ | ⟨rfl, H⟩ := H
   rotate_left
   ·exact absurd H (by simp)
   replace H := bnd_ H
   obtain ⟨⟨t393, t394, t395, t396, t397⟩, A91, H⟩ := H
   replace H := red_ H
   replace H := bnd_ H
   obtain ⟨t400, A92, H⟩ := H
   replace H := ifb_ H
   obtain ⟨rfl, H⟩ | ⟨rfl, H⟩ := H
   rotate_left
   ·exact absurd H (by simp)
   replace H := bnd_ H
   obtain ⟨⟨t401, t402⟩, A94, H⟩ := H
   replace H := red_ H
   replace H := bnd_ H
   obtain ⟨⟨t403, t404⟩, A95, H⟩ := H
   replace H := red_ H
   have HC96 := Aside0.mk H
   clear H
   try go_wp2
   replace HO_371000 := qR_ HO_371000
   replace HO_375000 := qR_ HO_375000
   replace HO_383004 := qR_ HO_383004
   replace HO_388000 := qR_ HO_388000
   replace BK352 := qK_ BK352
   replace BK353 := qK_ BK353
   replace BK370 := qK_ BK370
   replace BK374 := qK_ BK374
   replace BK382 := qK_ BK382
   replace BK387 := qK_ BK387
   replace HB := qH_ HB
   refine start_ (n := 5) (S := fun w' => w'.cell? ⟨gb374, 0, none⟩ = some (.slice Ao48 t371.length co48) ∧ w'.cell? ⟨gb352, 0, none⟩ = some (.slice A0_0 l0_0.length c0_0)) (ds := []) #[false, false, false, false, false] (by kernel_rfl) rfl rfl ⟨(blk_cell BK374.out 0).trans rfl, (blk_cell BK352.out 0).trans rfl⟩ (fun hHeld => ?_)
   generalize wc.drew = w97 at HO_371000 HO_375000 HO_383004 HO_388000 BK352 BK353 BK370 BK374 BK382 BK387 HB hHeld ⊢
   refine take_ (i := 0) (N := some 58) (v := ?_) (a' := ?_) #[true, false, false, false, false] rfl rfl (by kernel_rfl) (fun _ _ _ h => h) (Or.inl ⟨by rfl, ?_⟩) hHeld ?_ ?_
   rotate_left
   ·rintro w' ⟨s0, s1⟩
    go_simp
    with_reducible rfl
   rotate_left
   ·simp only [Act.put, List.setIfInBounds_toArray, List.set_cons_zero, List.set_cons_succ, i64_w, i32_w]
    rfl
   refine take_ (i := 1) (N := some 59) (v := ?_) (a' := ?_) #[true, true, false, false, false] rfl rfl (by kernel_rfl) (fun _ _ _ h => h) (Or.inl ⟨by rfl, ?_⟩) hHeld ?_ ?_
   rotate_left
   ·rintro w' ⟨s0, s1⟩
    go_simp
    with_reducible rfl
   rotate_left
   ·simp only [Act.put, List.setIfInBounds_toArray, List.set_cons_zero, List.set_cons_succ, i64_w, i32_w]
    rfl
   refine one_ (i := 2) (N := some 60) #[true, true, true, false, false] rfl rfl (by kernel_rfl) (by decide) (fun K hK => ?_)
   refine gs_ Try.func10 #[.agg #[.slice A0_0 l0_0.length c0_0]] rfl ma_ ?_
   with_reducible refine (laws_toDisk.calls kj25 _ _ l0_0 t389 _ ?side1 ?side2 A88.out).mono ?_
   (case side1 => exact cs_ ((Kd.C_below HR0_0.out HB.out)))
   (case side2 => exact HC0_0.out)
   rintro e w98 ⟨v390, rfl, ho0, hb⟩
   refine ⟨_, rfl, ?_⟩
   replace HO_383004 := rB_ HO_383004 hb
   have HO391 := Aside0.mk (Kd.R_lower (Kd.R_new' (Kd.R_new' (Kd.R_new' ho0 (Kd.R_lt (kr_ HO_371000.out))) (Kd.R_lt (kr_ HO_375000.out))) (Kd.R_lt (kr_ HO_388000.out))) (below_size (hs6_ GE352.out GE353.out GE370.out GE374.out GE382.out GE387.out)))
   replace HO_371000 := Aside0.mk (Kd.R_elder' (kr_ HO_371000.out) (Kd.R_base ho0) hb)
   replace HO_375000 := Aside0.mk (Kd.R_elder' (kr_ HO_375000.out) (Kd.R_base ho0) hb)
   replace HO_388000 := Aside0.mk (Kd.R_elder' (kr_ HO_388000.out) (Kd.R_base ho0) hb)
   replace BK352 := bK_ BK352 hb
   replace BK353 := bK_ BK353 hb
   replace BK370 := bK_ BK370 hb
   replace BK374 := bK_ BK374 hb
   replace BK382 := bK_ BK382 hb
   replace BK387 := bK_ BK387 hb
   replace HB := nc6_ GE352 GE353 GE370 GE374 GE382 GE387 hb
   (try clear hb)
   (try clear hb2)
   (try clear hk)
   (try clear hi)
   (try clear ho0)
   obtain ⟨Ao99, co99, eo99⟩ := Kd.R_slice HO391.out
   (first | subst eo99 | (injection eo99 with f1_ f2_ f3_; have f4_ := f1_.symm; have f5_ := f3_.symm; clear f1_ f2_ f3_; subst f4_; subst f5_))
   refine hK.out _ _ ⟨(blk_cell BK374.out 0).trans rfl, (blk_cell BK352.out 0).trans rfl⟩ (fun hHeld => ?_)
   clear hK K
   refine no_ ?_
   refine one_ (i := 3) (N := some 61) #[true, true, true, true, false] rfl rfl (by kernel_rfl) (by decide) (fun K hK => ?_)
   refine gs_ Try.func13 #[.agg #[.slice Ao48 t371.length co48], .agg #[.slice Ao99 t389.length co99]] rfl ma_ ?_
   with_reducible refine (laws_eqDisk.calls kj25 _ _ t371 _ _ t389 true _ ?side1 ?side2 ?side3 ?side4 A89.out).mono ?_
   (case side1 => exact cs_ ((Kd.R_reads' HO_375000.out).2.2))
   (case side2 => exact (Kd.R_reads' HO_375000.out).2.1)
   (case side3 => exact cs_ ((Kd.R_reads' HO391.out).2.2))
   (case side4 => exact (Kd.R_reads' HO391.out).2.1)
   rintro e w100 ⟨rfl, hb⟩
   refine ⟨_, rfl, ?_⟩
   replace HO_371000 := rB_ HO_371000 hb
   replace HO_375000 := rB_ HO_375000 hb
   replace HO_383004 := rB_ HO_383004 hb
   replace HO_388000 := rB_ HO_388000 hb
   replace HO391 := rB_ HO391 hb
   replace BK352 := bK_ BK352 hb
   replace BK353 := bK_ BK353 hb
   replace BK370 := bK_ BK370 hb
   replace BK374 := bK_ BK374 hb
   replace BK382 := bK_ BK382 hb
   replace BK387 := bK_ BK387 hb
   replace HB := nc6_ GE352 GE353 GE370 GE374 GE382 GE387 hb
   (try clear hb)
   (try clear hb2)
   (try clear hk)
   (try clear hi)
   refine hK.out _ _ ⟨(blk_cell BK374.out 0).trans rfl, (blk_cell BK352.out 0).trans rfl⟩ (fun hHeld => ?_)
   clear hK K
   refine no_ ?_
   refine pure_ (i := 4) (N := some 62) (v := ?_) (a' := ?_) #[true, true, true, true, true] rfl rfl (by kernel_rfl) (fun _ _ _ h => h) (Or.inl ⟨by rfl, ?_⟩) ?_ ?_
   rotate_left
   ·intro w'
    go_simp
    with_reducible rfl
   rotate_left
   ·simp only [Act.put, List.setIfInBounds_toArray, List.set_cons_zero, List.set_cons_succ, i64_w, i32_w]
    rfl
   refine done_ (by kernel_rfl) ?_
   try go_wp2
   replace HO_371000 := qR_ HO_371000
   replace HO_375000 := qR_ HO_375000
   replace HO_383004 := qR_ HO_383004
   replace HO_388000 := qR_ HO_388000
   replace HO391 := qR_ HO391
   replace BK352 := qK_ BK352
   replace BK353 := qK_ BK353
   replace BK370 := qK_ BK370
   replace BK374 := qK_ BK374
   replace BK382 := qK_ BK382
   replace BK387 := qK_ BK387
   replace HB := qH_ HB
   refine start_ (n := 5) (S := fun w' => w'.cell? ⟨gb382, 0, none⟩ = some (.int .i64 t375) ∧ w'.cell? ⟨gb382, 1, none⟩ = some (.int .i64 t376) ∧ w'.cell? ⟨gb382, 2, none⟩ = some (.int .i64 t377) ∧ w'.cell? ⟨gb382, 3, none⟩ = some (.int .i64 t378) ∧ w'.cell? ⟨gb382, 4, none⟩ = some (.slice Ao62 t379.length co62) ∧ w'.cell? ⟨gb353, 0, none⟩ = some (.int .i64 a2_0) ∧ w'.cell? ⟨gb353, 1, none⟩ = some (.int .i64 a2_1) ∧ w'.cell? ⟨gb353, 2, none⟩ = some (.int .i64 a2_2) ∧ w'.cell? ⟨gb353, 3, none⟩ = some (.int .i64 a2_3) ∧ w'.cell? ⟨gb353, 4, none⟩ = some (.slice A2_4 l2_4.length c2_4)) (ds := []) #[false, false, false, false, false] (by kernel_rfl) rfl rfl ⟨(blk_cell BK382.out 0).trans rfl, (blk_cell BK382.out 1).trans rfl, (blk_cell BK382.out 2).trans rfl, (blk_cell BK382.out 3).trans rfl, (blk_cell BK382.out 4).trans rfl, (blk_cell BK353.out 0).trans rfl, (blk_cell BK353.out 1).trans rfl, (blk_cell BK353.out 2).trans rfl, (blk_cell BK353.out 3).trans rfl, (blk_cell BK353.out 4).trans rfl⟩ (fun hHeld => ?_)
   generalize w100.drew = w101 at HO_371000 HO_375000 HO_383004 HO_388000 HO391 BK352 BK353 BK370 BK374 BK382 BK387 HB hHeld ⊢
   refine take_ (i := 0) (N := some 63) (v := ?_) (a' := ?_) #[true, false, false, false, false] rfl rfl (by kernel_rfl) (fun _ _ _ h => h) (Or.inl ⟨by rfl, ?_⟩) hHeld ?_ ?_
   rotate_left
   ·rintro w' ⟨s0, s1, s2, s3, s4, s5, s6, s7, s8, s9⟩
    go_simp
    with_reducible rfl
   rotate_left
   ·simp only [Act.put, List.setIfInBounds_toArray, List.set_cons_zero, List.set_cons_succ, i64_w, i32_w]
    rfl
   refine take_ (i := 1) (N := some 64) (v := ?_) (a' := ?_) #[true, true, false, false, false] rfl rfl (by kernel_rfl) (fun _ _ _ h => h) (Or.inl ⟨by rfl, ?_⟩) hHeld ?_ ?_
   rotate_left
   ·rintro w' ⟨s0, s1, s2, s3, s4, s5, s6, s7, s8, s9⟩
    go_simp
    with_reducible rfl
   rotate_left
   ·simp only [Act.put, List.setIfInBounds_toArray, List.set_cons_zero, List.set_cons_succ, i64_w, i32_w]
    rfl
   refine one_ (i := 2) (N := some 65) #[true, true, true, false, false] rfl rfl (by kernel_rfl) (by decide) (fun K hK => ?_)
   refine gs_ Try.func19 #[.agg #[.int .i64 a2_0, .int .i64 a2_1, .int .i64 a2_2, .int .i64 a2_3, .slice A2_4 l2_4.length c2_4]] rfl ma_ ?_
   with_reducible refine (laws_toBatch.calls kj25 a2_0 a2_1 a2_2 a2_3 _ _ l2_4 t393 t394 t395 t396 t397 _ ?side1 ?side2 A91.out).mono ?_
   (case side1 => exact cs_ ((Kd.C_below HR2_4.out HB.out)))
   (case side2 => exact HC2_4.out)
   rintro e w102 ⟨v398, rfl, ho0, hb⟩
   refine ⟨_, rfl, ?_⟩
   replace HO_371000 := rB_ HO_371000 hb
   replace HO_375000 := rB_ HO_375000 hb
   replace HO_388000 := rB_ HO_388000 hb
   replace HO391 := rB_ HO391 hb
   have HO399 := Aside0.mk (Kd.R_lower (Kd.R_new' ho0 (Kd.R_lt (kr_ HO_383004.out))) (below_size (hs6_ GE352.out GE353.out GE370.out GE374.out GE382.out GE387.out)))
   replace HO_383004 := Aside0.mk (Kd.R_elder' (kr_ HO_383004.out) (Kd.R_base ho0) hb)
   replace BK352 := bK_ BK352 hb
   replace BK353 := bK_ BK353 hb
   replace BK370 := bK_ BK370 hb
   replace BK374 := bK_ BK374 hb
   replace BK382 := bK_ BK382 hb
   replace BK387 := bK_ BK387 hb
   replace HB := nc6_ GE352 GE353 GE370 GE374 GE382 GE387 hb
   (try clear hb)
   (try clear hb2)
   (try clear hk)
   (try clear hi)
   (try clear ho0)
   obtain ⟨Ao103, co103, eo103⟩ := Kd.R_slice HO399.out
   (first | subst eo103 | (injection eo103 with f1_ f2_ f3_; have f4_ := f1_.symm; have f5_ := f3_.symm; clear f1_ f2_ f3_; subst f4_; subst f5_))
   refine hK.out _ _ ⟨(blk_cell BK382.out 0).trans rfl, (blk_cell BK382.out 1).trans rfl, (blk_cell BK382.out 2).trans rfl, (blk_cell BK382.out 3).trans rfl, (blk_cell BK382.out 4).trans rfl, (blk_cell BK353.out 0).trans rfl, (blk_cell BK353.out 1).trans rfl, (blk_cell BK353.out 2).trans rfl, (blk_cell BK353.out 3).trans rfl, (blk_cell BK353.out 4).trans rfl⟩ (fun hHeld => ?_)
   clear hK K
   refine no_ ?_
   refine one_ (i := 3) (N := some 66) #[true, true, true, true, false] rfl rfl (by kernel_rfl) (by decide) (fun K hK => ?_)
   refine gs_ Try.func21 #[.agg #[.int .i64 t375, .int .i64 t376, .int .i64 t377, .int .i64 t378, .slice Ao62 t379.length co62], .agg #[.int .i64 t393, .int .i64 t394, .int .i64 t395, .int .i64 t396, .slice Ao103 t397.length co103]] rfl ma_ ?_
   with_reducible refine (laws_eqBatch.calls kj25 t375 t376 t377 t378 _ _ t379 t393 t394 t395 t396 _ _ t397 true _ ?side1 ?side2 ?side3 ?side4 A92.out).mono ?_
   (case side1 => exact cs_ ((Kd.R_reads' HO_383004.out).2.2))
   (case side2 => exact (Kd.R_reads' HO_383004.out).2.1)
   (case side3 => exact cs_ ((Kd.R_reads' HO399.out).2.2))
   (case side4 => exact (Kd.R_reads' HO399.out).2.1)
   rintro e w104 ⟨rfl, hb⟩
   refine ⟨_, rfl, ?_⟩
   replace HO_371000 := rB_ HO_371000 hb
   replace HO_375000 := rB_ HO_375000 hb
   replace HO_383004 := rB_ HO_383004 hb
   replace HO_388000 := rB_ HO_388000 hb
   replace HO391 := rB_ HO391 hb
   replace HO399 := rB_ HO399 hb
   replace BK352 := bK_ BK352 hb
   replace BK353 := bK_ BK353 hb
   replace BK370 := bK_ BK370 hb
   replace BK374 := bK_ BK374 hb
   replace BK382 := bK_ BK382 hb
   replace BK387 := bK_ BK387 hb
   replace HB := nc6_ GE352 GE353 GE370 GE374 GE382 GE387 hb
   (try clear hb)
   (try clear hb2)
   (try clear hk)
   (try clear hi)
   refine hK.out _ _ ⟨(blk_cell BK382.out 0).trans rfl, (blk_cell BK382.out 1).trans rfl, (blk_cell BK382.out 2).trans rfl, (blk_cell BK382.out 3).trans rfl, (blk_cell BK382.out 4).trans rfl, (blk_cell BK353.out 0).trans rfl, (blk_cell BK353.out 1).trans rfl, (blk_cell BK353.out 2).trans rfl, (blk_cell BK353.out 3).trans rfl, (blk_cell BK353.out 4).trans rfl⟩ (fun hHeld => ?_)
   clear hK K
   refine no_ ?_
   refine pure_ (i := 4) (N := some 67) (v := ?_) (a' := ?_) #[true, true, true, true, true] rfl rfl (by kernel_rfl) (fun _ _ _ h => h) (Or.inl ⟨by rfl, ?_⟩) ?_ ?_
   rotate_left
   ·intro w'
    go_simp
    with_reducible rfl
   rotate_left
   ·simp only [Act.put, List.setIfInBounds_toArray, List.set_cons_zero, List.set_cons_succ, i64_w, i32_w]
    rfl
   refine done_ (by kernel_rfl) ?_
   have hnb105 := NB374_352.out
   have hnc105 := NB352_374.out
   have hnb106 := NB374_353.out
   have hnc106 := NB353_374.out
   have hnb107 := NB374_370.out
   have hnc107 := NB370_374.out
   have hnb108 := NB374_382.out
   have hnc108 := NB382_374.out
   have hnb109 := NB374_387.out
   have hnc109 := NB387_374.out
   obtain ⟨hcz110_0, hfz110_0⟩ := cf1_ BK374.out
   go_upto_region 21 with (first | ((with_reducible refine gate_callee (f := 14) rfl ?_); refine gl_ 70 Try.func14 #[.agg #[.slice Ao48 t371.length co48], .int .i64 1] rfl ma_ ?_; (with_reducible refine (laws_markDisk.calls kj25 (fun k_ => some k_ = (.slice Ao48 t371.length co48 : Value).ownBlock) (.slice Ao48 t371.length co48) t371 1 t401 t402 w _ ?side1 ?side2 A94.out).mono ?_); (case side1 => repeat (first | (with_reducible first | exact HB.out | apply below_alloc | apply pw_below_drewN | apply below_drew1 | refine below_set ?_ GE352.out | refine below_set ?_ GE353.out | refine below_set ?_ GE370.out | refine below_set ?_ GE374.out | refine below_set ?_ GE382.out | refine below_set ?_ GE387.out) | exact HB.out)); (case side2 => exact Kd.R_tight rfl HO_375000.out); rintro e w111 ⟨rfl, hy0, hb, hkp⟩; refine ⟨_, rfl, ?_⟩; replace HO_371000 := Aside0.mk (Kd.R_mono (ok' := fun k_ => some k_ ≠ (.slice Ao48 t371.length co48 : Value).ownBlock ∧ some k_ ≠ (.slice Ao66 t383.length co66 : Value).ownBlock ∧ some k_ ≠ (.slice Ao99 t389.length co99 : Value).ownBlock) (Kd.R_keptB (HO_371000.out) hkp (fun k_ hk_ hs_ => (hk_.1.1) hs_)) (fun k_ hk_ => ⟨hk_.1.1.1, hk_.1.1.2, hk_.1.2⟩)); replace HO_383004 := Aside0.mk (Kd.R_mono (ok' := fun k_ => some k_ ≠ (.slice Ao103 t397.length co103 : Value).ownBlock) (Kd.R_keptB ((Kd.R_apart' HO_383004.out (Kd.R_typed HO_375000.out) (by decide))) hkp (fun k_ hk_ hs_ => (hk_.2) hs_)) (fun k_ hk_ => hk_.1.1.2)); replace HO_388000 := Aside0.mk (Kd.R_mono (ok' := fun k_ => some k_ ≠ (.slice Ao42 t366.length co42 : Value).ownBlock ∧ some k_ ≠ (.slice Ao48 t371.length co48 : Value).ownBlock ∧ some k_ ≠ (.slice Ao99 t389.length co99 : Value).ownBlock) (Kd.R_keptB (HO_388000.out) hkp (fun k_ hk_ hs_ => (hk_.1.2) hs_)) (fun k_ hk_ => ⟨hk_.1.1.1, hk_.1.1.2, hk_.1.2⟩)); replace BK352 := Aside0.mk (blk_kept (kb_ BK352.out) hkp (fun hs_ => (fun e_ => (Kd.R_ne HO_375000.out BK352.out (by decide)) e_) hs_)); replace BK353 := Aside0.mk (blk_kept (kb_ BK353.out) hkp (fun hs_ => (fun e_ => (Kd.R_ne HO_375000.out BK353.out (by decide)) e_) hs_)); replace BK370 := Aside0.mk (blk_kept (kb_ BK370.out) hkp (fun hs_ => (fun e_ => (Kd.R_ne HO_375000.out BK370.out (by decide)) e_) hs_)); replace BK374 := Aside0.mk (blk_kept (kb_ BK374.out) hkp (fun hs_ => (fun e_ => (Kd.R_ne HO_375000.out BK374.out (by decide)) e_) hs_)); replace BK382 := Aside0.mk (blk_kept (kb_ BK382.out) hkp (fun hs_ => (fun e_ => (Kd.R_ne HO_375000.out BK382.out (by decide)) e_) hs_)); replace BK387 := Aside0.mk (blk_kept (kb_ BK387.out) hkp (fun hs_ => (fun e_ => (Kd.R_ne HO_375000.out BK387.out (by decide)) e_) hs_)); replace HO391 := Aside0.mk (Kd.R_mono (ok' := fun k_ => some k_ ≠ (.slice Ao42 t366.length co42 : Value).ownBlock ∧ some k_ ≠ (.slice Ao48 t371.length co48 : Value).ownBlock ∧ some k_ ≠ (.slice Ao66 t383.length co66 : Value).ownBlock) (Kd.R_keptB (HO391.out) hkp (fun k_ hk_ hs_ => (hk_.1.2) hs_)) (fun k_ hk_ => ⟨hk_.1.1.1.2, hk_.1.1.2, hk_.1.2⟩)); replace HO399 := Aside0.mk (Kd.R_mono (ok' := fun k_ => some k_ ≠ (.slice Ao62 t379.length co62 : Value).ownBlock) (Kd.R_keptB ((Kd.R_apart' HO399.out (Kd.R_typed HO_375000.out) (by decide))) hkp (fun k_ hk_ hs_ => (hk_.2) hs_)) (fun k_ hk_ => hk_.1.1.2)); replace HO_375000 := Aside0.mk (Kd.R_reok rfl hy0 (fun k_ e_ => HO_375000.out.1 k_ e_)); replace HB := Aside0.mk (hb); (try clear hb); (try clear hkp); (try clear hy0); have hnb112 := NB382_352.out; have hnc112 := NB352_382.out; have hnb113 := NB382_353.out; have hnc113 := NB353_382.out; have hnb114 := NB382_370.out; have hnc114 := NB370_382.out; have hnb115 := NB382_387.out; have hnc115 := NB387_382.out; obtain ⟨hcz116_0, hcz116_1, hcz116_2, hcz116_3, hcz116_4, hfz116_0, hfz116_1, hfz116_2, hfz116_3, hfz116_4⟩ := cf5_ BK382.out) | ((with_reducible refine gate_callee (f := 22) rfl ?_); refine gl_ 73 Try.func22 #[.agg #[.int .i64 t375, .int .i64 t376, .int .i64 t377, .int .i64 t378, .slice Ao62 t379.length co62], .int .i64 t401] rfl ma_ ?_; (with_reducible refine (laws_markBatch.calls kj25 t375 t376 t377 t378 (fun k_ => some k_ = (.slice Ao62 t379.length co62 : Value).ownBlock) (.slice Ao62 t379.length co62) t379 t401 t403 t404 w _ ?side1 ?side2 A95.out).mono ?_); (case side1 => repeat (first | (with_reducible first | exact HB.out | apply below_alloc | apply pw_below_drewN | apply below_drew1 | refine below_set ?_ GE352.out | refine below_set ?_ GE353.out | refine below_set ?_ GE370.out | refine below_set ?_ GE374.out | refine below_set ?_ GE382.out | refine below_set ?_ GE387.out) | exact HB.out)); (case side2 => exact Kd.R_tight rfl HO_383004.out); rintro e w117 ⟨rfl, hy0, hb, hkp⟩; refine ⟨_, rfl, ?_⟩; replace HO_371000 := Aside0.mk (Kd.R_mono (ok' := fun k_ => some k_ ≠ (.slice Ao48 t371.length co48 : Value).ownBlock ∧ some k_ ≠ (.slice Ao66 t383.length co66 : Value).ownBlock ∧ some k_ ≠ (.slice Ao99 t389.length co99 : Value).ownBlock) (Kd.R_keptB ((Kd.R_apart' HO_371000.out (Kd.R_typed HO_383004.out) (by decide))) hkp (fun k_ hk_ hs_ => (hk_.2) hs_)) (fun k_ hk_ => ⟨hk_.1.1.1, hk_.1.1.2.1, hk_.1.1.2.2⟩)); replace HO_375000 := Aside0.mk (Kd.R_mono (ok' := fun k_ => some k_ ≠ (.slice Ao42 t366.length co42 : Value).ownBlock ∧ some k_ ≠ (.slice Ao66 t383.length co66 : Value).ownBlock ∧ some k_ ≠ (.slice Ao99 t389.length co99 : Value).ownBlock) (Kd.R_keptB ((Kd.R_apart' HO_375000.out (Kd.R_typed HO_383004.out) (by decide))) hkp (fun k_ hk_ hs_ => (hk_.2) hs_)) (fun k_ hk_ => ⟨hk_.1.1.1.1, hk_.1.1.1.2, hk_.1.1.2⟩)); replace HO_388000 := Aside0.mk (Kd.R_mono (ok' := fun k_ => some k_ ≠ (.slice Ao42 t366.length co42 : Value).ownBlock ∧ some k_ ≠ (.slice Ao48 t371.length co48 : Value).ownBlock ∧ some k_ ≠ (.slice Ao99 t389.length co99 : Value).ownBlock) (Kd.R_keptB ((Kd.R_apart' HO_388000.out (Kd.R_typed HO_383004.out) (by decide))) hkp (fun k_ hk_ hs_ => (hk_.2) hs_)) (fun k_ hk_ => ⟨hk_.1.1.1, hk_.1.1.2.1, hk_.1.1.2.2⟩)); replace BK352 := Aside0.mk (blk_kept (kb_ BK352.out) hkp (fun hs_ => (fun e_ => (Kd.R_ne HO_383004.out BK352.out (by decide)) e_) hs_)); replace BK353 := Aside0.mk (blk_kept (kb_ BK353.out) hkp (fun hs_ => (fun e_ => (Kd.R_ne HO_383004.out BK353.out (by decide)) e_) hs_)); replace BK370 := Aside0.mk (blk_kept (kb_ BK370.out) hkp (fun hs_ => (fun e_ => (Kd.R_ne HO_383004.out BK370.out (by decide)) e_) hs_)); replace BK374 := Aside0.mk (blk_kept (kb_ BK374.out) hkp (fun hs_ => (fun e_ => (Kd.R_ne HO_383004.out BK374.out (by decide)) e_) hs_)); replace BK382 := Aside0.mk (blk_kept (kb_ BK382.out) hkp (fun hs_ => (fun e_ => (Kd.R_ne HO_383004.out BK382.out (by decide)) e_) hs_)); replace BK387 := Aside0.mk (blk_kept (kb_ BK387.out) hkp (fun hs_ => (fun e_ => (Kd.R_ne HO_383004.out BK387.out (by decide)) e_) hs_)); replace HO391 := Aside0.mk (Kd.R_mono (ok' := fun k_ => some k_ ≠ (.slice Ao42 t366.length co42 : Value).ownBlock ∧ some k_ ≠ (.slice Ao48 t371.length co48 : Value).ownBlock ∧ some k_ ≠ (.slice Ao66 t383.length co66 : Value).ownBlock) (Kd.R_keptB ((Kd.R_apart' HO391.out (Kd.R_typed HO_383004.out) (by decide))) hkp (fun k_ hk_ hs_ => (hk_.2) hs_)) (fun k_ hk_ => ⟨hk_.1.1.1, hk_.1.1.2.1, hk_.1.1.2.2⟩)); replace HO_383004 := Aside0.mk (Kd.R_reok rfl hy0 (fun k_ e_ => HO_383004.out.1 k_ e_)); replace HO399 := Aside0.mk (Kd.R_mono (ok' := fun k_ => some k_ ≠ (.slice Ao62 t379.length co62 : Value).ownBlock) (Kd.R_keptB (HO399.out) hkp (fun k_ hk_ hs_ => (hk_) hs_)) (fun k_ hk_ => hk_.1)); replace HB := Aside0.mk (hb); (try clear hb); (try clear hkp); (try clear hy0)))
   (try simp only [Act.put, List.setIfInBounds_toArray, List.set_cons_zero, List.set_cons_succ])
   go_cut [86] (fun v86 wc => ∃ (kq : Nat) (x86_95 : Bool), v86 = .bool x86_95 ∧ Aside0 (laws_FnExactWriteBatch.j1 kq a1 t369 x86_95 l0_0 a2_0 a2_1 a2_2 a2_3 l2_4 t366 t383 = some r) ∧ Aside0 (kq ≤ kj25) ∧ Aside0 (Kd.R k56 56 wc w.heap.size (fun k_ => some k_ ≠ ((.slice Ao48 t371.length co48) : Value).ownBlock ∧ some k_ ≠ ((.slice Ao66 t383.length co66) : Value).ownBlock) (.slice Ao42 t366.length co42) t366) ∧ Aside0 (Kd.R k56 56 wc w.heap.size (fun k_ => some k_ ≠ ((.slice Ao42 t366.length co42) : Value).ownBlock ∧ some k_ ≠ ((.slice Ao66 t383.length co66) : Value).ownBlock) (.slice Ao48 t371.length co48) t402) ∧ Aside0 (Kd.R Kd.string 9 wc w.heap.size (fun _ => True) (.slice Ao62 t379.length co62) t404) ∧ Aside0 (Kd.R k56 56 wc w.heap.size (fun k_ => some k_ ≠ ((.slice Ao42 t366.length co42) : Value).ownBlock ∧ some k_ ≠ ((.slice Ao48 t371.length co48) : Value).ownBlock) (.slice Ao66 t383.length co66) t383) ∧ Aside0 (wc.heap[gb352]? = some (.cells #[(.slice A0_0 l0_0.length c0_0)] 24 (0, 0))) ∧ Aside0 (wc.heap[gb353]? = some (.cells #[.int .i64 a2_0, .int .i64 a2_1, .int .i64 a2_2, .int .i64 a2_3, (.slice A2_4 l2_4.length c2_4)] 40 (0, 0))) ∧ Aside0 (wc.heap[gb370]? = some (.cells #[(.slice Ao42 t366.length co42)] 31 (0, 0))) ∧ Aside0 (wc.heap[gb374]? = some (.cells #[(.slice Ao48 t371.length co48)] 31 (0, 0))) ∧ Aside0 (wc.heap[gb382]? = some (.cells #[.int .i64 t375, .int .i64 t376, .int .i64 t377, .int .i64 t378, (.slice Ao62 t379.length co62)] 44 (0, 0))) ∧ Aside0 (wc.heap[gb387]? = some (.cells #[(.slice Ao66 t383.length co66)] 31 (0, 0))) ∧ Aside0 (Below w.heap.size w wc))
   case first =>
    have H := HC96.out
    clear HC96
    replace H := ifx_ H
    obtain ⟨c118, H⟩ := H
    have c118b0 := decide_eq_false c118
    clear c118
    (first | rw [c118b0] | (simp only [i64_w, i32_w]; rw [c118b0]) | rw [c118b1] | skip)
    replace H := bnd_ H
    obtain ⟨t405, A119, H⟩ := H
    replace H := ifb_ H
    obtain ⟨rfl, H⟩ | ⟨rfl, H⟩ := H
    rotate_left
    ·exact absurd H (by simp)
    have H' := Aside0.mk H
    clear H
    have hnb121 := NB387_352.out
    have hnc121 := NB352_387.out
    have hnb122 := NB387_353.out
    have hnc122 := NB353_387.out
    have hnb123 := NB387_370.out
    have hnc123 := NB370_387.out
    have hnb124 := NB387_374.out
    have hnc124 := NB374_387.out
    have hnb125 := NB387_382.out
    have hnc125 := NB382_387.out
    obtain ⟨hcz126_0, hfz126_0⟩ := cf1_ BK387.out
    have hnb127 := NB370_352.out
    have hnc127 := NB352_370.out
    have hnb128 := NB370_353.out
    have hnc128 := NB353_370.out
    have hnb129 := NB370_374.out
    have hnc129 := NB374_370.out
    have hnb130 := NB370_382.out
    have hnc130 := NB382_370.out
    obtain ⟨hcz131_0, hfz131_0⟩ := cf1_ BK370.out
    go_wp2_with (first | (go_at_call 13; (with_reducible refine (laws_eqDisk.calls kj25 _ _ t383 _ _ t366 true _ ?side1 ?side2 ?side3 ?side4 A119.out).mono ?_); (case side1 => exact cs_ ((Kd.R_reads' HO_388000.out).2.2)); (case side2 => exact (Kd.R_reads' HO_388000.out).2.1); (case side3 => exact cs_ ((Kd.R_reads' HO_371000.out).2.2)); (case side4 => exact (Kd.R_reads' HO_371000.out).2.1); rintro e w132 ⟨rfl, hb⟩; replace HO_371000 := rB_ HO_371000 hb; replace HO_375000 := rB_ HO_375000 hb; replace HO_383004 := rB_ HO_383004 hb; replace HO_388000 := rB_ HO_388000 hb; replace HO391 := rB_ HO391 hb; replace HO399 := rB_ HO399 hb; replace BK352 := bK_ BK352 hb; replace BK353 := bK_ BK353 hb; replace BK370 := bK_ BK370 hb; replace BK374 := bK_ BK374 hb; replace BK382 := bK_ BK382 hb; replace BK387 := bK_ BK387 hb; replace HB := nc6_ GE352 GE353 GE370 GE374 GE382 GE387 hb; (try clear hb); (try clear hb2); (try clear hk); (try clear hi)))
    go_meet
    case rel => exact ⟨_, ((t386 != t369)), sr_, H', ⟨by have := HJ25.out; first | omega | exact Nat.le_refl _⟩, ⟨by (with_reducible repeat (first | apply Kd.R_alloc | apply Kd.R_drewN | apply Kd.R_drew)); exact Kd.R_mono HO_371000.out (fun _ hk => ⟨hk.1, hk.2.1⟩)⟩, ⟨by (with_reducible repeat (first | apply Kd.R_alloc | apply Kd.R_drewN | apply Kd.R_drew)); exact Kd.R_mono HO_375000.out (fun _ hk => ⟨hk.1, hk.2.1⟩)⟩, ⟨by (with_reducible repeat (first | apply Kd.R_alloc | apply Kd.R_drewN | apply Kd.R_drew)); exact Kd.R_mono HO_383004.out (fun _ hk => trivial)⟩, ⟨by (with_reducible repeat (first | apply Kd.R_alloc | apply Kd.R_drewN | apply Kd.R_drew)); exact Kd.R_mono HO_388000.out (fun _ hk => ⟨hk.1, hk.2.1⟩)⟩, ⟨kb_ BK352.out⟩, ⟨kb_ BK353.out⟩, ⟨kb_ BK370.out⟩, ⟨kb_ BK374.out⟩, ⟨kb_ BK382.out⟩, ⟨kb_ BK387.out⟩, ⟨hs6_ GE352.out GE353.out GE370.out GE374.out GE382.out GE387.out⟩⟩
   case rest =>
    clear HC96
    try clear c1
    try clear c2
    try clear p2
    try clear c4
    try clear c5
    try clear c6
    try clear c7
    try clear c8
    try clear c9
    try clear c10
    try clear c11
    try clear c12
    try clear c13
    try clear c14
    try clear c18
    try clear c19
    try clear c20
    try clear c21
    try clear c22
    try clear c44
    try clear c49
    try clear c50
    try clear c51
    try clear c53
    try clear c57
    try clear c58
    try clear c59
    try clear c60
    try clear c67
    try clear c68
    try clear c69
    try clear c70
    try clear c71
    try clear c74
    try clear c75
    try clear c76
    try clear c77
    try clear c78
    try clear c79
    try clear c81
    try clear c82
    try clear c83
    try clear c84
    try clear c87
    try clear c90
    try clear c93
    try clear c105
    try clear c106
    try clear c107
    try clear c108
    try clear c109
    try clear c112
    try clear c113
    try clear c114
    try clear c115
    try clear c118
    try clear c118b0
    try clear c120
    try clear c121
    try clear c122
    try clear c123
    try clear c124
    try clear c125
    try clear c127
    try clear c128
    try clear c129
    try clear c130
    try clear hcz110_0
    try clear hcz116_0
    try clear hcz116_1
    try clear hcz116_2
    try clear hcz116_3
    try clear hcz116_4
    try clear hcz126_0
    try clear hcz131_0
    try clear hcz45_0
    try clear hcz52_0
    try clear hcz54_0
    try clear hcz54_1
    try clear hcz54_2
    try clear hcz54_3
    try clear hcz54_4
    try clear hcz61_0
    try clear hcz61_1
    try clear hcz61_2
    try clear hcz61_3
    try clear hcz61_4
    try clear hcz63_0
    try clear hcz72_0
    try clear hcz80_0
    try clear hcz85_0
    try clear hfz110_0
    try clear hfz116_0
    try clear hfz116_1
    try clear hfz116_2
    try clear hfz116_3
    try clear hfz116_4
    try clear hfz126_0
    try clear hfz131_0
    try clear hfz45_0
    try clear hfz52_0
    try clear hfz54_0
    try clear hfz54_1
    try clear hfz54_2
    try clear hfz54_3
    try clear hfz54_4
    try clear hfz61_0
    try clear hfz61_1
    try clear hfz61_2
    try clear hfz61_3
    try clear hfz61_4
    try clear hfz63_0
    try clear hfz72_0
    try clear hfz80_0
    try clear hfz85_0
    try clear p2
    obtain ⟨kq, x86_95, rfl, HA, HJ95, HO_371000, HO_375000, HO_383004, HO_388000, BK352, BK353, BK370, BK374, BK382, BK387, HB⟩ := hcut
    have hl375000_95 := (Kd.R_reads' HO_375000.out).1
    rw [hl375000_95] at HO_375000
    (try simp only [hl375000_95])
    (try simp only [hl375000_95] at BK352)
    (try simp only [hl375000_95] at BK353)
    (try simp only [hl375000_95] at BK370)
    (try simp only [hl375000_95] at BK374)
    (try simp only [hl375000_95] at BK382)
    (try simp only [hl375000_95] at BK387)
    (try simp only [hl375000_95] at HO_371000)
    (try simp only [hl375000_95] at HO_383004)
    (try simp only [hl375000_95] at HO_388000)
    have hl383004_95 := (Kd.R_reads' HO_383004.out).1
    rw [hl383004_95] at HO_383004
    (try simp only [hl383004_95])
    (try simp only [hl383004_95] at BK352)
    (try simp only [hl383004_95] at BK353)
    (try simp only [hl383004_95] at BK370)
    (try simp only [hl383004_95] at BK374)
    (try simp only [hl383004_95] at BK382)
    (try simp only [hl383004_95] at BK387)
    (try simp only [hl383004_95] at HO_371000)
    (try simp only [hl383004_95] at HO_375000)
    (try simp only [hl383004_95] at HO_388000)
    cases kq with
    | zero => exact absurd HA.out (by simp [laws_FnExactWriteBatch.j1])
    | succ kj95 =>
     have H := HA.out
     clear HA
     simp only [laws_FnExactWriteBatch.j1] at H
     replace H := ifb_ H
     obtain ⟨rfl, H⟩ | ⟨rfl, H⟩ := H
     ·exact absurd H (by simp)
     replace H := bnd_ H
     obtain ⟨⟨t406, t407⟩, A134, H⟩ := H
     replace H := red_ H
     replace H := bnd_ H
     obtain ⟨t408, A135, H⟩ := H
     replace H := ifx_ H
     obtain ⟨c136, H⟩ := H
     have c136b0 := decide_eq_false c136
     clear c136
     replace H := ifs_ H
     obtain ⟨c137, H⟩ := H
     have c137b0 : (t408 == t406) = true := beq_iff_eq.mpr c137
     have c137b1 : (t408 != t406) = false := bne_eq_false_iff_eq.mpr c137
     clear c137
     replace H := bnd_ H
     obtain ⟨t409, A138, H⟩ := H
     replace H := bnd_ H
     obtain ⟨⟨t412, t413, t414, t415, t416⟩, A139, H⟩ := H
     replace H := red_ H
     replace H := bnd_ H
     obtain ⟨⟨t419, t422⟩, A140, H⟩ := H
     replace H := red_ H
     have HC141 := Aside0.mk H
     clear H
     have hnb142 := NB387_352.out
     have hnc142 := NB352_387.out
     have hnb143 := NB387_353.out
     have hnc143 := NB353_387.out
     have hnb144 := NB387_370.out
     have hnc144 := NB370_387.out
     have hnb145 := NB387_374.out
     have hnc145 := NB374_387.out
     have hnb146 := NB387_382.out
     have hnc146 := NB382_387.out
     obtain ⟨hcz147_0, hfz147_0⟩ := cf1_ BK387.out
     try go_wp2_with (first | ((with_reducible refine gate_callee (f := 14) rfl ?_); refine gl_ 89 Try.func14 #[.agg #[.slice Ao66 t383.length co66], .int .i64 1] rfl ma_ ?_; (with_reducible refine (laws_markDisk.calls kj95 (fun k_ => some k_ = (.slice Ao66 t383.length co66 : Value).ownBlock) (.slice Ao66 t383.length co66) t383 1 t406 t407 w _ ?side1 ?side2 A134.out).mono ?_); (case side1 => repeat (first | (with_reducible first | exact HB.out | apply below_alloc | apply pw_below_drewN | apply below_drew1 | refine below_set ?_ GE352.out | refine below_set ?_ GE353.out | refine below_set ?_ GE370.out | refine below_set ?_ GE374.out | refine below_set ?_ GE382.out | refine below_set ?_ GE387.out) | exact HB.out)); (case side2 => exact Kd.R_tight rfl HO_388000.out); rintro e w148 ⟨rfl, hy0, hb, hkp⟩; refine ⟨_, rfl, ?_⟩; replace HO_371000 := Aside0.mk (Kd.R_mono (ok' := fun k_ => some k_ ≠ (.slice Ao48 t402.length co48 : Value).ownBlock ∧ some k_ ≠ (.slice Ao66 t383.length co66 : Value).ownBlock) (Kd.R_keptB (HO_371000.out) hkp (fun k_ hk_ hs_ => (hk_.2) hs_)) (fun k_ hk_ => ⟨hk_.1.1, hk_.1.2⟩)); replace HO_375000 := Aside0.mk (Kd.R_mono (ok' := fun k_ => some k_ ≠ (.slice Ao42 t366.length co42 : Value).ownBlock ∧ some k_ ≠ (.slice Ao66 t383.length co66 : Value).ownBlock) (Kd.R_keptB (HO_375000.out) hkp (fun k_ hk_ hs_ => (hk_.2) hs_)) (fun k_ hk_ => ⟨hk_.1.1, hk_.1.2⟩)); replace HO_383004 := Aside0.mk (Kd.R_mono (ok' := fun k_ => True) (Kd.R_keptB ((Kd.R_apart' HO_383004.out (Kd.R_typed HO_388000.out) (by decide))) hkp (fun k_ hk_ hs_ => (hk_.2) hs_)) (fun k_ hk_ => trivial)); replace BK352 := Aside0.mk (blk_kept (kb_ BK352.out) hkp (fun hs_ => (fun e_ => (Kd.R_ne HO_388000.out BK352.out (by decide)) e_) hs_)); replace BK353 := Aside0.mk (blk_kept (kb_ BK353.out) hkp (fun hs_ => (fun e_ => (Kd.R_ne HO_388000.out BK353.out (by decide)) e_) hs_)); replace BK370 := Aside0.mk (blk_kept (kb_ BK370.out) hkp (fun hs_ => (fun e_ => (Kd.R_ne HO_388000.out BK370.out (by decide)) e_) hs_)); replace BK374 := Aside0.mk (blk_kept (kb_ BK374.out) hkp (fun hs_ => (fun e_ => (Kd.R_ne HO_388000.out BK374.out (by decide)) e_) hs_)); replace BK382 := Aside0.mk (blk_kept (kb_ BK382.out) hkp (fun hs_ => (fun e_ => (Kd.R_ne HO_388000.out BK382.out (by decide)) e_) hs_)); replace BK387 := Aside0.mk (blk_kept (kb_ BK387.out) hkp (fun hs_ => (fun e_ => (Kd.R_ne HO_388000.out BK387.out (by decide)) e_) hs_)); replace HO_388000 := Aside0.mk (Kd.R_reok rfl hy0 (fun k_ e_ => HO_388000.out.1 k_ e_)); replace HB := Aside0.mk (hb); (try clear hb); (try clear hkp); (try clear hy0); obtain ⟨hcz149_0, hfz149_0⟩ := cf1_ BK387.out) | ((with_reducible refine gate_callee (f := 23) rfl ?_); refine gl_ 92 Try.func23 #[.agg #[.slice Ao66 t407.length co66], .int .i64 1] rfl (by (try simp only [List.map_toArray, List.map_cons, List.map_nil]); first | done | (rw [show t407.length = t383.length from (Kd.R_reads' HO_388000.out).1.symm] <;> rfl) | rfl | (simp only [List.length_drop, List.length_take]; rfl)) ?_; (with_reducible refine (laws_heldDisk.calls kj95 _ _ t407 1 t408 _ ?side1 ?side2 A135.out).mono ?_); (case side1 => exact cs_ ((Kd.R_reads' HO_388000.out).2.2)); (case side2 => rw [show t407.length = t383.length from (Kd.R_reads' HO_388000.out).1.symm]; exact (Kd.R_reads' HO_388000.out).2.1); rintro e w150 ⟨rfl, hb⟩; refine ⟨_, rfl, ?_⟩; replace HO_371000 := rB_ HO_371000 hb; replace HO_375000 := rB_ HO_375000 hb; replace HO_383004 := rB_ HO_383004 hb; replace HO_388000 := rB_ HO_388000 hb; replace BK352 := bK_ BK352 hb; replace BK353 := bK_ BK353 hb; replace BK370 := bK_ BK370 hb; replace BK374 := bK_ BK374 hb; replace BK382 := bK_ BK382 hb; replace BK387 := bK_ BK387 hb; replace HB := nc6_ GE352 GE353 GE370 GE374 GE382 GE387 hb; (try clear hb); (try clear hb2); (try clear hk); (try clear hi)))
     replace HO_371000 := qR_ HO_371000
     replace HO_375000 := qR_ HO_375000
     replace HO_383004 := qR_ HO_383004
     replace HO_388000 := qR_ HO_388000
     replace BK352 := qK_ BK352
     replace BK353 := qK_ BK353
     replace BK370 := qK_ BK370
     replace BK374 := qK_ BK374
     replace BK382 := qK_ BK382
     replace BK387 := qK_ BK387
     replace HB := qH_ HB
     refine start_ (n := 12) (S := fun w' => w'.cell? ⟨gb352, 0, none⟩ = some (.slice A0_0 l0_0.length c0_0) ∧ w'.cell? ⟨gb353, 0, none⟩ = some (.int .i64 a2_0) ∧ w'.cell? ⟨gb353, 1, none⟩ = some (.int .i64 a2_1) ∧ w'.cell? ⟨gb353, 2, none⟩ = some (.int .i64 a2_2) ∧ w'.cell? ⟨gb353, 3, none⟩ = some (.int .i64 a2_3) ∧ w'.cell? ⟨gb353, 4, none⟩ = some (.slice A2_4 l2_4.length c2_4)) (ds := []) #[false, false, false, false, false, false, false, false, false, false, false, false] (by kernel_rfl) rfl rfl ⟨(blk_cell BK352.out 0).trans rfl, (blk_cell BK353.out 0).trans rfl, (blk_cell BK353.out 1).trans rfl, (blk_cell BK353.out 2).trans rfl, (blk_cell BK353.out 3).trans rfl, (blk_cell BK353.out 4).trans rfl⟩ (fun hHeld => ?_); refine with_tabW laws_FnExactWriteBatch.tab31 laws_FnExactWriteBatch.bits31 (fun HT_ HW_ => ?_)
     generalize w150.drew = w151 at HO_371000 HO_375000 HO_383004 HO_388000 BK352 BK353 BK370 BK374 BK382 BK387 HB hHeld ⊢
     refine pv_ 2 101 ?_
     refine take_ (i := 0) (N := some 99) (v := ?_) (a' := ?_) #[true, false, true, false, false, false, false, false, false, false, false, false] rfl rfl (take_ofW HT_.out HW_.out (by kernel_rfl)) (fun _ _ _ h => h) (Or.inl ⟨by rfl, ?_⟩) hHeld ?_ ?_
     rotate_left
     ·rintro w' ⟨s0, s1, s2, s3, s4, s5⟩
      go_simp
      with_reducible rfl
     rotate_left
     ·simp only [Act.put, List.setIfInBounds_toArray, List.set_cons_zero, List.set_cons_succ, i64_w, i32_w]
      rfl
     refine take_ (i := 3) (N := some 102) (v := ?_) (a' := ?_) #[true, false, true, true, false, false, false, false, false, false, false, false] rfl rfl (take_ofW HT_.out HW_.out (by kernel_rfl)) (fun _ _ _ h => h) (Or.inl ⟨by rfl, ?_⟩) hHeld ?_ ?_
     rotate_left
     ·rintro w' ⟨s0, s1, s2, s3, s4, s5⟩
      go_simp
      with_reducible rfl
     rotate_left
     ·simp only [Act.put, List.setIfInBounds_toArray, List.set_cons_zero, List.set_cons_succ, i64_w, i32_w]
      rfl
     refine join_ (σ := Value × Value × Value × Nat) 2 #[true, true, true, true, true, true, true, true, true, true, false, false] (fun s_ => [(100, .agg #[s_.1]), (103, .agg #[.int .i64 t412, .int .i64 t413, .int .i64 t414, .int .i64 t415, s_.2.1]), (104, .tuple #[.agg #[s_.2.2.1], .bool t422]), (17, .pointer (some ⟨s_.2.2.2, 0, none⟩)), (98, .tuple #[.agg #[s_.2.2.1], .bool t422]), (105, .agg #[s_.2.2.1]), (106, .bool t422)]) (fun s_ w' => (w'.cell? ⟨gb352, 0, none⟩ = some (.slice A0_0 l0_0.length c0_0) ∧ w'.cell? ⟨gb353, 0, none⟩ = some (.int .i64 a2_0) ∧ w'.cell? ⟨gb353, 1, none⟩ = some (.int .i64 a2_1) ∧ w'.cell? ⟨gb353, 2, none⟩ = some (.int .i64 a2_2) ∧ w'.cell? ⟨gb353, 3, none⟩ = some (.int .i64 a2_3) ∧ w'.cell? ⟨gb353, 4, none⟩ = some (.slice A2_4 l2_4.length c2_4)) ∧ (Kd.R k56 56 w' w.heap.size (fun k_ => some k_ ≠ (s_.2.2.1 : Value).ownBlock ∧ some k_ ≠ (.slice Ao42 t366.length co42 : Value).ownBlock ∧ some k_ ≠ (.slice Ao48 t402.length co48 : Value).ownBlock ∧ some k_ ≠ (.slice Ao66 t383.length co66 : Value).ownBlock) s_.1 t409) ∧ (Kd.R Kd.string 9 w' w.heap.size (fun k_ => some k_ ≠ (.slice Ao62 t404.length co62 : Value).ownBlock) s_.2.1 t416) ∧ (Kd.R k56 56 w' w.heap.size (fun k_ => some k_ ≠ (s_.1 : Value).ownBlock ∧ some k_ ≠ (.slice Ao42 t366.length co42 : Value).ownBlock ∧ some k_ ≠ (.slice Ao48 t402.length co48 : Value).ownBlock ∧ some k_ ≠ (.slice Ao66 t383.length co66 : Value).ownBlock) s_.2.2.1 t419) ∧ (Kd.R k56 56 w' w.heap.size (fun k_ => some k_ ≠ (s_.1 : Value).ownBlock ∧ some k_ ≠ (s_.2.2.1 : Value).ownBlock ∧ some k_ ≠ (.slice Ao48 t402.length co48 : Value).ownBlock ∧ some k_ ≠ (.slice Ao66 t383.length co66 : Value).ownBlock) (.slice Ao42 t366.length co42) t366) ∧ (Kd.R k56 56 w' w.heap.size (fun k_ => some k_ ≠ (s_.1 : Value).ownBlock ∧ some k_ ≠ (s_.2.2.1 : Value).ownBlock ∧ some k_ ≠ (.slice Ao42 t366.length co42 : Value).ownBlock ∧ some k_ ≠ (.slice Ao66 t383.length co66 : Value).ownBlock) (.slice Ao48 t402.length co48) t402) ∧ (Kd.R Kd.string 9 w' w.heap.size (fun k_ => some k_ ≠ (s_.2.1 : Value).ownBlock) (.slice Ao62 t404.length co62) t404) ∧ (Kd.R k56 56 w' w.heap.size (fun k_ => some k_ ≠ (s_.1 : Value).ownBlock ∧ some k_ ≠ (s_.2.2.1 : Value).ownBlock ∧ some k_ ≠ (.slice Ao42 t366.length co42 : Value).ownBlock ∧ some k_ ≠ (.slice Ao48 t402.length co48 : Value).ownBlock) (.slice Ao66 t383.length co66) t407) ∧ (w'.heap[gb352]? = some (.cells #[.slice A0_0 l0_0.length c0_0] 24 (0, 0))) ∧ (w'.heap[gb353]? = some (.cells #[.int .i64 a2_0, .int .i64 a2_1, .int .i64 a2_2, .int .i64 a2_3, .slice A2_4 l2_4.length c2_4] 40 (0, 0))) ∧ (w'.heap[gb370]? = some (.cells #[.slice Ao42 t366.length co42] 31 (0, 0))) ∧ (w'.heap[gb374]? = some (.cells #[.slice Ao48 t402.length co48] 31 (0, 0))) ∧ (w'.heap[gb382]? = some (.cells #[.int .i64 t375, .int .i64 t376, .int .i64 t377, .int .i64 t378, .slice Ao62 t404.length co62] 44 (0, 0))) ∧ (w'.heap[gb387]? = some (.cells #[.slice Ao66 t383.length co66] 31 (0, 0))) ∧ (w'.heap[s_.2.2.2]? = some (.cells #[.slice none 0 0] 31 (0, 0))) ∧ (w.heap.size ≤ s_.2.2.2) ∧ (w.heap.size ≤ s_.2.2.2) ∧ (gb352 ≠ s_.2.2.2) ∧ (s_.2.2.2 ≠ gb352) ∧ (gb353 ≠ s_.2.2.2) ∧ (s_.2.2.2 ≠ gb353) ∧ (gb370 ≠ s_.2.2.2) ∧ (s_.2.2.2 ≠ gb370) ∧ (gb374 ≠ s_.2.2.2) ∧ (s_.2.2.2 ≠ gb374) ∧ (gb382 ≠ s_.2.2.2) ∧ (s_.2.2.2 ≠ gb382) ∧ (gb387 ≠ s_.2.2.2) ∧ (s_.2.2.2 ≠ gb387) ∧ (Below w.heap.size w w')) ?_ ?_
     rotate_left
     ·intro hCont
      refine two_ (i := 1) (j := 9) (Ni := some 100) (Nj := some 17) #[true, true, true, true, false, false, false, false, false, false, false, false] #[true, false, true, true, false, false, false, false, false, true, false, false] rfl rfl rfl rfl (two_of HT_.out (by kernel_rfl)) (by decide) (by decide) (fun K hK => ?_) (fun K hK => ?_)
      ·skip
       refine gs_ Try.func10 #[.agg #[.slice A0_0 l0_0.length c0_0]] rfl ma_ ?_
       with_reducible refine (laws_toDisk.calls kj95 _ _ l0_0 t409 _ ?side1 ?side2 A138.out).mono ?_
       (case side1 => exact cs_ ((Kd.C_below HR0_0.out HB.out)))
       (case side2 => exact HC0_0.out)
       rintro e w152 ⟨v410, rfl, ho0, hb⟩
       refine ⟨_, rfl, ?_⟩
       replace HO_383004 := rB_ HO_383004 hb
       have HO411 := Aside0.mk (Kd.R_lower (Kd.R_new' (Kd.R_new' (Kd.R_new' ho0 (Kd.R_lt (kr_ HO_371000.out))) (Kd.R_lt (kr_ HO_375000.out))) (Kd.R_lt (kr_ HO_388000.out))) (below_size (hs6_ GE352.out GE353.out GE370.out GE374.out GE382.out GE387.out)))
       replace HO_371000 := Aside0.mk (Kd.R_elder' (kr_ HO_371000.out) (Kd.R_base ho0) hb)
       replace HO_375000 := Aside0.mk (Kd.R_elder' (kr_ HO_375000.out) (Kd.R_base ho0) hb)
       replace HO_388000 := Aside0.mk (Kd.R_elder' (kr_ HO_388000.out) (Kd.R_base ho0) hb)
       replace BK352 := bK_ BK352 hb
       replace BK353 := bK_ BK353 hb
       replace BK370 := bK_ BK370 hb
       replace BK374 := bK_ BK374 hb
       replace BK382 := bK_ BK382 hb
       replace BK387 := bK_ BK387 hb
       replace HB := nc6_ GE352 GE353 GE370 GE374 GE382 GE387 hb
       (try clear hb)
       (try clear hb2)
       (try clear hk)
       (try clear hi)
       (try clear ho0)
       refine hK.out _ _ ⟨(blk_cell BK352.out 0).trans rfl, (blk_cell BK353.out 0).trans rfl, (blk_cell BK353.out 1).trans rfl, (blk_cell BK353.out 2).trans rfl, (blk_cell BK353.out 3).trans rfl, (blk_cell BK353.out 4).trans rfl⟩ (fun hHeld => ?_)
       clear hK K
       refine no_ ?_
       refine two_ (i := 4) (j := 9) (Ni := some 103) (Nj := some 17) #[true, true, true, true, true, false, false, false, false, false, false, false] #[true, true, true, true, false, false, false, false, false, true, false, false] rfl rfl rfl rfl (two_of HT_.out (by kernel_rfl)) (by decide) (by decide) (fun K hK => ?_) (fun K hK => ?_)
       ·skip
        refine gs_ Try.func19 #[.agg #[.int .i64 a2_0, .int .i64 a2_1, .int .i64 a2_2, .int .i64 a2_3, .slice A2_4 l2_4.length c2_4]] rfl ma_ ?_
        with_reducible refine (laws_toBatch.calls kj95 a2_0 a2_1 a2_2 a2_3 _ _ l2_4 t412 t413 t414 t415 t416 _ ?side1 ?side2 A139.out).mono ?_
        (case side1 => exact cs_ ((Kd.C_below HR2_4.out HB.out)))
        (case side2 => exact HC2_4.out)
        rintro e w153 ⟨v417, rfl, ho0, hb⟩
        refine ⟨_, rfl, ?_⟩
        replace HO_371000 := rB_ HO_371000 hb
        replace HO_375000 := rB_ HO_375000 hb
        replace HO_388000 := rB_ HO_388000 hb
        replace HO411 := rB_ HO411 hb
        have HO418 := Aside0.mk (Kd.R_lower (Kd.R_new' ho0 (Kd.R_lt (kr_ HO_383004.out))) (below_size (hs6_ GE352.out GE353.out GE370.out GE374.out GE382.out GE387.out)))
        replace HO_383004 := Aside0.mk (Kd.R_elder' (kr_ HO_383004.out) (Kd.R_base ho0) hb)
        replace BK352 := bK_ BK352 hb
        replace BK353 := bK_ BK353 hb
        replace BK370 := bK_ BK370 hb
        replace BK374 := bK_ BK374 hb
        replace BK382 := bK_ BK382 hb
        replace BK387 := bK_ BK387 hb
        replace HB := nc6_ GE352 GE353 GE370 GE374 GE382 GE387 hb
        (try clear hb)
        (try clear hb2)
        (try clear hk)
        (try clear hi)
        (try clear ho0)
        obtain ⟨Ao154, co154, eo154⟩ := Kd.R_slice HO411.out
        (first | subst eo154 | (injection eo154 with f1_ f2_ f3_; have f4_ := f1_.symm; have f5_ := f3_.symm; clear f1_ f2_ f3_; subst f4_; subst f5_))
        obtain ⟨Ao155, co155, eo155⟩ := Kd.R_slice HO418.out
        (first | subst eo155 | (injection eo155 with f1_ f2_ f3_; have f4_ := f1_.symm; have f5_ := f3_.symm; clear f1_ f2_ f3_; subst f4_; subst f5_))
        refine hK.out _ _ ⟨(blk_cell BK352.out 0).trans rfl, (blk_cell BK353.out 0).trans rfl, (blk_cell BK353.out 1).trans rfl, (blk_cell BK353.out 2).trans rfl, (blk_cell BK353.out 3).trans rfl, (blk_cell BK353.out 4).trans rfl⟩ (fun hHeld => ?_)
        clear hK K
        refine no_ ?_
        refine two_ (i := 5) (j := 9) (Ni := some 104) (Nj := some 17) #[true, true, true, true, true, true, false, false, false, false, false, false] #[true, true, true, true, true, false, false, false, false, true, false, false] rfl rfl rfl rfl (two_of HT_.out (by kernel_rfl)) (by decide) (by decide) (fun K hK => ?_) (fun K hK => ?_)
        ·skip
         refine gs_ Try.func20 #[.agg #[.slice Ao154 t409.length co154], .int .i64 a1, .agg #[.int .i64 t412, .int .i64 t413, .int .i64 t414, .int .i64 t415, .slice Ao155 t416.length co155]] rfl ma_ ?_
         with_reducible refine (impl_WriteBatch.calls kj95 _ _ t409 a1 t412 t413 t414 t415 _ _ t416 t419 t422 _ ?side1 ?side2 ?side3 ?side4 A140.out).mono ?_
         (case side1 => exact cs_ ((Kd.R_reads' HO411.out).2.2))
         (case side2 => exact (Kd.R_reads' HO411.out).2.1)
         (case side3 => exact cs_ ((Kd.R_reads' HO418.out).2.2))
         (case side4 => exact (Kd.R_reads' HO418.out).2.1)
         rintro e w156 ⟨v420, rfl, ho0, hb⟩
         refine ⟨_, rfl, ?_⟩
         replace HO_383004 := rB_ HO_383004 hb
         replace HO418 := rB_ HO418 hb
         have HO421 := Aside0.mk (Kd.R_lower (Kd.R_new' (Kd.R_new' (Kd.R_new' (Kd.R_new' ho0 (Kd.R_lt (kr_ HO_371000.out))) (Kd.R_lt (kr_ HO_375000.out))) (Kd.R_lt (kr_ HO_388000.out))) (Kd.R_lt (kr_ HO411.out))) (below_size (hs6_ GE352.out GE353.out GE370.out GE374.out GE382.out GE387.out)))
         replace HO_371000 := Aside0.mk (Kd.R_elder' (kr_ HO_371000.out) (Kd.R_base ho0) hb)
         replace HO_375000 := Aside0.mk (Kd.R_elder' (kr_ HO_375000.out) (Kd.R_base ho0) hb)
         replace HO_388000 := Aside0.mk (Kd.R_elder' (kr_ HO_388000.out) (Kd.R_base ho0) hb)
         replace HO411 := Aside0.mk (Kd.R_elder' (kr_ HO411.out) (Kd.R_base ho0) hb)
         replace BK352 := bK_ BK352 hb
         replace BK353 := bK_ BK353 hb
         replace BK370 := bK_ BK370 hb
         replace BK374 := bK_ BK374 hb
         replace BK382 := bK_ BK382 hb
         replace BK387 := bK_ BK387 hb
         replace HB := nc6_ GE352 GE353 GE370 GE374 GE382 GE387 hb
         (try clear hb)
         (try clear hb2)
         (try clear hk)
         (try clear hi)
         (try clear ho0)
         refine hK.out _ _ ⟨(blk_cell BK352.out 0).trans rfl, (blk_cell BK353.out 0).trans rfl, (blk_cell BK353.out 1).trans rfl, (blk_cell BK353.out 2).trans rfl, (blk_cell BK353.out 3).trans rfl, (blk_cell BK353.out 4).trans rfl⟩ (fun hHeld => ?_)
         clear hK K
         refine no_ ?_
         refine pv_ 6 98 ?_
         refine pv_ 7 105 ?_
         refine pv_ 8 106 ?_
         refine one_ (i := 9) (N := some 17) #[true, true, true, true, true, true, true, true, true, true, false, false] rfl rfl (one_of HT_.out (by kernel_rfl)) (by decide) (fun K hK => ?_)
         refine bs_ (N := 17) #[.slice none 0 0] 31 ?_
         intro gb423 hg w157 hbox hb
         replace HO_371000 := rB_ HO_371000 hb
         replace HO_375000 := rB_ HO_375000 hb
         replace HO_383004 := rB_ HO_383004 hb
         replace HO_388000 := rB_ HO_388000 hb
         replace HO411 := rB_ HO411 hb
         replace HO418 := rB_ HO418 hb
         replace HO421 := rB_ HO421 hb
         have BK423 := Aside0.mk (hbox)
         have GW423 := ge6_ hg GE352 GE353 GE370 GE374 GE382 GE387
         have GE423 := ge6_ hg GE352 GE353 GE370 GE374 GE382 GE387
         replace HB := nc6_ GE352 GE353 GE370 GE374 GE382 GE387 hb
         have NB352_423 := nl_ BK352 hg
         have NB423_352 := ng_ BK352 hg
         replace BK352 := bK_ BK352 hb
         have NB353_423 := nl_ BK353 hg
         have NB423_353 := ng_ BK353 hg
         replace BK353 := bK_ BK353 hb
         have NB370_423 := nl_ BK370 hg
         have NB423_370 := ng_ BK370 hg
         replace BK370 := bK_ BK370 hb
         have NB374_423 := nl_ BK374 hg
         have NB423_374 := ng_ BK374 hg
         replace BK374 := bK_ BK374 hb
         have NB382_423 := nl_ BK382 hg
         have NB423_382 := ng_ BK382 hg
         replace BK382 := bK_ BK382 hb
         have NB387_423 := nl_ BK387 hg
         have NB423_387 := ng_ BK387 hg
         replace BK387 := bK_ BK387 hb
         clear hb hbox hg
         refine hK.out _ _ ⟨(blk_cell BK352.out 0).trans rfl, (blk_cell BK353.out 0).trans rfl, (blk_cell BK353.out 1).trans rfl, (blk_cell BK353.out 2).trans rfl, (blk_cell BK353.out 3).trans rfl, (blk_cell BK353.out 4).trans rfl⟩ (fun hHeld => ?_)
         clear hK K
         refine no_ ?_
         exact norm_ (by simp only [putAll, Act.put, List.setIfInBounds_toArray, List.set_cons_zero, List.set_cons_succ]) (hCont (.slice Ao154 t409.length co154, .slice Ao155 t416.length co155, v420, gb423) _ ⟨hHeld, (by (with_reducible repeat (first | apply Kd.R_alloc | apply Kd.R_drewN | apply Kd.R_drew)); exact Kd.R_mono HO411.out (fun _ hk => ⟨hk.2, ⟨hk.1.1.1.2, ⟨hk.1.1.2, hk.1.2⟩⟩⟩)), (by (with_reducible repeat (first | apply Kd.R_alloc | apply Kd.R_drewN | apply Kd.R_drew)); exact Kd.R_mono HO418.out (fun _ hk => hk.2)), (by (with_reducible repeat (first | apply Kd.R_alloc | apply Kd.R_drewN | apply Kd.R_drew)); exact Kd.R_mono HO421.out (fun _ hk => ⟨hk.2, ⟨hk.1.1.1.2, ⟨hk.1.1.2, hk.1.2⟩⟩⟩)), (by (with_reducible repeat (first | apply Kd.R_alloc | apply Kd.R_drewN | apply Kd.R_drew)); exact Kd.R_mono HO_371000.out (fun _ hk => ⟨hk.1.2, ⟨hk.2, ⟨hk.1.1.1, hk.1.1.2⟩⟩⟩)), (by (with_reducible repeat (first | apply Kd.R_alloc | apply Kd.R_drewN | apply Kd.R_drew)); exact Kd.R_mono HO_375000.out (fun _ hk => ⟨hk.1.2, ⟨hk.2, ⟨hk.1.1.1, hk.1.1.2⟩⟩⟩)), (by (with_reducible repeat (first | apply Kd.R_alloc | apply Kd.R_drewN | apply Kd.R_drew)); exact Kd.R_mono HO_383004.out (fun _ hk => hk.2)), (by (with_reducible repeat (first | apply Kd.R_alloc | apply Kd.R_drewN | apply Kd.R_drew)); exact Kd.R_mono HO_388000.out (fun _ hk => ⟨hk.1.2, ⟨hk.2, ⟨hk.1.1.1, hk.1.1.2⟩⟩⟩)), (kb_ BK352.out), (kb_ BK353.out), (kb_ BK370.out), (kb_ BK374.out), (kb_ BK382.out), (kb_ BK387.out), (kb_ BK423.out), GW423.out, GE423.out, NB352_423.out, NB423_352.out, NB353_423.out, NB423_353.out, NB370_423.out, NB423_370.out, NB374_423.out, NB423_374.out, NB382_423.out, NB423_382.out, NB387_423.out, NB423_387.out, (hs7_ GE352.out GE353.out GE370.out GE374.out GE382.out GE387.out GE423.out)⟩)
        ·skip
         refine bs_ (N := 17) #[.slice none 0 0] 31 ?_
         intro gb423 hg w154 hbox hb
         replace HO_371000 := rB_ HO_371000 hb
         replace HO_375000 := rB_ HO_375000 hb
         replace HO_383004 := rB_ HO_383004 hb
         replace HO_388000 := rB_ HO_388000 hb
         replace HO411 := rB_ HO411 hb
         replace HO418 := rB_ HO418 hb
         have BK423 := Aside0.mk (hbox)
         have GW423 := ge6_ hg GE352 GE353 GE370 GE374 GE382 GE387
         have GE423 := ge6_ hg GE352 GE353 GE370 GE374 GE382 GE387
         replace HB := nc6_ GE352 GE353 GE370 GE374 GE382 GE387 hb
         have NB352_423 := nl_ BK352 hg
         have NB423_352 := ng_ BK352 hg
         replace BK352 := bK_ BK352 hb
         have NB353_423 := nl_ BK353 hg
         have NB423_353 := ng_ BK353 hg
         replace BK353 := bK_ BK353 hb
         have NB370_423 := nl_ BK370 hg
         have NB423_370 := ng_ BK370 hg
         replace BK370 := bK_ BK370 hb
         have NB374_423 := nl_ BK374 hg
         have NB423_374 := ng_ BK374 hg
         replace BK374 := bK_ BK374 hb
         have NB382_423 := nl_ BK382 hg
         have NB423_382 := ng_ BK382 hg
         replace BK382 := bK_ BK382 hb
         have NB387_423 := nl_ BK387 hg
         have NB423_387 := ng_ BK387 hg
         replace BK387 := bK_ BK387 hb
         clear hb hbox hg
         obtain ⟨Ao155, co155, eo155⟩ := Kd.R_slice HO411.out
         (first | subst eo155 | (injection eo155 with f1_ f2_ f3_; have f4_ := f1_.symm; have f5_ := f3_.symm; clear f1_ f2_ f3_; subst f4_; subst f5_))
         obtain ⟨Ao156, co156, eo156⟩ := Kd.R_slice HO418.out
         (first | subst eo156 | (injection eo156 with f1_ f2_ f3_; have f4_ := f1_.symm; have f5_ := f3_.symm; clear f1_ f2_ f3_; subst f4_; subst f5_))
         refine hK.out _ _ ⟨(blk_cell BK352.out 0).trans rfl, (blk_cell BK353.out 0).trans rfl, (blk_cell BK353.out 1).trans rfl, (blk_cell BK353.out 2).trans rfl, (blk_cell BK353.out 3).trans rfl, (blk_cell BK353.out 4).trans rfl⟩ (fun hHeld => ?_)
         clear hK K
         refine no_ ?_
         refine one_ (i := 5) (N := some 104) #[true, true, true, true, true, true, false, false, false, true, false, false] rfl rfl (one_of HT_.out (by kernel_rfl)) (by decide) (fun K hK => ?_)
         refine gs_ Try.func20 #[.agg #[.slice Ao155 t409.length co155], .int .i64 a1, .agg #[.int .i64 t412, .int .i64 t413, .int .i64 t414, .int .i64 t415, .slice Ao156 t416.length co156]] rfl ma_ ?_
         with_reducible refine (impl_WriteBatch.calls kj95 _ _ t409 a1 t412 t413 t414 t415 _ _ t416 t419 t422 _ ?side1 ?side2 ?side3 ?side4 A140.out).mono ?_
         (case side1 => exact cs_ ((Kd.R_reads' HO411.out).2.2))
         (case side2 => exact (Kd.R_reads' HO411.out).2.1)
         (case side3 => exact cs_ ((Kd.R_reads' HO418.out).2.2))
         (case side4 => exact (Kd.R_reads' HO418.out).2.1)
         rintro e w157 ⟨v420, rfl, ho0, hb⟩
         refine ⟨_, rfl, ?_⟩
         replace HO_383004 := rB_ HO_383004 hb
         replace HO418 := rB_ HO418 hb
         have HO421 := Aside0.mk (Kd.R_lower (Kd.R_new' (Kd.R_new' (Kd.R_new' (Kd.R_new' ho0 (Kd.R_lt (kr_ HO_371000.out))) (Kd.R_lt (kr_ HO_375000.out))) (Kd.R_lt (kr_ HO_388000.out))) (Kd.R_lt (kr_ HO411.out))) (below_size (hs7_ GE352.out GE353.out GE370.out GE374.out GE382.out GE387.out GE423.out)))
         replace HO_371000 := Aside0.mk (Kd.R_elder' (kr_ HO_371000.out) (Kd.R_base ho0) hb)
         replace HO_375000 := Aside0.mk (Kd.R_elder' (kr_ HO_375000.out) (Kd.R_base ho0) hb)
         replace HO_388000 := Aside0.mk (Kd.R_elder' (kr_ HO_388000.out) (Kd.R_base ho0) hb)
         replace HO411 := Aside0.mk (Kd.R_elder' (kr_ HO411.out) (Kd.R_base ho0) hb)
         replace BK352 := bK_ BK352 hb
         replace BK353 := bK_ BK353 hb
         replace BK370 := bK_ BK370 hb
         replace BK374 := bK_ BK374 hb
         replace BK382 := bK_ BK382 hb
         replace BK387 := bK_ BK387 hb
         replace BK423 := bK_ BK423 hb
         replace HB := nc7_ GE352 GE353 GE370 GE374 GE382 GE387 GE423 hb
         (try clear hb)
         (try clear hb2)
         (try clear hk)
         (try clear hi)
         (try clear ho0)
         refine hK.out _ _ ⟨(blk_cell BK352.out 0).trans rfl, (blk_cell BK353.out 0).trans rfl, (blk_cell BK353.out 1).trans rfl, (blk_cell BK353.out 2).trans rfl, (blk_cell BK353.out 3).trans rfl, (blk_cell BK353.out 4).trans rfl⟩ (fun hHeld => ?_)
         clear hK K
         refine no_ ?_
         refine pv_ 6 98 ?_
         refine pv_ 7 105 ?_
         refine pv_ 8 106 ?_
         exact norm_ (by simp only [putAll, Act.put, List.setIfInBounds_toArray, List.set_cons_zero, List.set_cons_succ]) (hCont (.slice Ao155 t409.length co155, .slice Ao156 t416.length co156, v420, gb423) _ ⟨hHeld, (by (with_reducible repeat (first | apply Kd.R_alloc | apply Kd.R_drewN | apply Kd.R_drew)); exact Kd.R_mono HO411.out (fun _ hk => ⟨hk.2, ⟨hk.1.1.1.2, ⟨hk.1.1.2, hk.1.2⟩⟩⟩)), (by (with_reducible repeat (first | apply Kd.R_alloc | apply Kd.R_drewN | apply Kd.R_drew)); exact Kd.R_mono HO418.out (fun _ hk => hk.2)), (by (with_reducible repeat (first | apply Kd.R_alloc | apply Kd.R_drewN | apply Kd.R_drew)); exact Kd.R_mono HO421.out (fun _ hk => ⟨hk.2, ⟨hk.1.1.1.2, ⟨hk.1.1.2, hk.1.2⟩⟩⟩)), (by (with_reducible repeat (first | apply Kd.R_alloc | apply Kd.R_drewN | apply Kd.R_drew)); exact Kd.R_mono HO_371000.out (fun _ hk => ⟨hk.1.2, ⟨hk.2, ⟨hk.1.1.1, hk.1.1.2⟩⟩⟩)), (by (with_reducible repeat (first | apply Kd.R_alloc | apply Kd.R_drewN | apply Kd.R_drew)); exact Kd.R_mono HO_375000.out (fun _ hk => ⟨hk.1.2, ⟨hk.2, ⟨hk.1.1.1, hk.1.1.2⟩⟩⟩)), (by (with_reducible repeat (first | apply Kd.R_alloc | apply Kd.R_drewN | apply Kd.R_drew)); exact Kd.R_mono HO_383004.out (fun _ hk => hk.2)), (by (with_reducible repeat (first | apply Kd.R_alloc | apply Kd.R_drewN | apply Kd.R_drew)); exact Kd.R_mono HO_388000.out (fun _ hk => ⟨hk.1.2, ⟨hk.2, ⟨hk.1.1.1, hk.1.1.2⟩⟩⟩)), (kb_ BK352.out), (kb_ BK353.out), (kb_ BK370.out), (kb_ BK374.out), (kb_ BK382.out), (kb_ BK387.out), (kb_ BK423.out), GW423.out, GE423.out, NB352_423.out, NB423_352.out, NB353_423.out, NB423_353.out, NB370_423.out, NB423_370.out, NB374_423.out, NB423_374.out, NB382_423.out, NB423_382.out, NB387_423.out, NB423_387.out, (hs7_ GE352.out GE353.out GE370.out GE374.out GE382.out GE387.out GE423.out)⟩)
       ·skip
        refine bs_ (N := 17) #[.slice none 0 0] 31 ?_
        intro gb423 hg w153 hbox hb
        replace HO_371000 := rB_ HO_371000 hb
        replace HO_375000 := rB_ HO_375000 hb
        replace HO_383004 := rB_ HO_383004 hb
        replace HO_388000 := rB_ HO_388000 hb
        replace HO411 := rB_ HO411 hb
        have BK423 := Aside0.mk (hbox)
        have GW423 := ge6_ hg GE352 GE353 GE370 GE374 GE382 GE387
        have GE423 := ge6_ hg GE352 GE353 GE370 GE374 GE382 GE387
        replace HB := nc6_ GE352 GE353 GE370 GE374 GE382 GE387 hb
        have NB352_423 := nl_ BK352 hg
        have NB423_352 := ng_ BK352 hg
        replace BK352 := bK_ BK352 hb
        have NB353_423 := nl_ BK353 hg
        have NB423_353 := ng_ BK353 hg
        replace BK353 := bK_ BK353 hb
        have NB370_423 := nl_ BK370 hg
        have NB423_370 := ng_ BK370 hg
        replace BK370 := bK_ BK370 hb
        have NB374_423 := nl_ BK374 hg
        have NB423_374 := ng_ BK374 hg
        replace BK374 := bK_ BK374 hb
        have NB382_423 := nl_ BK382 hg
        have NB423_382 := ng_ BK382 hg
        replace BK382 := bK_ BK382 hb
        have NB387_423 := nl_ BK387 hg
        have NB423_387 := ng_ BK387 hg
        replace BK387 := bK_ BK387 hb
        clear hb hbox hg
        refine hK.out _ _ ⟨(blk_cell BK352.out 0).trans rfl, (blk_cell BK353.out 0).trans rfl, (blk_cell BK353.out 1).trans rfl, (blk_cell BK353.out 2).trans rfl, (blk_cell BK353.out 3).trans rfl, (blk_cell BK353.out 4).trans rfl⟩ (fun hHeld => ?_)
        clear hK K
        refine no_ ?_
        refine one_ (i := 4) (N := some 103) #[true, true, true, true, true, false, false, false, false, true, false, false] rfl rfl (one_of HT_.out (by kernel_rfl)) (by decide) (fun K hK => ?_)
        refine gs_ Try.func19 #[.agg #[.int .i64 a2_0, .int .i64 a2_1, .int .i64 a2_2, .int .i64 a2_3, .slice A2_4 l2_4.length c2_4]] rfl ma_ ?_
        with_reducible refine (laws_toBatch.calls kj95 a2_0 a2_1 a2_2 a2_3 _ _ l2_4 t412 t413 t414 t415 t416 _ ?side1 ?side2 A139.out).mono ?_
        (case side1 => exact cs_ ((Kd.C_below HR2_4.out HB.out)))
        (case side2 => exact HC2_4.out)
        rintro e w154 ⟨v417, rfl, ho0, hb⟩
        refine ⟨_, rfl, ?_⟩
        replace HO_371000 := rB_ HO_371000 hb
        replace HO_375000 := rB_ HO_375000 hb
        replace HO_388000 := rB_ HO_388000 hb
        replace HO411 := rB_ HO411 hb
        have HO418 := Aside0.mk (Kd.R_lower (Kd.R_new' ho0 (Kd.R_lt (kr_ HO_383004.out))) (below_size (hs7_ GE352.out GE353.out GE370.out GE374.out GE382.out GE387.out GE423.out)))
        replace HO_383004 := Aside0.mk (Kd.R_elder' (kr_ HO_383004.out) (Kd.R_base ho0) hb)
        replace BK352 := bK_ BK352 hb
        replace BK353 := bK_ BK353 hb
        replace BK370 := bK_ BK370 hb
        replace BK374 := bK_ BK374 hb
        replace BK382 := bK_ BK382 hb
        replace BK387 := bK_ BK387 hb
        replace BK423 := bK_ BK423 hb
        replace HB := nc7_ GE352 GE353 GE370 GE374 GE382 GE387 GE423 hb
        (try clear hb)
        (try clear hb2)
        (try clear hk)
        (try clear hi)
        (try clear ho0)
        obtain ⟨Ao155, co155, eo155⟩ := Kd.R_slice HO411.out
        (first | subst eo155 | (injection eo155 with f1_ f2_ f3_; have f4_ := f1_.symm; have f5_ := f3_.symm; clear f1_ f2_ f3_; subst f4_; subst f5_))
        obtain ⟨Ao156, co156, eo156⟩ := Kd.R_slice HO418.out
        (first | subst eo156 | (injection eo156 with f1_ f2_ f3_; have f4_ := f1_.symm; have f5_ := f3_.symm; clear f1_ f2_ f3_; subst f4_; subst f5_))
        refine hK.out _ _ ⟨(blk_cell BK352.out 0).trans rfl, (blk_cell BK353.out 0).trans rfl, (blk_cell BK353.out 1).trans rfl, (blk_cell BK353.out 2).trans rfl, (blk_cell BK353.out 3).trans rfl, (blk_cell BK353.out 4).trans rfl⟩ (fun hHeld => ?_)
        clear hK K
        refine no_ ?_
        refine one_ (i := 5) (N := some 104) #[true, true, true, true, true, true, false, false, false, true, false, false] rfl rfl (one_of HT_.out (by kernel_rfl)) (by decide) (fun K hK => ?_)
        refine gs_ Try.func20 #[.agg #[.slice Ao155 t409.length co155], .int .i64 a1, .agg #[.int .i64 t412, .int .i64 t413, .int .i64 t414, .int .i64 t415, .slice Ao156 t416.length co156]] rfl ma_ ?_
        with_reducible refine (impl_WriteBatch.calls kj95 _ _ t409 a1 t412 t413 t414 t415 _ _ t416 t419 t422 _ ?side1 ?side2 ?side3 ?side4 A140.out).mono ?_
        (case side1 => exact cs_ ((Kd.R_reads' HO411.out).2.2))
        (case side2 => exact (Kd.R_reads' HO411.out).2.1)
        (case side3 => exact cs_ ((Kd.R_reads' HO418.out).2.2))
        (case side4 => exact (Kd.R_reads' HO418.out).2.1)
        rintro e w157 ⟨v420, rfl, ho0, hb⟩
        refine ⟨_, rfl, ?_⟩
        replace HO_383004 := rB_ HO_383004 hb
        replace HO418 := rB_ HO418 hb
        have HO421 := Aside0.mk (Kd.R_lower (Kd.R_new' (Kd.R_new' (Kd.R_new' (Kd.R_new' ho0 (Kd.R_lt (kr_ HO_371000.out))) (Kd.R_lt (kr_ HO_375000.out))) (Kd.R_lt (kr_ HO_388000.out))) (Kd.R_lt (kr_ HO411.out))) (below_size (hs7_ GE352.out GE353.out GE370.out GE374.out GE382.out GE387.out GE423.out)))
        replace HO_371000 := Aside0.mk (Kd.R_elder' (kr_ HO_371000.out) (Kd.R_base ho0) hb)
        replace HO_375000 := Aside0.mk (Kd.R_elder' (kr_ HO_375000.out) (Kd.R_base ho0) hb)
        replace HO_388000 := Aside0.mk (Kd.R_elder' (kr_ HO_388000.out) (Kd.R_base ho0) hb)
        replace HO411 := Aside0.mk (Kd.R_elder' (kr_ HO411.out) (Kd.R_base ho0) hb)
        replace BK352 := bK_ BK352 hb
        replace BK353 := bK_ BK353 hb
        replace BK370 := bK_ BK370 hb
        replace BK374 := bK_ BK374 hb
        replace BK382 := bK_ BK382 hb
        replace BK387 := bK_ BK387 hb
        replace BK423 := bK_ BK423 hb
        replace HB := nc7_ GE352 GE353 GE370 GE374 GE382 GE387 GE423 hb
        (try clear hb)
        (try clear hb2)
        (try clear hk)
        (try clear hi)
        (try clear ho0)
        refine hK.out _ _ ⟨(blk_cell BK352.out 0).trans rfl, (blk_cell BK353.out 0).trans rfl, (blk_cell BK353.out 1).trans rfl, (blk_cell BK353.out 2).trans rfl, (blk_cell BK353.out 3).trans rfl, (blk_cell BK353.out 4).trans rfl⟩ (fun hHeld => ?_)
        clear hK K
        refine no_ ?_
        refine pv_ 6 98 ?_
        refine pv_ 7 105 ?_
        refine pv_ 8 106 ?_
        exact norm_ (by simp only [putAll, Act.put, List.setIfInBounds_toArray, List.set_cons_zero, List.set_cons_succ]) (hCont (.slice Ao155 t409.length co155, .slice Ao156 t416.length co156, v420, gb423) _ ⟨hHeld, (by (with_reducible repeat (first | apply Kd.R_alloc | apply Kd.R_drewN | apply Kd.R_drew)); exact Kd.R_mono HO411.out (fun _ hk => ⟨hk.2, ⟨hk.1.1.1.2, ⟨hk.1.1.2, hk.1.2⟩⟩⟩)), (by (with_reducible repeat (first | apply Kd.R_alloc | apply Kd.R_drewN | apply Kd.R_drew)); exact Kd.R_mono HO418.out (fun _ hk => hk.2)), (by (with_reducible repeat (first | apply Kd.R_alloc | apply Kd.R_drewN | apply Kd.R_drew)); exact Kd.R_mono HO421.out (fun _ hk => ⟨hk.2, ⟨hk.1.1.1.2, ⟨hk.1.1.2, hk.1.2⟩⟩⟩)), (by (with_reducible repeat (first | apply Kd.R_alloc | apply Kd.R_drewN | apply Kd.R_drew)); exact Kd.R_mono HO_371000.out (fun _ hk => ⟨hk.1.2, ⟨hk.2, ⟨hk.1.1.1, hk.1.1.2⟩⟩⟩)), (by (with_reducible repeat (first | apply Kd.R_alloc | apply Kd.R_drewN | apply Kd.R_drew)); exact Kd.R_mono HO_375000.out (fun _ hk => ⟨hk.1.2, ⟨hk.2, ⟨hk.1.1.1, hk.1.1.2⟩⟩⟩)), (by (with_reducible repeat (first | apply Kd.R_alloc | apply Kd.R_drewN | apply Kd.R_drew)); exact Kd.R_mono HO_383004.out (fun _ hk => hk.2)), (by (with_reducible repeat (first | apply Kd.R_alloc | apply Kd.R_drewN | apply Kd.R_drew)); exact Kd.R_mono HO_388000.out (fun _ hk => ⟨hk.1.2, ⟨hk.2, ⟨hk.1.1.1, hk.1.1.2⟩⟩⟩)), (kb_ BK352.out), (kb_ BK353.out), (kb_ BK370.out), (kb_ BK374.out), (kb_ BK382.out), (kb_ BK387.out), (kb_ BK423.out), GW423.out, GE423.out, NB352_423.out, NB423_352.out, NB353_423.out, NB423_353.out, NB370_423.out, NB423_370.out, NB374_423.out, NB423_374.out, NB382_423.out, NB423_382.out, NB387_423.out, NB423_387.out, (hs7_ GE352.out GE353.out GE370.out GE374.out GE382.out GE387.out GE423.out)⟩)
      ·skip
       refine bs_ (N := 17) #[.slice none 0 0] 31 ?_
       intro gb423 hg w152 hbox hb
       replace HO_371000 := rB_ HO_371000 hb
       replace HO_375000 := rB_ HO_375000 hb
       replace HO_383004 := rB_ HO_383004 hb
       replace HO_388000 := rB_ HO_388000 hb
       have BK423 := Aside0.mk (hbox)
       have GW423 := ge6_ hg GE352 GE353 GE370 GE374 GE382 GE387
       have GE423 := ge6_ hg GE352 GE353 GE370 GE374 GE382 GE387
       replace HB := nc6_ GE352 GE353 GE370 GE374 GE382 GE387 hb
       have NB352_423 := nl_ BK352 hg
       have NB423_352 := ng_ BK352 hg
       replace BK352 := bK_ BK352 hb
       have NB353_423 := nl_ BK353 hg
       have NB423_353 := ng_ BK353 hg
       replace BK353 := bK_ BK353 hb
       have NB370_423 := nl_ BK370 hg
       have NB423_370 := ng_ BK370 hg
       replace BK370 := bK_ BK370 hb
       have NB374_423 := nl_ BK374 hg
       have NB423_374 := ng_ BK374 hg
       replace BK374 := bK_ BK374 hb
       have NB382_423 := nl_ BK382 hg
       have NB423_382 := ng_ BK382 hg
       replace BK382 := bK_ BK382 hb
       have NB387_423 := nl_ BK387 hg
       have NB423_387 := ng_ BK387 hg
       replace BK387 := bK_ BK387 hb
       clear hb hbox hg
       refine hK.out _ _ ⟨(blk_cell BK352.out 0).trans rfl, (blk_cell BK353.out 0).trans rfl, (blk_cell BK353.out 1).trans rfl, (blk_cell BK353.out 2).trans rfl, (blk_cell BK353.out 3).trans rfl, (blk_cell BK353.out 4).trans rfl⟩ (fun hHeld => ?_)
       clear hK K
       refine no_ ?_
       refine one_ (i := 1) (N := some 100) #[true, true, true, true, false, false, false, false, false, true, false, false] rfl rfl (one_of HT_.out (by kernel_rfl)) (by decide) (fun K hK => ?_)
       refine gs_ Try.func10 #[.agg #[.slice A0_0 l0_0.length c0_0]] rfl ma_ ?_
       with_reducible refine (laws_toDisk.calls kj95 _ _ l0_0 t409 _ ?side1 ?side2 A138.out).mono ?_
       (case side1 => exact cs_ ((Kd.C_below HR0_0.out HB.out)))
       (case side2 => exact HC0_0.out)
       rintro e w153 ⟨v410, rfl, ho0, hb⟩
       refine ⟨_, rfl, ?_⟩
       replace HO_383004 := rB_ HO_383004 hb
       have HO411 := Aside0.mk (Kd.R_lower (Kd.R_new' (Kd.R_new' (Kd.R_new' ho0 (Kd.R_lt (kr_ HO_371000.out))) (Kd.R_lt (kr_ HO_375000.out))) (Kd.R_lt (kr_ HO_388000.out))) (below_size (hs7_ GE352.out GE353.out GE370.out GE374.out GE382.out GE387.out GE423.out)))
       replace HO_371000 := Aside0.mk (Kd.R_elder' (kr_ HO_371000.out) (Kd.R_base ho0) hb)
       replace HO_375000 := Aside0.mk (Kd.R_elder' (kr_ HO_375000.out) (Kd.R_base ho0) hb)
       replace HO_388000 := Aside0.mk (Kd.R_elder' (kr_ HO_388000.out) (Kd.R_base ho0) hb)
       replace BK352 := bK_ BK352 hb
       replace BK353 := bK_ BK353 hb
       replace BK370 := bK_ BK370 hb
       replace BK374 := bK_ BK374 hb
       replace BK382 := bK_ BK382 hb
       replace BK387 := bK_ BK387 hb
       replace BK423 := bK_ BK423 hb
       replace HB := nc7_ GE352 GE353 GE370 GE374 GE382 GE387 GE423 hb
       (try clear hb)
       (try clear hb2)
       (try clear hk)
       (try clear hi)
       (try clear ho0)
       refine hK.out _ _ ⟨(blk_cell BK352.out 0).trans rfl, (blk_cell BK353.out 0).trans rfl, (blk_cell BK353.out 1).trans rfl, (blk_cell BK353.out 2).trans rfl, (blk_cell BK353.out 3).trans rfl, (blk_cell BK353.out 4).trans rfl⟩ (fun hHeld => ?_)
       clear hK K
       refine no_ ?_
       refine one_ (i := 4) (N := some 103) #[true, true, true, true, true, false, false, false, false, true, false, false] rfl rfl (one_of HT_.out (by kernel_rfl)) (by decide) (fun K hK => ?_)
       refine gs_ Try.func19 #[.agg #[.int .i64 a2_0, .int .i64 a2_1, .int .i64 a2_2, .int .i64 a2_3, .slice A2_4 l2_4.length c2_4]] rfl ma_ ?_
       with_reducible refine (laws_toBatch.calls kj95 a2_0 a2_1 a2_2 a2_3 _ _ l2_4 t412 t413 t414 t415 t416 _ ?side1 ?side2 A139.out).mono ?_
       (case side1 => exact cs_ ((Kd.C_below HR2_4.out HB.out)))
       (case side2 => exact HC2_4.out)
       rintro e w154 ⟨v417, rfl, ho0, hb⟩
       refine ⟨_, rfl, ?_⟩
       replace HO_371000 := rB_ HO_371000 hb
       replace HO_375000 := rB_ HO_375000 hb
       replace HO_388000 := rB_ HO_388000 hb
       replace HO411 := rB_ HO411 hb
       have HO418 := Aside0.mk (Kd.R_lower (Kd.R_new' ho0 (Kd.R_lt (kr_ HO_383004.out))) (below_size (hs7_ GE352.out GE353.out GE370.out GE374.out GE382.out GE387.out GE423.out)))
       replace HO_383004 := Aside0.mk (Kd.R_elder' (kr_ HO_383004.out) (Kd.R_base ho0) hb)
       replace BK352 := bK_ BK352 hb
       replace BK353 := bK_ BK353 hb
       replace BK370 := bK_ BK370 hb
       replace BK374 := bK_ BK374 hb
       replace BK382 := bK_ BK382 hb
       replace BK387 := bK_ BK387 hb
       replace BK423 := bK_ BK423 hb
       replace HB := nc7_ GE352 GE353 GE370 GE374 GE382 GE387 GE423 hb
       (try clear hb)
       (try clear hb2)
       (try clear hk)
       (try clear hi)
       (try clear ho0)
       obtain ⟨Ao155, co155, eo155⟩ := Kd.R_slice HO411.out
       (first | subst eo155 | (injection eo155 with f1_ f2_ f3_; have f4_ := f1_.symm; have f5_ := f3_.symm; clear f1_ f2_ f3_; subst f4_; subst f5_))
       obtain ⟨Ao156, co156, eo156⟩ := Kd.R_slice HO418.out
       (first | subst eo156 | (injection eo156 with f1_ f2_ f3_; have f4_ := f1_.symm; have f5_ := f3_.symm; clear f1_ f2_ f3_; subst f4_; subst f5_))
       refine hK.out _ _ ⟨(blk_cell BK352.out 0).trans rfl, (blk_cell BK353.out 0).trans rfl, (blk_cell BK353.out 1).trans rfl, (blk_cell BK353.out 2).trans rfl, (blk_cell BK353.out 3).trans rfl, (blk_cell BK353.out 4).trans rfl⟩ (fun hHeld => ?_)
       clear hK K
       refine no_ ?_
       refine one_ (i := 5) (N := some 104) #[true, true, true, true, true, true, false, false, false, true, false, false] rfl rfl (one_of HT_.out (by kernel_rfl)) (by decide) (fun K hK => ?_)
       refine gs_ Try.func20 #[.agg #[.slice Ao155 t409.length co155], .int .i64 a1, .agg #[.int .i64 t412, .int .i64 t413, .int .i64 t414, .int .i64 t415, .slice Ao156 t416.length co156]] rfl ma_ ?_
       with_reducible refine (impl_WriteBatch.calls kj95 _ _ t409 a1 t412 t413 t414 t415 _ _ t416 t419 t422 _ ?side1 ?side2 ?side3 ?side4 A140.out).mono ?_
       (case side1 => exact cs_ ((Kd.R_reads' HO411.out).2.2))
       (case side2 => exact (Kd.R_reads' HO411.out).2.1)
       (case side3 => exact cs_ ((Kd.R_reads' HO418.out).2.2))
       (case side4 => exact (Kd.R_reads' HO418.out).2.1)
       rintro e w157 ⟨v420, rfl, ho0, hb⟩
       refine ⟨_, rfl, ?_⟩
       replace HO_383004 := rB_ HO_383004 hb
       replace HO418 := rB_ HO418 hb
       have HO421 := Aside0.mk (Kd.R_lower (Kd.R_new' (Kd.R_new' (Kd.R_new' (Kd.R_new' ho0 (Kd.R_lt (kr_ HO_371000.out))) (Kd.R_lt (kr_ HO_375000.out))) (Kd.R_lt (kr_ HO_388000.out))) (Kd.R_lt (kr_ HO411.out))) (below_size (hs7_ GE352.out GE353.out GE370.out GE374.out GE382.out GE387.out GE423.out)))
       replace HO_371000 := Aside0.mk (Kd.R_elder' (kr_ HO_371000.out) (Kd.R_base ho0) hb)
       replace HO_375000 := Aside0.mk (Kd.R_elder' (kr_ HO_375000.out) (Kd.R_base ho0) hb)
       replace HO_388000 := Aside0.mk (Kd.R_elder' (kr_ HO_388000.out) (Kd.R_base ho0) hb)
       replace HO411 := Aside0.mk (Kd.R_elder' (kr_ HO411.out) (Kd.R_base ho0) hb)
       replace BK352 := bK_ BK352 hb
       replace BK353 := bK_ BK353 hb
       replace BK370 := bK_ BK370 hb
       replace BK374 := bK_ BK374 hb
       replace BK382 := bK_ BK382 hb
       replace BK387 := bK_ BK387 hb
       replace BK423 := bK_ BK423 hb
       replace HB := nc7_ GE352 GE353 GE370 GE374 GE382 GE387 GE423 hb
       (try clear hb)
       (try clear hb2)
       (try clear hk)
       (try clear hi)
       (try clear ho0)
       refine hK.out _ _ ⟨(blk_cell BK352.out 0).trans rfl, (blk_cell BK353.out 0).trans rfl, (blk_cell BK353.out 1).trans rfl, (blk_cell BK353.out 2).trans rfl, (blk_cell BK353.out 3).trans rfl, (blk_cell BK353.out 4).trans rfl⟩ (fun hHeld => ?_)
       clear hK K
       refine no_ ?_
       refine pv_ 6 98 ?_
       refine pv_ 7 105 ?_
       refine pv_ 8 106 ?_
       exact norm_ (by simp only [putAll, Act.put, List.setIfInBounds_toArray, List.set_cons_zero, List.set_cons_succ]) (hCont (.slice Ao155 t409.length co155, .slice Ao156 t416.length co156, v420, gb423) _ ⟨hHeld, (by (with_reducible repeat (first | apply Kd.R_alloc | apply Kd.R_drewN | apply Kd.R_drew)); exact Kd.R_mono HO411.out (fun _ hk => ⟨hk.2, ⟨hk.1.1.1.2, ⟨hk.1.1.2, hk.1.2⟩⟩⟩)), (by (with_reducible repeat (first | apply Kd.R_alloc | apply Kd.R_drewN | apply Kd.R_drew)); exact Kd.R_mono HO418.out (fun _ hk => hk.2)), (by (with_reducible repeat (first | apply Kd.R_alloc | apply Kd.R_drewN | apply Kd.R_drew)); exact Kd.R_mono HO421.out (fun _ hk => ⟨hk.2, ⟨hk.1.1.1.2, ⟨hk.1.1.2, hk.1.2⟩⟩⟩)), (by (with_reducible repeat (first | apply Kd.R_alloc | apply Kd.R_drewN | apply Kd.R_drew)); exact Kd.R_mono HO_371000.out (fun _ hk => ⟨hk.1.2, ⟨hk.2, ⟨hk.1.1.1, hk.1.1.2⟩⟩⟩)), (by (with_reducible repeat (first | apply Kd.R_alloc | apply Kd.R_drewN | apply Kd.R_drew)); exact Kd.R_mono HO_375000.out (fun _ hk => ⟨hk.1.2, ⟨hk.2, ⟨hk.1.1.1, hk.1.1.2⟩⟩⟩)), (by (with_reducible repeat (first | apply Kd.R_alloc | apply Kd.R_drewN | apply Kd.R_drew)); exact Kd.R_mono HO_383004.out (fun _ hk => hk.2)), (by (with_reducible repeat (first | apply Kd.R_alloc | apply Kd.R_drewN | apply Kd.R_drew)); exact Kd.R_mono HO_388000.out (fun _ hk => ⟨hk.1.2, ⟨hk.2, ⟨hk.1.1.1, hk.1.1.2⟩⟩⟩)), (kb_ BK352.out), (kb_ BK353.out), (kb_ BK370.out), (kb_ BK374.out), (kb_ BK382.out), (kb_ BK387.out), (kb_ BK423.out), GW423.out, GE423.out, NB352_423.out, NB423_352.out, NB353_423.out, NB423_353.out, NB370_423.out, NB423_370.out, NB374_423.out, NB423_374.out, NB382_423.out, NB423_382.out, NB387_423.out, NB423_387.out, (hs7_ GE352.out GE353.out GE370.out GE374.out GE382.out GE387.out GE423.out)⟩)
     rintro ⟨v410, v417, v420, gb423⟩ w158 ⟨hS_, h0_, h1_, h2_, h3_, h4_, h5_, h6_, h7_, h8_, h9_, h10_, h11_, h12_, h13_, h14_, h15_, h16_, h17_, h18_, h19_, h20_, h21_, h22_, h23_, h24_, h25_, h26_, h27_, h28_⟩
     have n0_ : Aside0 (Kd.R k56 56 w158 w.heap.size (fun k_ => some k_ ≠ (v420 : Value).ownBlock ∧ some k_ ≠ (.slice Ao42 t366.length co42 : Value).ownBlock ∧ some k_ ≠ (.slice Ao48 t402.length co48 : Value).ownBlock ∧ some k_ ≠ (.slice Ao66 t383.length co66 : Value).ownBlock) v410 t409) := ⟨h0_⟩
     have n1_ : Aside0 (Kd.R Kd.string 9 w158 w.heap.size (fun k_ => some k_ ≠ (.slice Ao62 t404.length co62 : Value).ownBlock) v417 t416) := ⟨h1_⟩
     have n2_ : Aside0 (Kd.R k56 56 w158 w.heap.size (fun k_ => some k_ ≠ (v410 : Value).ownBlock ∧ some k_ ≠ (.slice Ao42 t366.length co42 : Value).ownBlock ∧ some k_ ≠ (.slice Ao48 t402.length co48 : Value).ownBlock ∧ some k_ ≠ (.slice Ao66 t383.length co66 : Value).ownBlock) v420 t419) := ⟨h2_⟩
     have n3_ : Aside0 (Kd.R k56 56 w158 w.heap.size (fun k_ => some k_ ≠ (v410 : Value).ownBlock ∧ some k_ ≠ (v420 : Value).ownBlock ∧ some k_ ≠ (.slice Ao48 t402.length co48 : Value).ownBlock ∧ some k_ ≠ (.slice Ao66 t383.length co66 : Value).ownBlock) (.slice Ao42 t366.length co42) t366) := ⟨h3_⟩
     have n4_ : Aside0 (Kd.R k56 56 w158 w.heap.size (fun k_ => some k_ ≠ (v410 : Value).ownBlock ∧ some k_ ≠ (v420 : Value).ownBlock ∧ some k_ ≠ (.slice Ao42 t366.length co42 : Value).ownBlock ∧ some k_ ≠ (.slice Ao66 t383.length co66 : Value).ownBlock) (.slice Ao48 t402.length co48) t402) := ⟨h4_⟩
     have n5_ : Aside0 (Kd.R Kd.string 9 w158 w.heap.size (fun k_ => some k_ ≠ (v417 : Value).ownBlock) (.slice Ao62 t404.length co62) t404) := ⟨h5_⟩
     have n6_ : Aside0 (Kd.R k56 56 w158 w.heap.size (fun k_ => some k_ ≠ (v410 : Value).ownBlock ∧ some k_ ≠ (v420 : Value).ownBlock ∧ some k_ ≠ (.slice Ao42 t366.length co42 : Value).ownBlock ∧ some k_ ≠ (.slice Ao48 t402.length co48 : Value).ownBlock) (.slice Ao66 t383.length co66) t407) := ⟨h6_⟩
     have n7_ : Aside0 (w158.heap[gb352]? = some (.cells #[.slice A0_0 l0_0.length c0_0] 24 (0, 0))) := ⟨h7_⟩
     have n8_ : Aside0 (w158.heap[gb353]? = some (.cells #[.int .i64 a2_0, .int .i64 a2_1, .int .i64 a2_2, .int .i64 a2_3, .slice A2_4 l2_4.length c2_4] 40 (0, 0))) := ⟨h8_⟩
     have n9_ : Aside0 (w158.heap[gb370]? = some (.cells #[.slice Ao42 t366.length co42] 31 (0, 0))) := ⟨h9_⟩
     have n10_ : Aside0 (w158.heap[gb374]? = some (.cells #[.slice Ao48 t402.length co48] 31 (0, 0))) := ⟨h10_⟩
     have n11_ : Aside0 (w158.heap[gb382]? = some (.cells #[.int .i64 t375, .int .i64 t376, .int .i64 t377, .int .i64 t378, .slice Ao62 t404.length co62] 44 (0, 0))) := ⟨h11_⟩
     have n12_ : Aside0 (w158.heap[gb387]? = some (.cells #[.slice Ao66 t383.length co66] 31 (0, 0))) := ⟨h12_⟩
     have n13_ : Aside0 (w158.heap[gb423]? = some (.cells #[.slice none 0 0] 31 (0, 0))) := ⟨h13_⟩
     have n14_ : Aside0 (w.heap.size ≤ gb423) := ⟨h14_⟩
     have n15_ : Aside0 (w.heap.size ≤ gb423) := ⟨h15_⟩
     have n16_ : Aside0 (gb352 ≠ gb423) := ⟨h16_⟩
     have n17_ : Aside0 (gb423 ≠ gb352) := ⟨h17_⟩
     have n18_ : Aside0 (gb353 ≠ gb423) := ⟨h18_⟩
     have n19_ : Aside0 (gb423 ≠ gb353) := ⟨h19_⟩
     have n20_ : Aside0 (gb370 ≠ gb423) := ⟨h20_⟩
     have n21_ : Aside0 (gb423 ≠ gb370) := ⟨h21_⟩
     have n22_ : Aside0 (gb374 ≠ gb423) := ⟨h22_⟩
     have n23_ : Aside0 (gb423 ≠ gb374) := ⟨h23_⟩
     have n24_ : Aside0 (gb382 ≠ gb423) := ⟨h24_⟩
     have n25_ : Aside0 (gb423 ≠ gb382) := ⟨h25_⟩
     have n26_ : Aside0 (gb387 ≠ gb423) := ⟨h26_⟩
     have n27_ : Aside0 (gb423 ≠ gb387) := ⟨h27_⟩
     have n28_ : Aside0 (Below w.heap.size w w158) := ⟨h28_⟩
     clear HO_371000
     clear HO_375000
     clear HO_383004
     clear HO_388000
     clear BK352
     clear BK353
     clear BK370
     clear BK374
     clear BK382
     clear BK387
     clear HB
     clear h0_ h1_ h2_ h3_ h4_ h5_ h6_ h7_ h8_ h9_ h10_ h11_ h12_ h13_ h14_ h15_ h16_ h17_ h18_ h19_ h20_ h21_ h22_ h23_ h24_ h25_ h26_ h27_ h28_
     have HO411 := n0_
     have HO418 := n1_
     have HO421 := n2_
     have HO_371000 := n3_
     have HO_375000 := n4_
     have HO_383004 := n5_
     have HO_388000 := n6_
     have BK352 := n7_
     have BK353 := n8_
     have BK370 := n9_
     have BK374 := n10_
     have BK382 := n11_
     have BK387 := n12_
     have BK423 := n13_
     have GW423 := n14_
     have GE423 := n15_
     have NB352_423 := n16_
     have NB423_352 := n17_
     have NB353_423 := n18_
     have NB423_353 := n19_
     have NB370_423 := n20_
     have NB423_370 := n21_
     have NB374_423 := n22_
     have NB423_374 := n23_
     have NB382_423 := n24_
     have NB423_382 := n25_
     have NB387_423 := n26_
     have NB423_387 := n27_
     have HB := n28_
     clear n0_ n1_ n2_ n3_ n4_ n5_ n6_ n7_ n8_ n9_ n10_ n11_ n12_ n13_ n14_ n15_ n16_ n17_ n18_ n19_ n20_ n21_ n22_ n23_ n24_ n25_ n26_ n27_ n28_
     have hHeld : w158.cell? ⟨gb352, 0, none⟩ = some (.slice A0_0 l0_0.length c0_0) ∧ w158.cell? ⟨gb353, 0, none⟩ = some (.int .i64 a2_0) ∧ w158.cell? ⟨gb353, 1, none⟩ = some (.int .i64 a2_1) ∧ w158.cell? ⟨gb353, 2, none⟩ = some (.int .i64 a2_2) ∧ w158.cell? ⟨gb353, 3, none⟩ = some (.int .i64 a2_3) ∧ w158.cell? ⟨gb353, 4, none⟩ = some (.slice A2_4 l2_4.length c2_4) := hS_
     obtain ⟨Ao159, co159, eo159⟩ := Kd.R_slice HO421.out
     (first | subst eo159 | (injection eo159 with f1_ f2_ f3_; have f4_ := f1_.symm; have f5_ := f3_.symm; clear f1_ f2_ f3_; subst f4_; subst f5_))
     refine np_ ?_
     refine one_ (i := 10) (N := none) #[true, true, true, true, true, true, true, true, true, true, true, false] rfl rfl (one_of HT_.out (by kernel_rfl)) (by decide) (fun K hK => ?_)
     obtain ⟨hs160, hfs160⟩ := cf1_ BK423.out
     have hns160_0 := NB352_423.out
     have hns160_1 := NB353_423.out
     have hns160_2 := NB370_423.out
     have hns160_3 := NB374_423.out
     have hns160_4 := NB382_423.out
     have hns160_5 := NB387_423.out
     have hms160_0 := NB423_352.out
     have hms160_1 := NB423_353.out
     have hms160_2 := NB423_370.out
     have hms160_3 := NB423_374.out
     have hms160_4 := NB423_382.out
     have hms160_5 := NB423_387.out
     refine skip_ (w1 := ?_) (by rfl) rfl ?_ ?_
     rotate_left
     ·go_simp
      rfl
     refine hK.out _ _ ⟨((cell_far (p := ⟨gb423, _, none⟩) NB352_423.out _).trans (hHeld.1)), ((cell_far (p := ⟨gb423, _, none⟩) NB353_423.out _).trans (hHeld.2.1)), ((cell_far (p := ⟨gb423, _, none⟩) NB353_423.out _).trans (hHeld.2.2.1)), ((cell_far (p := ⟨gb423, _, none⟩) NB353_423.out _).trans (hHeld.2.2.2.1)), ((cell_far (p := ⟨gb423, _, none⟩) NB353_423.out _).trans (hHeld.2.2.2.2.1)), ((cell_far (p := ⟨gb423, _, none⟩) NB353_423.out _).trans (hHeld.2.2.2.2.2))⟩ (fun hHeld => ?_)
     clear hK K
     refine pv_ 11 18 ?_
     refine done_ (done_of HT_.out (by kernel_rfl)) ?_
     go_upto_region 32 with (fail)
     go_cut [115] (fun v115 wc => ∃ (kq : Nat) (x115_140 : Bool), v115 = .bool x115_140 ∧ Aside0 (laws_FnExactWriteBatch.j2 kq t406 x115_140 t407 = some r) ∧ Aside0 (kq ≤ kj95) ∧ Aside0 (Kd.R k56 56 wc w.heap.size (fun k_ => some k_ ≠ ((.slice Ao48 t402.length co48) : Value).ownBlock ∧ some k_ ≠ ((.slice Ao66 t383.length co66) : Value).ownBlock ∧ some k_ ≠ ((.slice Ao159 t419.length co159) : Value).ownBlock) (.slice Ao42 t366.length co42) t366) ∧ Aside0 (Kd.R k56 56 wc w.heap.size (fun k_ => some k_ ≠ ((.slice Ao42 t366.length co42) : Value).ownBlock ∧ some k_ ≠ ((.slice Ao66 t383.length co66) : Value).ownBlock ∧ some k_ ≠ ((.slice Ao159 t419.length co159) : Value).ownBlock) (.slice Ao48 t402.length co48) t402) ∧ Aside0 (Kd.R Kd.string 9 wc w.heap.size (fun _ => True) (.slice Ao62 t404.length co62) t404) ∧ Aside0 (Kd.R k56 56 wc w.heap.size (fun k_ => some k_ ≠ ((.slice Ao42 t366.length co42) : Value).ownBlock ∧ some k_ ≠ ((.slice Ao48 t402.length co48) : Value).ownBlock ∧ some k_ ≠ ((.slice Ao159 t419.length co159) : Value).ownBlock) (.slice Ao66 t383.length co66) t407) ∧ Aside0 (Kd.R k56 56 wc w.heap.size (fun k_ => some k_ ≠ ((.slice Ao42 t366.length co42) : Value).ownBlock ∧ some k_ ≠ ((.slice Ao48 t402.length co48) : Value).ownBlock ∧ some k_ ≠ ((.slice Ao66 t383.length co66) : Value).ownBlock) (.slice Ao159 t419.length co159) t419) ∧ Aside0 (wc.heap[gb352]? = some (.cells #[(.slice A0_0 l0_0.length c0_0)] 24 (0, 0))) ∧ Aside0 (wc.heap[gb353]? = some (.cells #[.int .i64 a2_0, .int .i64 a2_1, .int .i64 a2_2, .int .i64 a2_3, (.slice A2_4 l2_4.length c2_4)] 40 (0, 0))) ∧ Aside0 (wc.heap[gb370]? = some (.cells #[(.slice Ao42 t366.length co42)] 31 (0, 0))) ∧ Aside0 (wc.heap[gb374]? = some (.cells #[(.slice Ao48 t402.length co48)] 31 (0, 0))) ∧ Aside0 (wc.heap[gb382]? = some (.cells #[.int .i64 t375, .int .i64 t376, .int .i64 t377, .int .i64 t378, (.slice Ao62 t404.length co62)] 44 (0, 0))) ∧ Aside0 (wc.heap[gb387]? = some (.cells #[(.slice Ao66 t383.length co66)] 31 (0, 0))) ∧ Aside0 (wc.heap[gb423]? = some (.cells #[(.slice Ao159 t419.length co159)] 31 (0, 0))) ∧ Aside0 (Below w.heap.size w wc))
     case first =>
      have H := HC141.out
      clear HC141
      replace H := bnd_ H
      obtain ⟨t424, A161, H⟩ := H
      replace H := ifb_ H
      obtain ⟨rfl, H⟩ | ⟨rfl, H⟩ := H
      rotate_left
      ·exact absurd H (by simp)
      have H' := Aside0.mk H
      clear H
      have hnb163 := NB423_352.out
      have hnc163 := NB352_423.out
      have hnb164 := NB423_353.out
      have hnc164 := NB353_423.out
      have hnb165 := NB423_370.out
      have hnc165 := NB370_423.out
      have hnb166 := NB423_374.out
      have hnc166 := NB374_423.out
      have hnb167 := NB423_382.out
      have hnc167 := NB382_423.out
      have hnb168 := NB423_387.out
      have hnc168 := NB387_423.out
      obtain ⟨hcz169_0, hfz169_0⟩ := cf1_ BK423.out
      have hnb170 := NB370_352.out
      have hnc170 := NB352_370.out
      have hnb171 := NB370_353.out
      have hnc171 := NB353_370.out
      have hnb172 := NB370_374.out
      have hnc172 := NB374_370.out
      have hnb173 := NB370_382.out
      have hnc173 := NB382_370.out
      have hnb174 := NB370_387.out
      have hnc174 := NB387_370.out
      obtain ⟨hcz175_0, hfz175_0⟩ := cf1_ BK370.out
      go_wp2_with (first | ((with_reducible refine gate_callee (f := 13) rfl ?_); refine gl_ 109 Try.func13 #[.agg #[.slice Ao159 t419.length co159], .agg #[.slice Ao42 t366.length co42]] rfl ma_ ?_; (with_reducible refine (laws_eqDisk.calls kj95 _ _ t419 _ _ t366 true _ ?side1 ?side2 ?side3 ?side4 A161.out).mono ?_); (case side1 => refine (Kd.R_reads' (e := 56) (base := w.heap.size) (ok := fun k_ => (some k_ ≠ (v410 : Value).ownBlock ∧ (some k_ ≠ (.slice Ao42 t366.length co42 : Value).ownBlock ∧ (some k_ ≠ (.slice Ao48 t402.length co48 : Value).ownBlock ∧ some k_ ≠ (.slice Ao66 t383.length co66 : Value).ownBlock)))) (n := t419.length) (c := co159) ?_).2.2; exact (by (with_reducible repeat (first | apply Kd.R_alloc | apply Kd.R_drewN | apply Kd.R_drew)); exact (Kd.R_mono (Kd.R_far (p := ⟨gb423, 0, none⟩) (Kd.R_types HO421.out BK423.out (by decide)) (fun _ hk => hk.2) (.slice Ao159 t419.length co159)) (fun _ h_ => h_.1)))); (case side2 => exact (Kd.R_reads' HO421.out).2.1); (case side3 => refine (Kd.R_reads' (e := 56) (base := w.heap.size) (ok := fun k_ => (some k_ ≠ (v410 : Value).ownBlock ∧ (some k_ ≠ (.slice Ao159 t419.length co159 : Value).ownBlock ∧ (some k_ ≠ (.slice Ao48 t402.length co48 : Value).ownBlock ∧ some k_ ≠ (.slice Ao66 t383.length co66 : Value).ownBlock)))) (n := t366.length) (c := co42) ?_).2.2; exact (by (with_reducible repeat (first | apply Kd.R_alloc | apply Kd.R_drewN | apply Kd.R_drew)); exact (Kd.R_mono (Kd.R_far (p := ⟨gb423, 0, none⟩) (Kd.R_types HO_371000.out BK423.out (by decide)) (fun _ hk => hk.2) (.slice Ao159 t419.length co159)) (fun _ h_ => h_.1)))); (case side4 => exact (Kd.R_reads' HO_371000.out).2.1); rintro e w176 ⟨rfl, hb⟩; refine ⟨_, rfl, ?_⟩; replace HO_371000 := Aside0.mk (Kd.R_below (by (with_reducible repeat (first | apply Kd.R_alloc | apply Kd.R_drewN | apply Kd.R_drew)); exact (Kd.R_mono (Kd.R_far (p := ⟨gb423, 0, none⟩) (Kd.R_types HO_371000.out BK423.out (by decide)) (fun _ hk => hk.2) (.slice Ao159 t419.length co159)) (fun _ h_ => h_.1))) hb); replace HO_375000 := Aside0.mk (Kd.R_below (by (with_reducible repeat (first | apply Kd.R_alloc | apply Kd.R_drewN | apply Kd.R_drew)); exact (Kd.R_mono (Kd.R_far (p := ⟨gb423, 0, none⟩) (Kd.R_types HO_375000.out BK423.out (by decide)) (fun _ hk => hk.2) (.slice Ao159 t419.length co159)) (fun _ h_ => h_.1))) hb); replace HO_383004 := Aside0.mk (Kd.R_below (by (with_reducible repeat (first | apply Kd.R_alloc | apply Kd.R_drewN | apply Kd.R_drew)); exact (Kd.R_mono (Kd.R_far (p := ⟨gb423, 0, none⟩) (Kd.R_types HO_383004.out BK423.out (by decide)) (fun _ hk => hk.2) (.slice Ao159 t419.length co159)) (fun _ h_ => h_.1))) hb); replace HO_388000 := Aside0.mk (Kd.R_below (by (with_reducible repeat (first | apply Kd.R_alloc | apply Kd.R_drewN | apply Kd.R_drew)); exact (Kd.R_mono (Kd.R_far (p := ⟨gb423, 0, none⟩) (Kd.R_types HO_388000.out BK423.out (by decide)) (fun _ hk => hk.2) (.slice Ao159 t419.length co159)) (fun _ h_ => h_.1))) hb); replace HO411 := Aside0.mk (Kd.R_below (by (with_reducible repeat (first | apply Kd.R_alloc | apply Kd.R_drewN | apply Kd.R_drew)); exact (Kd.R_mono (Kd.R_far (p := ⟨gb423, 0, none⟩) (Kd.R_types HO411.out BK423.out (by decide)) (fun _ hk => hk.2) (.slice Ao159 t419.length co159)) (fun _ h_ => h_.1))) hb); replace HO418 := Aside0.mk (Kd.R_below (by (with_reducible repeat (first | apply Kd.R_alloc | apply Kd.R_drewN | apply Kd.R_drew)); exact (Kd.R_mono (Kd.R_far (p := ⟨gb423, 0, none⟩) (Kd.R_types HO418.out BK423.out (by decide)) (fun _ hk => hk.2) (.slice Ao159 t419.length co159)) (fun _ h_ => h_.1))) hb); replace HO421 := Aside0.mk (Kd.R_below (by (with_reducible repeat (first | apply Kd.R_alloc | apply Kd.R_drewN | apply Kd.R_drew)); exact (Kd.R_mono (Kd.R_far (p := ⟨gb423, 0, none⟩) (Kd.R_types HO421.out BK423.out (by decide)) (fun _ hk => hk.2) (.slice Ao159 t419.length co159)) (fun _ h_ => h_.1))) hb); replace BK352 := Aside0.mk (blk_below (g := gb352) (o := .cells #[.slice A0_0 l0_0.length c0_0] 24 (0, 0)) (by (with_reducible repeat (first | refine blk_drewN ?_ _ | refine blk_drew ?_ | refine blk_alloc ?_ _)); refine blk_far ?_ NB352_423.out _; (with_reducible repeat (first | refine blk_drewN ?_ _ | refine blk_drew ?_ | refine blk_alloc ?_ _)); exact BK352.out) hb); replace BK353 := Aside0.mk (blk_below (g := gb353) (o := .cells #[.int .i64 a2_0, .int .i64 a2_1, .int .i64 a2_2, .int .i64 a2_3, .slice A2_4 l2_4.length c2_4] 40 (0, 0)) (by (with_reducible repeat (first | refine blk_drewN ?_ _ | refine blk_drew ?_ | refine blk_alloc ?_ _)); refine blk_far ?_ NB353_423.out _; (with_reducible repeat (first | refine blk_drewN ?_ _ | refine blk_drew ?_ | refine blk_alloc ?_ _)); exact BK353.out) hb); replace BK370 := Aside0.mk (blk_below (g := gb370) (o := .cells #[.slice Ao42 t366.length co42] 31 (0, 0)) (by (with_reducible repeat (first | refine blk_drewN ?_ _ | refine blk_drew ?_ | refine blk_alloc ?_ _)); refine blk_far ?_ NB370_423.out _; (with_reducible repeat (first | refine blk_drewN ?_ _ | refine blk_drew ?_ | refine blk_alloc ?_ _)); exact BK370.out) hb); replace BK374 := Aside0.mk (blk_below (g := gb374) (o := .cells #[.slice Ao48 t402.length co48] 31 (0, 0)) (by (with_reducible repeat (first | refine blk_drewN ?_ _ | refine blk_drew ?_ | refine blk_alloc ?_ _)); refine blk_far ?_ NB374_423.out _; (with_reducible repeat (first | refine blk_drewN ?_ _ | refine blk_drew ?_ | refine blk_alloc ?_ _)); exact BK374.out) hb); replace BK382 := Aside0.mk (blk_below (g := gb382) (o := .cells #[.int .i64 t375, .int .i64 t376, .int .i64 t377, .int .i64 t378, .slice Ao62 t404.length co62] 44 (0, 0)) (by (with_reducible repeat (first | refine blk_drewN ?_ _ | refine blk_drew ?_ | refine blk_alloc ?_ _)); refine blk_far ?_ NB382_423.out _; (with_reducible repeat (first | refine blk_drewN ?_ _ | refine blk_drew ?_ | refine blk_alloc ?_ _)); exact BK382.out) hb); replace BK387 := Aside0.mk (blk_below (g := gb387) (o := .cells #[.slice Ao66 t383.length co66] 31 (0, 0)) (by (with_reducible repeat (first | refine blk_drewN ?_ _ | refine blk_drew ?_ | refine blk_alloc ?_ _)); refine blk_far ?_ NB387_423.out _; (with_reducible repeat (first | refine blk_drewN ?_ _ | refine blk_drew ?_ | refine blk_alloc ?_ _)); exact BK387.out) hb); replace BK423 := Aside0.mk (blk_below (g := gb423) (o := .cells #[.slice Ao159 t419.length co159] 31 (0, 0)) (by (with_reducible repeat (first | refine blk_drewN ?_ _ | refine blk_drew ?_ | refine blk_alloc ?_ _)); refine blk_put (cs := #[.slice none 0 0]) ?_ 0 _ rfl; (with_reducible repeat (first | refine blk_drewN ?_ _ | refine blk_drew ?_ | refine blk_alloc ?_ _)); exact BK423.out) hb); replace HB := nc7_ GE352 GE353 GE370 GE374 GE382 GE387 GE423 hb; (try clear hb); (try clear hb2); (try clear hk); (try clear hi)))
      go_meet
      case rel => exact ⟨_, ((t422 != t369)), sr_, H', ⟨by have := HJ25.out; have := HJ95.out; first | omega | exact Nat.le_refl _⟩, ⟨by (try simp only [hl375000_95]); (try simp only [hl383004_95]); (with_reducible repeat (first | apply Kd.R_alloc | apply Kd.R_drewN | apply Kd.R_drew)); exact Kd.R_mono HO_371000.out (fun _ hk => ⟨hk.2.2.1, ⟨hk.2.2.2, hk.2.1⟩⟩)⟩, ⟨by (try simp only [hl375000_95]); (try simp only [hl383004_95]); (with_reducible repeat (first | apply Kd.R_alloc | apply Kd.R_drewN | apply Kd.R_drew)); exact Kd.R_mono HO_375000.out (fun _ hk => ⟨hk.2.2.1, ⟨hk.2.2.2, hk.2.1⟩⟩)⟩, ⟨by (try simp only [hl375000_95]); (try simp only [hl383004_95]); (with_reducible repeat (first | apply Kd.R_alloc | apply Kd.R_drewN | apply Kd.R_drew)); exact Kd.R_mono HO_383004.out (fun _ hk => trivial)⟩, ⟨by (try simp only [hl375000_95]); (try simp only [hl383004_95]); (with_reducible repeat (first | apply Kd.R_alloc | apply Kd.R_drewN | apply Kd.R_drew)); exact Kd.R_mono HO_388000.out (fun _ hk => ⟨hk.2.2.1, ⟨hk.2.2.2, hk.2.1⟩⟩)⟩, ⟨by (try simp only [hl375000_95]); (try simp only [hl383004_95]); (with_reducible repeat (first | apply Kd.R_alloc | apply Kd.R_drewN | apply Kd.R_drew)); exact Kd.R_mono HO421.out (fun _ hk => ⟨hk.2.1, ⟨hk.2.2.1, hk.2.2.2⟩⟩)⟩, ⟨by (try simp only [hl375000_95]); (try simp only [hl383004_95]); (with_reducible repeat (first | refine blk_drewN ?_ _ | refine blk_drew ?_ | refine blk_alloc ?_ _)); exact BK352.out⟩, ⟨by (try simp only [hl375000_95]); (try simp only [hl383004_95]); (with_reducible repeat (first | refine blk_drewN ?_ _ | refine blk_drew ?_ | refine blk_alloc ?_ _)); exact BK353.out⟩, ⟨by (try simp only [hl375000_95]); (try simp only [hl383004_95]); (with_reducible repeat (first | refine blk_drewN ?_ _ | refine blk_drew ?_ | refine blk_alloc ?_ _)); exact BK370.out⟩, ⟨by (try simp only [hl375000_95]); (try simp only [hl383004_95]); (with_reducible repeat (first | refine blk_drewN ?_ _ | refine blk_drew ?_ | refine blk_alloc ?_ _)); exact BK374.out⟩, ⟨by (try simp only [hl375000_95]); (try simp only [hl383004_95]); (with_reducible repeat (first | refine blk_drewN ?_ _ | refine blk_drew ?_ | refine blk_alloc ?_ _)); exact BK382.out⟩, ⟨by (try simp only [hl375000_95]); (try simp only [hl383004_95]); (with_reducible repeat (first | refine blk_drewN ?_ _ | refine blk_drew ?_ | refine blk_alloc ?_ _)); exact BK387.out⟩, ⟨by (try simp only [hl375000_95]); (try simp only [hl383004_95]); (with_reducible repeat (first | refine blk_drewN ?_ _ | refine blk_drew ?_ | refine blk_alloc ?_ _)); exact BK423.out⟩, ⟨hs7_ GE352.out GE353.out GE370.out GE374.out GE382.out GE387.out GE423.out⟩⟩
     case rest =>
      clear HC141
      try clear c1
      try clear c2
      try clear p2
      try clear c10
      try clear c13
      try clear c16
      try clear c17
      try clear c19
      try clear c20
      try clear c162
      try clear c163
      try clear c164
      try clear c165
      try clear c166
      try clear c167
      try clear c168
      try clear c170
      try clear c171
      try clear c172
      try clear c173
      try clear c174
      try clear hcz169_0
      try clear hcz175_0
      try clear hfz169_0
      try clear hfz175_0
      obtain ⟨kq, x115_140, rfl, HA, HJ140, HO_371000, HO_375000, HO_383004, HO_388000, HO_424000, BK352, BK353, BK370, BK374, BK382, BK387, BK423, HB⟩ := hcut
      have hl388000_140 := (Kd.R_reads' HO_388000.out).1
      rw [hl388000_140] at HO_388000
      (try simp only [hl388000_140])
      (try simp only [hl388000_140] at BK352)
      (try simp only [hl388000_140] at BK353)
      (try simp only [hl388000_140] at BK370)
      (try simp only [hl388000_140] at BK374)
      (try simp only [hl388000_140] at BK382)
      (try simp only [hl388000_140] at BK387)
      (try simp only [hl388000_140] at BK423)
      (try simp only [hl388000_140] at HO_371000)
      (try simp only [hl388000_140] at HO_375000)
      (try simp only [hl388000_140] at HO_383004)
      (try simp only [hl388000_140] at HO_424000)
      cases kq with
      | zero => exact absurd HA.out (by simp [laws_FnExactWriteBatch.j2])
      | succ kj140 =>
       have H := HA.out
       clear HA
       simp only [laws_FnExactWriteBatch.j2] at H
       replace H := ifb_ H
       obtain ⟨rfl, H⟩ | ⟨rfl, H⟩ := H
       ·exact absurd H (by simp)
       replace H := bnd_ H
       obtain ⟨t425, A178, H⟩ := H
       replace H := ifx_ H
       obtain ⟨c179, H⟩ := H
       have c179b0 := decide_eq_false c179
       clear c179
       replace H := ifs_ H
       obtain ⟨c180, H⟩ := H
       have c180b0 : (t425 == t406) = true := beq_iff_eq.mpr c180
       have c180b1 : (t425 != t406) = false := bne_eq_false_iff_eq.mpr c180
       clear c180
       obtain rfl := Option.some.inj H
       have hnb181 := NB387_352.out
       have hnc181 := NB352_387.out
       have hnb182 := NB387_353.out
       have hnc182 := NB353_387.out
       have hnb183 := NB387_370.out
       have hnc183 := NB370_387.out
       have hnb184 := NB387_374.out
       have hnc184 := NB374_387.out
       have hnb185 := NB387_382.out
       have hnc185 := NB382_387.out
       have hnb186 := NB387_423.out
       have hnc186 := NB423_387.out
       obtain ⟨hcz187_0, hfz187_0⟩ := cf1_ BK387.out
       go_wp2_with (first | ((with_reducible refine gate_callee (f := 23) rfl ?_); refine gl_ 118 Try.func23 #[.agg #[.slice Ao66 t407.length co66], .int .i64 1] rfl ma_ ?_; (with_reducible refine (laws_heldDisk.calls kj140 _ _ t407 1 t425 _ ?side1 ?side2 A178.out).mono ?_); (case side1 => exact cs_ ((Kd.R_reads' HO_388000.out).2.2)); (case side2 => exact (Kd.R_reads' HO_388000.out).2.1); rintro e w188 ⟨rfl, hb⟩; refine ⟨_, rfl, ?_⟩; replace HO_371000 := rB_ HO_371000 hb; replace HO_375000 := rB_ HO_375000 hb; replace HO_383004 := rB_ HO_383004 hb; replace HO_388000 := rB_ HO_388000 hb; replace HO_424000 := rB_ HO_424000 hb; replace BK352 := bK_ BK352 hb; replace BK353 := bK_ BK353 hb; replace BK370 := bK_ BK370 hb; replace BK374 := bK_ BK374 hb; replace BK382 := bK_ BK382 hb; replace BK387 := bK_ BK387 hb; replace BK423 := bK_ BK423 hb; replace HB := nc7_ GE352 GE353 GE370 GE374 GE382 GE387 GE423 hb; (try clear hb); (try clear hb2); (try clear hk); (try clear hi)))
       go_ret
       exact ⟨er_, hs7_ GE352.out GE353.out GE370.out GE374.out GE382.out GE387.out GE423.out⟩

/-- The one pure statement of laws_FnExactWriteBatch. -/
def laws_FnExactWriteBatch.Pure : Prop := ∀ (x0 : S24) (a1 : Int) (x2 : S40), ok24 x0 → (Lit.int .i64 a1).wf = true → ok40 x2 → ∃ k, laws_FnExactWriteBatch.f k x0.f0 a1 x2.f0 x2.f1 x2.f2 x2.f3 x2.f4 = some true

end Go.Proofs.Ytpdpipfkllfhmaa.QFnExactWriteBatch
