/- For each Go function that one statement reaches: a plain function with the same answers, and the proof that the call comes to them. Conditions: those that each contract names. Written by a program of this repository. -/
import Derived.Test.YtopddfiiglookaaQFnMarksx0
import Derived.Test.YtopddfiiglookaaQFnMarksx3
import Derived.Test.YtopddfiiglookaaQFnMarksx6
import Derived.Test.YtopddfiiglookaaQFnMarksx7
import Derived.Test.YtopddfiiglookaaQFnMarksx8
import Derived.Test.YtopddfiiglookaaQFnMarksx9
import Derived.Test.YtopddfiiglookaaQFnMarksx10
namespace Go.Proofs.Ytopddfiiglookaa.QFnMarks
open Go.RowKit Go.Proofs.YtopddfiiglookaaW.PrintWords Go.Proofs.YtopddfiiglookaaW.PrintLast Go.Proofs.YtopddfiiglookaaW.PrintMore
attribute [local go_sem] max2_int min2_int max_two min_two max_three min_three max_four min_four Go.Proofs.YtopddfiiglookaaW.PrintMore2.isSome_setCell   -- for this text's walks alone
set_option linter.unusedVariables false
set_option linter.unusedSimpArgs false

/-! ### laws_FnMarks: function 11 -/
mutual
def laws_FnMarks.j0 : Nat → List Int → List Int → List (S60) → Bool → Bool → Option (Bool)
 | 0, _, _, _, _, _ => none
 | k + 1, x1, x5, x6, x7, x61 => if x61 = true then (none) else (if x7 = true then ((impl_GoodMarks.f k x6).bind fun t264 => (if t264 = true then ((laws_numberOf.f k x1).bind fun t265 => (if (wrap64 ((x5.length : Int) + 1)) = 0 then (none) else ((impl_CutMarks.f k x6 (Int.tmod t265 (wrap64 ((x5.length : Int) + 1)))).bind fun bt266 => (if 0 ≤ (Int.tmod t265 (wrap64 ((x5.length : Int) + 1))) then (if (Int.tmod t265 (wrap64 ((x5.length : Int) + 1))) ≤ (x5.length : Int) then ((impl_MarksOf.f k (x5.take ((Int.tmod t265 (wrap64 ((x5.length : Int) + 1))) : Int).toNat)).bind fun bt274 => (if bt266.2 = true then (if bt274.2 = true then ((laws_sameMarks.f k bt266.1 bt274.1).bind fun t278 => (laws_FnMarks.j1 k x1 x5 x6 (!t278))) else (none)) else (none))) else (none)) else (none))))) else (none))) else (laws_FnMarks.j3 k x1))
def laws_FnMarks.j3 : Nat → List Int → Option (Bool)
 | 0, _ => none
 | k + 1, x1 => (spec_DrawEndOfEpoch.f k x1).bind fun bt286 => ((impl_EndOfEpoch.f k bt286.1 bt286.2.1 bt286.2.2).bind fun bt291 => ((spec_EndOfEpoch.f k bt286.1 bt286.2.1 bt286.2.2).bind fun bt294 => ((spec_DrawCutMarks.f k x1).bind fun bt297 => ((impl_CutMarks.f k bt297.1 bt297.2).bind fun bt301 => ((spec_CutMarks.f k bt297.1 bt297.2).bind fun bt305 => (if (bt291.2.2 == bt294.2.2) = true then (if bt291.1 = bt294.1 then (if bt291.2.1 = bt294.2.1 then (if (bt301.2 == bt305.2) = true then ((laws_sameMarks.f k bt301.1 bt305.1).bind fun t309 => (if t309 = true then ((impl_GoodMarks.f k bt286.1).bind fun t310 => ((spec_GoodMarks.f k bt286.1).bind fun t311 => (some (t310 == t311)))) else (none))) else (none)) else (none)) else (none)) else (none)))))))
def laws_FnMarks.j1 : Nat → List Int → List Int → List (S60) → Bool → Option (Bool)
 | 0, _, _, _, _ => none
 | k + 1, x1, x5, x6, x96 => if x96 = true then (none) else (laws_FnMarks.l0 k x1 x5 x6 x5 (x5.length : Int) 0)
def laws_FnMarks.l0 : Nat → List Int → List Int → List (S60) → List Int → Int → Int → Option (Bool)
 | 0, _, _, _, _, _, _ => none
 | k + 1, x1, x5, x6, x97, x98, x99 => if x99 < x98 then (if 0 ≤ x99 then (if x99 < (x97.length : Int) then ((impl_EndOfEpoch.f k x6 (x5.length : Int) (rd x97 x99)).bind fun bt280 => (if bt280.2.2 = true then (if bt280.1 = (rd x97 x99) then (if bt280.2.1 ≤ x99 then (none) else (if bt280.2.1 < (x5.length : Int) then (if 0 ≤ bt280.2.1 then (if (rd x5 bt280.2.1) ≤ (rd x97 x99) then (none) else (if 0 ≤ (wrap64 (bt280.2.1 - 1)) then (if (wrap64 (bt280.2.1 - 1)) < (x5.length : Int) then (if (rd x5 (wrap64 (bt280.2.1 - 1))) = (rd x97 x99) then (laws_FnMarks.l0 k x1 x5 x6 x97 x98 (wrap64 (x99 + 1))) else (none)) else (none)) else (none))) else (none)) else (if 0 ≤ (wrap64 (bt280.2.1 - 1)) then (if (wrap64 (bt280.2.1 - 1)) < (x5.length : Int) then (if (rd x5 (wrap64 (bt280.2.1 - 1))) = (rd x97 x99) then (laws_FnMarks.l0 k x1 x5 x6 x97 x98 (wrap64 (x99 + 1))) else (none)) else (none)) else (none)))) else (none)) else (none))) else (none)) else (none)) else (laws_FnMarks.j3 k x1)
end
def laws_FnMarks.f (k : Nat) (l0 : List Int) (l1 : List Int) : Option (Bool) := if (wrap64 ((l0.length : Int) + (l1.length : Int))) > 1048576 then (some true) else ((spec_DrawMarksOf.f k l0).bind fun t252 => ((impl_MarksOf.f k t252).bind fun bt255 => ((spec_MarksOf.f k t252).bind fun bt259 => (if (bt255.2 != bt259.2) = true then (none) else ((laws_sameMarks.f k bt255.1 bt259.1).bind fun t263 => (laws_FnMarks.j0 k l1 t252 bt255.1 bt255.2 (!t263)))))))
theorem laws_FnMarks.mono_l : ∀ k, (∀ y0 y1 y2 y3 y4, LeO (laws_FnMarks.j0 k y0 y1 y2 y3 y4) (laws_FnMarks.j0 (k + 1) y0 y1 y2 y3 y4)) ∧ (∀ y0, LeO (laws_FnMarks.j3 k y0) (laws_FnMarks.j3 (k + 1) y0)) ∧ (∀ y0 y1 y2 y3, LeO (laws_FnMarks.j1 k y0 y1 y2 y3) (laws_FnMarks.j1 (k + 1) y0 y1 y2 y3)) ∧ (∀ y0 y1 y2 y3 y4 y5, LeO (laws_FnMarks.l0 k y0 y1 y2 y3 y4 y5) (laws_FnMarks.l0 (k + 1) y0 y1 y2 y3 y4 y5))
 | 0 => ⟨fun _ _ _ _ _ r h => by simp [laws_FnMarks.j0] at h, fun _ r h => by simp [laws_FnMarks.j3] at h, fun _ _ _ _ r h => by simp [laws_FnMarks.j1] at h, fun _ _ _ _ _ _ r h => by simp [laws_FnMarks.l0] at h⟩
 | k + 1 => by
  obtain ⟨ih0, ih1, ih2, ih3⟩ := laws_FnMarks.mono_l k
  refine ⟨?_, ?_, ?_, ?_⟩
  ·intro y0 y1 y2 y3 y4
   unfold laws_FnMarks.j0
   repeat' first
   | (with_reducible exact ih0 _ _ _ _ _)
   | (with_reducible exact ih1 _)
   | (with_reducible exact ih2 _ _ _ _)
   | (with_reducible exact ih3 _ _ _ _ _ _)
   | (with_reducible exact impl_CutMarks.mono _ _ _)
   | (with_reducible exact impl_EndOfEpoch.mono _ _ _ _)
   | (with_reducible exact impl_GoodMarks.mono _ _)
   | (with_reducible exact impl_MarksOf.mono _ _)
   | (with_reducible exact laws_numberOf.mono _ _)
   | (with_reducible exact laws_sameMarks.mono _ _ _)
   | (with_reducible exact spec_CutMarks.mono _ _ _)
   | (with_reducible exact spec_DrawCutMarks.mono _ _)
   | (with_reducible exact spec_DrawEndOfEpoch.mono _ _)
   | (with_reducible exact spec_DrawMarksOf.mono _ _)
   | (with_reducible exact spec_EndOfEpoch.mono _ _ _ _)
   | (with_reducible exact spec_GoodMarks.mono _ _)
   | (with_reducible exact spec_MarksOf.mono _ _)
   | (with_reducible exact LeO.refl _)
   | (with_reducible exact LeO.none _)
   | (with_reducible refine LeO.ite ?_ ?_)
   | (with_reducible refine LeO.bind ?_ (fun _ => ?_))
   | exact ih0 _ _ _ _ _
   | exact ih1 _
   | exact ih2 _ _ _ _
   | exact ih3 _ _ _ _ _ _
   | exact impl_CutMarks.mono _ _ _
   | exact impl_EndOfEpoch.mono _ _ _ _
   | exact impl_GoodMarks.mono _ _
   | exact impl_MarksOf.mono _ _
   | exact laws_numberOf.mono _ _
   | exact laws_sameMarks.mono _ _ _
   | exact spec_CutMarks.mono _ _ _
   | exact spec_DrawCutMarks.mono _ _
   | exact spec_DrawEndOfEpoch.mono _ _
   | exact spec_DrawMarksOf.mono _ _
   | exact spec_EndOfEpoch.mono _ _ _ _
   | exact spec_GoodMarks.mono _ _
   | exact spec_MarksOf.mono _ _
   | exact LeO.none _
   | refine LeO.ite ?_ ?_
   | refine LeO.bind ?_ (fun _ => ?_)
  ·intro y0
   unfold laws_FnMarks.j3
   repeat' first
   | (with_reducible exact ih0 _ _ _ _ _)
   | (with_reducible exact ih1 _)
   | (with_reducible exact ih2 _ _ _ _)
   | (with_reducible exact ih3 _ _ _ _ _ _)
   | (with_reducible exact impl_CutMarks.mono _ _ _)
   | (with_reducible exact impl_EndOfEpoch.mono _ _ _ _)
   | (with_reducible exact impl_GoodMarks.mono _ _)
   | (with_reducible exact impl_MarksOf.mono _ _)
   | (with_reducible exact laws_numberOf.mono _ _)
   | (with_reducible exact laws_sameMarks.mono _ _ _)
   | (with_reducible exact spec_CutMarks.mono _ _ _)
   | (with_reducible exact spec_DrawCutMarks.mono _ _)
   | (with_reducible exact spec_DrawEndOfEpoch.mono _ _)
   | (with_reducible exact spec_DrawMarksOf.mono _ _)
   | (with_reducible exact spec_EndOfEpoch.mono _ _ _ _)
   | (with_reducible exact spec_GoodMarks.mono _ _)
   | (with_reducible exact spec_MarksOf.mono _ _)
   | (with_reducible exact LeO.refl _)
   | (with_reducible exact LeO.none _)
   | (with_reducible refine LeO.ite ?_ ?_)
   | (with_reducible refine LeO.bind ?_ (fun _ => ?_))
   | exact ih0 _ _ _ _ _
   | exact ih1 _
   | exact ih2 _ _ _ _
   | exact ih3 _ _ _ _ _ _
   | exact impl_CutMarks.mono _ _ _
   | exact impl_EndOfEpoch.mono _ _ _ _
   | exact impl_GoodMarks.mono _ _
   | exact impl_MarksOf.mono _ _
   | exact laws_numberOf.mono _ _
   | exact laws_sameMarks.mono _ _ _
   | exact spec_CutMarks.mono _ _ _
   | exact spec_DrawCutMarks.mono _ _
   | exact spec_DrawEndOfEpoch.mono _ _
   | exact spec_DrawMarksOf.mono _ _
   | exact spec_EndOfEpoch.mono _ _ _ _
   | exact spec_GoodMarks.mono _ _
   | exact spec_MarksOf.mono _ _
   | exact LeO.none _
   | refine LeO.ite ?_ ?_
   | refine LeO.bind ?_ (fun _ => ?_)
  ·intro y0 y1 y2 y3
   unfold laws_FnMarks.j1
   repeat' first
   | (with_reducible exact ih0 _ _ _ _ _)
   | (with_reducible exact ih1 _)
   | (with_reducible exact ih2 _ _ _ _)
   | (with_reducible exact ih3 _ _ _ _ _ _)
   | (with_reducible exact impl_CutMarks.mono _ _ _)
   | (with_reducible exact impl_EndOfEpoch.mono _ _ _ _)
   | (with_reducible exact impl_GoodMarks.mono _ _)
   | (with_reducible exact impl_MarksOf.mono _ _)
   | (with_reducible exact laws_numberOf.mono _ _)
   | (with_reducible exact laws_sameMarks.mono _ _ _)
   | (with_reducible exact spec_CutMarks.mono _ _ _)
   | (with_reducible exact spec_DrawCutMarks.mono _ _)
   | (with_reducible exact spec_DrawEndOfEpoch.mono _ _)
   | (with_reducible exact spec_DrawMarksOf.mono _ _)
   | (with_reducible exact spec_EndOfEpoch.mono _ _ _ _)
   | (with_reducible exact spec_GoodMarks.mono _ _)
   | (with_reducible exact spec_MarksOf.mono _ _)
   | (with_reducible exact LeO.refl _)
   | (with_reducible exact LeO.none _)
   | (with_reducible refine LeO.ite ?_ ?_)
   | (with_reducible refine LeO.bind ?_ (fun _ => ?_))
   | exact ih0 _ _ _ _ _
   | exact ih1 _
   | exact ih2 _ _ _ _
   | exact ih3 _ _ _ _ _ _
   | exact impl_CutMarks.mono _ _ _
   | exact impl_EndOfEpoch.mono _ _ _ _
   | exact impl_GoodMarks.mono _ _
   | exact impl_MarksOf.mono _ _
   | exact laws_numberOf.mono _ _
   | exact laws_sameMarks.mono _ _ _
   | exact spec_CutMarks.mono _ _ _
   | exact spec_DrawCutMarks.mono _ _
   | exact spec_DrawEndOfEpoch.mono _ _
   | exact spec_DrawMarksOf.mono _ _
   | exact spec_EndOfEpoch.mono _ _ _ _
   | exact spec_GoodMarks.mono _ _
   | exact spec_MarksOf.mono _ _
   | exact LeO.none _
   | refine LeO.ite ?_ ?_
   | refine LeO.bind ?_ (fun _ => ?_)
  ·intro y0 y1 y2 y3 y4 y5
   unfold laws_FnMarks.l0
   repeat' first
   | (with_reducible exact ih0 _ _ _ _ _)
   | (with_reducible exact ih1 _)
   | (with_reducible exact ih2 _ _ _ _)
   | (with_reducible exact ih3 _ _ _ _ _ _)
   | (with_reducible exact impl_CutMarks.mono _ _ _)
   | (with_reducible exact impl_EndOfEpoch.mono _ _ _ _)
   | (with_reducible exact impl_GoodMarks.mono _ _)
   | (with_reducible exact impl_MarksOf.mono _ _)
   | (with_reducible exact laws_numberOf.mono _ _)
   | (with_reducible exact laws_sameMarks.mono _ _ _)
   | (with_reducible exact spec_CutMarks.mono _ _ _)
   | (with_reducible exact spec_DrawCutMarks.mono _ _)
   | (with_reducible exact spec_DrawEndOfEpoch.mono _ _)
   | (with_reducible exact spec_DrawMarksOf.mono _ _)
   | (with_reducible exact spec_EndOfEpoch.mono _ _ _ _)
   | (with_reducible exact spec_GoodMarks.mono _ _)
   | (with_reducible exact spec_MarksOf.mono _ _)
   | (with_reducible exact LeO.refl _)
   | (with_reducible exact LeO.none _)
   | (with_reducible refine LeO.ite ?_ ?_)
   | (with_reducible refine LeO.bind ?_ (fun _ => ?_))
   | exact ih0 _ _ _ _ _
   | exact ih1 _
   | exact ih2 _ _ _ _
   | exact ih3 _ _ _ _ _ _
   | exact impl_CutMarks.mono _ _ _
   | exact impl_EndOfEpoch.mono _ _ _ _
   | exact impl_GoodMarks.mono _ _
   | exact impl_MarksOf.mono _ _
   | exact laws_numberOf.mono _ _
   | exact laws_sameMarks.mono _ _ _
   | exact spec_CutMarks.mono _ _ _
   | exact spec_DrawCutMarks.mono _ _
   | exact spec_DrawEndOfEpoch.mono _ _
   | exact spec_DrawMarksOf.mono _ _
   | exact spec_EndOfEpoch.mono _ _ _ _
   | exact spec_GoodMarks.mono _ _
   | exact spec_MarksOf.mono _ _
   | exact LeO.none _
   | refine LeO.ite ?_ ?_
   | refine LeO.bind ?_ (fun _ => ?_)
theorem laws_FnMarks.mono : ∀ a0 a1 k, LeO (laws_FnMarks.f k a0 a1) (laws_FnMarks.f (k + 1) a0 a1) := by
 intro a0 a1 k
 obtain ⟨ih0, ih1, ih2, ih3⟩ := laws_FnMarks.mono_l k
 unfold laws_FnMarks.f
 repeat' first
   | (with_reducible exact ih0 _ _ _ _ _)
   | (with_reducible exact ih1 _)
   | (with_reducible exact ih2 _ _ _ _)
   | (with_reducible exact ih3 _ _ _ _ _ _)
   | (with_reducible exact impl_CutMarks.mono _ _ _)
   | (with_reducible exact impl_EndOfEpoch.mono _ _ _ _)
   | (with_reducible exact impl_GoodMarks.mono _ _)
   | (with_reducible exact impl_MarksOf.mono _ _)
   | (with_reducible exact laws_numberOf.mono _ _)
   | (with_reducible exact laws_sameMarks.mono _ _ _)
   | (with_reducible exact spec_CutMarks.mono _ _ _)
   | (with_reducible exact spec_DrawCutMarks.mono _ _)
   | (with_reducible exact spec_DrawEndOfEpoch.mono _ _)
   | (with_reducible exact spec_DrawMarksOf.mono _ _)
   | (with_reducible exact spec_EndOfEpoch.mono _ _ _ _)
   | (with_reducible exact spec_GoodMarks.mono _ _)
   | (with_reducible exact spec_MarksOf.mono _ _)
   | (with_reducible exact LeO.refl _)
   | (with_reducible exact LeO.none _)
   | (with_reducible refine LeO.ite ?_ ?_)
   | (with_reducible refine LeO.bind ?_ (fun _ => ?_))
   | exact ih0 _ _ _ _ _
   | exact ih1 _
   | exact ih2 _ _ _ _
   | exact ih3 _ _ _ _ _ _
   | exact impl_CutMarks.mono _ _ _
   | exact impl_EndOfEpoch.mono _ _ _ _
   | exact impl_GoodMarks.mono _ _
   | exact impl_MarksOf.mono _ _
   | exact laws_numberOf.mono _ _
   | exact laws_sameMarks.mono _ _ _
   | exact spec_CutMarks.mono _ _ _
   | exact spec_DrawCutMarks.mono _ _
   | exact spec_DrawEndOfEpoch.mono _ _
   | exact spec_DrawMarksOf.mono _ _
   | exact spec_EndOfEpoch.mono _ _ _ _
   | exact spec_GoodMarks.mono _ _
   | exact spec_MarksOf.mono _ _
   | exact LeO.none _
   | refine LeO.ite ?_ ?_
   | refine LeO.bind ?_ (fun _ => ?_)
set_option maxHeartbeats 8000000 in
set_option maxRecDepth 100000 in
theorem laws_FnMarks.calls (k : Nat) (A0 : Option Addr) (c0 : Nat) (l0 : List Int) (A1 : Option Addr) (c1 : Nat) (l1 : List Int) (r : Bool) (w : World) (hr0 : Kd.C (Kd.int .u8) w A0 l0.length l0) (hc0 : l0.length ≤ c0) (hr1 : Kd.C (Kd.int .u8) w A1 l1.length l1) (hc1 : l1.length ≤ c1) (h : laws_FnMarks.f k l0 l1 = some r) :
  Calls Try.prog 11 #[.slice A0 l0.length c0, .slice A1 l1.length c1] w fun e w' => e = .returned (.bool r) ∧ Below w.heap.size w w' := by
 have HR0 := Aside0.mk hr0
 have HC0 := Aside0.mk hc0
 clear hr0 hc0
 have HR1 := Aside0.mk hr1
 have HC1 := Aside0.mk hc1
 clear hr1 hc1
 have HB := Aside0.mk (Below.refl w.heap.size w)
 have H : (if (wrap64 ((l0.length : Int) + (l1.length : Int))) > 1048576 then (some true) else ((spec_DrawMarksOf.f k l0).bind fun t252 => ((impl_MarksOf.f k t252).bind fun bt255 => ((spec_MarksOf.f k t252).bind fun bt259 => (if (bt255.2 != bt259.2) = true then (none) else ((laws_sameMarks.f k bt255.1 bt259.1).bind fun t263 => (laws_FnMarks.j0 k l1 t252 bt255.1 bt255.2 (!t263)))))))) = some r := h
 clear h
 by_cases c3 : (wrap64 ((l0.length : Int) + (l1.length : Int))) > 1048576
 ·rw [if_pos c3] at H
  have c3b0 : decide (1048576 < (wrap64 ((l0.length : Int) + (l1.length : Int)))) = true := decide_eq_true c3
  clear c3
  obtain rfl := Option.some.inj H
  go_enter Try.func11, Try.ntmps11
  go_wp2
  go_ret
  exact ⟨by first | rfl | (simp [errW_none, errW_some] <;> rfl) | (simp [*, errW_none, errW_some] <;> rfl), by repeat (first | (with_reducible first | exact HB.out | apply below_alloc | apply pw_below_drewN | apply below_drew1) | exact HB.out)⟩
 ·rw [if_neg c3] at H
  have c3b0 : decide (1048576 < (wrap64 ((l0.length : Int) + (l1.length : Int)))) = false := decide_eq_false c3
  clear c3
  replace H := Option.bind_eq_some_iff.mp H
  obtain ⟨t252, A40, H⟩ := H
  replace H : ((impl_MarksOf.f k t252).bind fun bt255 => ((spec_MarksOf.f k t252).bind fun bt259 => (if (bt255.2 != bt259.2) = true then (none) else ((laws_sameMarks.f k bt255.1 bt259.1).bind fun t263 => (laws_FnMarks.j0 k l1 t252 bt255.1 bt255.2 (!t263)))))) = some r := H
  have A4 := Aside0.mk A40
  clear A40
  replace H := Option.bind_eq_some_iff.mp H
  obtain ⟨⟨t255, t256⟩, A50, H⟩ := H
  replace H : ((spec_MarksOf.f k t252).bind fun bt259 => (if (t256 != bt259.2) = true then (none) else ((laws_sameMarks.f k t255 bt259.1).bind fun t263 => (laws_FnMarks.j0 k l1 t252 t255 t256 (!t263))))) = some r := H
  have A5 := Aside0.mk A50
  clear A50
  replace H := Option.bind_eq_some_iff.mp H
  obtain ⟨⟨t259, t260⟩, A60, H⟩ := H
  replace H : (if (t256 != t260) = true then (none) else ((laws_sameMarks.f k t255 t259).bind fun t263 => (laws_FnMarks.j0 k l1 t252 t255 t256 (!t263)))) = some r := H
  have A6 := Aside0.mk A60
  clear A60
  have HC7 := Aside0.mk H
  clear H
  go_enter Try.func11, Try.ntmps11
  go_upto_region 6 with (first | ((with_reducible refine gate_callee (f := 38) rfl ?_); refine goesL_ (some 42) rfl rfl Try.func38 (by kernel_rfl) rfl #[.slice A0 l0.length c0] rfl (by (try simp only [List.map_toArray, List.map_cons, List.map_nil]); first | done | rfl | (simp only [List.length_drop, List.length_take]; rfl)) ?_; (with_reducible refine (spec_DrawMarksOf.calls k _ _ l0 t252 _ ?side1 ?side2 A4.out).mono ?_); (case side1 => repeat (first | exact HR0.out | (with_reducible refine Kd.C_alloc ?_ _) | (with_reducible refine Kd.C_drewN ?_ _) | (with_reducible refine Kd.C_drew ?_))); (case side2 => exact HC0.out); rintro e w8 ⟨v253, rfl, ho0, hb⟩; refine ⟨_, rfl, ?_⟩; have n0_ := Aside0.mk (Kd.R_lower ho0 (below_size (by repeat (first | (with_reducible first | exact HB.out | apply below_alloc | apply pw_below_drewN | apply below_drew1) | exact HB.out)))); have n1_ := Aside0.mk (below_step (by repeat (first | (with_reducible first | exact HB.out | apply below_alloc | apply pw_below_drewN | apply below_drew1) | exact HB.out)) hb); clear HB; have HO254 := n0_; have HB := n1_; clear n0_ n1_; (try clear hb); (try clear hb2); (try clear hk); (try clear hi); (try clear ho0); obtain ⟨Ao9, co9, eo9⟩ := Kd.R_slice HO254.out; subst eo9) | ((with_reducible refine gate_callee (f := 27) rfl ?_); refine goesL_ (some 45) rfl rfl Try.func27 (by kernel_rfl) rfl #[.slice Ao9 t252.length co9] rfl (by (try simp only [List.map_toArray, List.map_cons, List.map_nil]); first | done | rfl | (simp only [List.length_drop, List.length_take]; rfl)) ?_; (with_reducible refine (impl_MarksOf.calls k _ _ t252 t255 t256 _ ?side1 ?side2 A5.out).mono ?_); (case side1 => repeat (first | exact (Kd.R_reads' HO254.out).2.2 | (with_reducible refine Kd.C_alloc ?_ _) | (with_reducible refine Kd.C_drewN ?_ _) | (with_reducible refine Kd.C_drew ?_))); (case side2 => exact (Kd.R_reads' HO254.out).2.1); rintro e w10 ⟨v257, rfl, ho0, hb⟩; refine ⟨_, rfl, ?_⟩; have n0_ := Aside0.mk (Kd.R_below (by (with_reducible repeat (first | apply Kd.R_alloc | apply Kd.R_drewN | apply Kd.R_drew)); exact HO254.out) hb); have n1_ := Aside0.mk (Kd.R_lower ho0 (below_size (by repeat (first | (with_reducible first | exact HB.out | apply below_alloc | apply pw_below_drewN | apply below_drew1) | exact HB.out)))); have n2_ := Aside0.mk (below_step (by repeat (first | (with_reducible first | exact HB.out | apply below_alloc | apply pw_below_drewN | apply below_drew1) | exact HB.out)) hb); clear HO254; clear HB; have HO254 := n0_; have HO258 := n1_; have HB := n2_; clear n0_ n1_ n2_; (try clear hb); (try clear hb2); (try clear hk); (try clear hi); (try clear ho0)) | ((with_reducible refine gate_callee (f := 26) rfl ?_); refine goesL_ (some 50) rfl rfl Try.func26 (by kernel_rfl) rfl #[.slice Ao9 t252.length co9] rfl (by (try simp only [List.map_toArray, List.map_cons, List.map_nil]); first | done | rfl | (simp only [List.length_drop, List.length_take]; rfl)) ?_; (with_reducible refine (spec_MarksOf.calls k _ _ t252 t259 t260 _ ?side1 ?side2 A6.out).mono ?_); (case side1 => repeat (first | exact (Kd.R_reads' HO254.out).2.2 | (with_reducible refine Kd.C_alloc ?_ _) | (with_reducible refine Kd.C_drewN ?_ _) | (with_reducible refine Kd.C_drew ?_))); (case side2 => exact (Kd.R_reads' HO254.out).2.1); rintro e w11 ⟨v261, rfl, ho0, hb⟩; refine ⟨_, rfl, ?_⟩; have n0_ := Aside0.mk (Kd.R_below (by (with_reducible repeat (first | apply Kd.R_alloc | apply Kd.R_drewN | apply Kd.R_drew)); exact HO254.out) hb); have n1_ := Aside0.mk (Kd.R_elder' (by (with_reducible repeat (first | apply Kd.R_alloc | apply Kd.R_drewN | apply Kd.R_drew)); exact HO258.out) (Kd.R_base ho0) hb); have n2_ := Aside0.mk (Kd.R_lower (Kd.R_new' ho0 (Kd.R_lt (by (with_reducible repeat (first | apply Kd.R_alloc | apply Kd.R_drewN | apply Kd.R_drew)); exact HO258.out))) (below_size (by repeat (first | (with_reducible first | exact HB.out | apply below_alloc | apply pw_below_drewN | apply below_drew1) | exact HB.out)))); have n3_ := Aside0.mk (below_step (by repeat (first | (with_reducible first | exact HB.out | apply below_alloc | apply pw_below_drewN | apply below_drew1) | exact HB.out)) hb); clear HO254; clear HO258; clear HB; have HO254 := n0_; have HO258 := n1_; have HO262 := n2_; have HB := n3_; clear n0_ n1_ n2_ n3_; (try clear hb); (try clear hb2); (try clear hk); (try clear hi); (try clear ho0)))
  (try simp only [Act.put, List.setIfInBounds_toArray, List.set_cons_zero, List.set_cons_succ])
  go_cut [61] (fun v61 wc => ∃ (kq : Nat) (x61_6 : Bool), v61 = .bool x61_6 ∧ Aside0 (laws_FnMarks.j0 kq l1 t252 t255 t256 x61_6 = some r) ∧ Aside0 (kq ≤ k) ∧ Aside0 (Kd.R (Kd.int .i64) 3 wc w.heap.size (fun _ => True) (.slice Ao9 t252.length co9) t252) ∧ Aside0 (Kd.R k60 60 wc w.heap.size (fun _ => True) v257 t255) ∧ Aside0 (Below w.heap.size w wc))
  case first =>
   have H := HC7.out
   clear HC7
   by_cases c12 : (t256 != t260) = true
   ·rw [if_pos c12] at H
    exact absurd H (by simp)
   ·rw [if_neg c12] at H
    have c12b0 : (t256 != t260) = false := by simpa using c12
    (try (have c12b1 : decide (t256 = t260) = true := by simpa using c12))
    (try (have c12b2 : (t256 == t260) = true := by simpa using c12))
    clear c12
    (first | rw [c12b0] | (simp only [i64_w, i32_w]; rw [c12b0]) | rw [c12b1] | skip)
    replace H := Option.bind_eq_some_iff.mp H
    obtain ⟨t263, A130, H⟩ := H
    replace H : (laws_FnMarks.j0 k l1 t252 t255 t256 (!t263)) = some r := H
    have A13 := Aside0.mk A130
    clear A130
    have H' := Aside0.mk H
    clear H
    obtain ⟨Ao14, co14, eo14⟩ := Kd.R_slice HO258.out
    subst eo14
    obtain ⟨Ao15, co15, eo15⟩ := Kd.R_slice HO262.out
    subst eo15
    go_wp2_with (first | (go_at_call 39; (with_reducible refine (laws_sameMarks.calls k _ _ t255 _ _ t259 t263 _ ?side1 ?side2 ?side3 ?side4 A13.out).mono ?_); (case side1 => repeat (first | exact (Kd.R_reads' HO258.out).2.2 | (with_reducible refine Kd.C_alloc ?_ _) | (with_reducible refine Kd.C_drewN ?_ _) | (with_reducible refine Kd.C_drew ?_))); (case side2 => exact (Kd.R_reads' HO258.out).2.1); (case side3 => repeat (first | exact (Kd.R_reads' HO262.out).2.2 | (with_reducible refine Kd.C_alloc ?_ _) | (with_reducible refine Kd.C_drewN ?_ _) | (with_reducible refine Kd.C_drew ?_))); (case side4 => exact (Kd.R_reads' HO262.out).2.1); rintro e w' ⟨rfl, ⟨nd, rfl⟩⟩))
    go_meet
    case rel => exact ⟨_, (!t263), (by first | rfl | (simp; done) | (simp [*]; done)), H', ⟨by first | omega | exact Nat.le_refl _⟩, ⟨by (with_reducible repeat (first | apply Kd.R_alloc | apply Kd.R_drewN | apply Kd.R_drew)); exact HO254.out⟩, ⟨by (with_reducible repeat (first | apply Kd.R_alloc | apply Kd.R_drewN | apply Kd.R_drew)); exact Kd.R_mono HO258.out (fun _ hk => trivial)⟩, ⟨by repeat (first | (with_reducible first | exact HB.out | apply below_alloc | apply pw_below_drewN | apply below_drew1) | exact HB.out)⟩⟩
  case rest =>
   clear HC7
   try clear c1
   try clear c2
   try clear p2
   try clear c3
   try clear c3b0
   try clear p6
   try clear c11
   try clear c12
   try clear c12b0
   try clear c12b1
   try clear c12b2
   obtain ⟨kq, x61_6, rfl, HA, HJ6, HO_5, HO_6, HB⟩ := hcut
   cases kq with
   | zero => exact absurd HA.out (by simp [laws_FnMarks.j0])
   | succ kj6 =>
    have H := HA.out
    clear HA
    simp only [laws_FnMarks.j0] at H
    by_cases c16 : x61_6 = true
    ·subst c16
     have H1 : (none) = some r := by rw [if_pos rfl] at H; exact H
     clear H
     have H := H1
     clear H1
     exact absurd H (by simp)
    ·replace c16 := Bool.eq_false_iff.mpr c16
     subst c16
     have H1 : (if t256 = true then ((impl_GoodMarks.f kj6 t255).bind fun t264 => (if t264 = true then ((laws_numberOf.f kj6 l1).bind fun t265 => (if (wrap64 ((t252.length : Int) + 1)) = 0 then (none) else ((impl_CutMarks.f kj6 t255 (Int.tmod t265 (wrap64 ((t252.length : Int) + 1)))).bind fun bt266 => (if 0 ≤ (Int.tmod t265 (wrap64 ((t252.length : Int) + 1))) then (if (Int.tmod t265 (wrap64 ((t252.length : Int) + 1))) ≤ (t252.length : Int) then ((impl_MarksOf.f kj6 (t252.take ((Int.tmod t265 (wrap64 ((t252.length : Int) + 1))) : Int).toNat)).bind fun bt274 => (if bt266.2 = true then (if bt274.2 = true then ((laws_sameMarks.f kj6 bt266.1 bt274.1).bind fun t278 => (laws_FnMarks.j1 kj6 l1 t252 t255 (!t278))) else (none)) else (none))) else (none)) else (none))))) else (none))) else (laws_FnMarks.j3 kj6 l1)) = some r := by rw [if_neg (show ¬ (false = true) by decide)] at H; exact H
     clear H
     have H := H1
     clear H1
     have HC17 := Aside0.mk H
     clear H
     go_upto_if 62 with (fail)
     go_cut [] (fun wc => ∃ (kq : Nat), Aside0 (laws_FnMarks.j3 kq l1 = some r) ∧ Aside0 (kq ≤ kj6) ∧ Aside0 (Below w.heap.size w wc))
     case first =>
      have H := HC17.out
      clear HC17
      by_cases c18 : t256 = true
      ·subst c18
       have H1 : ((impl_GoodMarks.f kj6 t255).bind fun t264 => (if t264 = true then ((laws_numberOf.f kj6 l1).bind fun t265 => (if (wrap64 ((t252.length : Int) + 1)) = 0 then (none) else ((impl_CutMarks.f kj6 t255 (Int.tmod t265 (wrap64 ((t252.length : Int) + 1)))).bind fun bt266 => (if 0 ≤ (Int.tmod t265 (wrap64 ((t252.length : Int) + 1))) then (if (Int.tmod t265 (wrap64 ((t252.length : Int) + 1))) ≤ (t252.length : Int) then ((impl_MarksOf.f kj6 (t252.take ((Int.tmod t265 (wrap64 ((t252.length : Int) + 1))) : Int).toNat)).bind fun bt274 => (if bt266.2 = true then (if bt274.2 = true then ((laws_sameMarks.f kj6 bt266.1 bt274.1).bind fun t278 => (laws_FnMarks.j1 kj6 l1 t252 t255 (!t278))) else (none)) else (none))) else (none)) else (none))))) else (none))) = some r := by rw [if_pos rfl] at H; exact H
       clear H
       have H := H1
       clear H1
       replace H := Option.bind_eq_some_iff.mp H
       obtain ⟨t264, A190, H⟩ := H
       replace H : (if t264 = true then ((laws_numberOf.f kj6 l1).bind fun t265 => (if (wrap64 ((t252.length : Int) + 1)) = 0 then (none) else ((impl_CutMarks.f kj6 t255 (Int.tmod t265 (wrap64 ((t252.length : Int) + 1)))).bind fun bt266 => (if 0 ≤ (Int.tmod t265 (wrap64 ((t252.length : Int) + 1))) then (if (Int.tmod t265 (wrap64 ((t252.length : Int) + 1))) ≤ (t252.length : Int) then ((impl_MarksOf.f kj6 (t252.take ((Int.tmod t265 (wrap64 ((t252.length : Int) + 1))) : Int).toNat)).bind fun bt274 => (if bt266.2 = true then (if bt274.2 = true then ((laws_sameMarks.f kj6 bt266.1 bt274.1).bind fun t278 => (laws_FnMarks.j1 kj6 l1 t252 t255 (!t278))) else (none)) else (none))) else (none)) else (none))))) else (none)) = some r := H
       have A19 := Aside0.mk A190
       clear A190
       by_cases c20 : t264 = true
       ·subst c20
        have H1 : ((laws_numberOf.f kj6 l1).bind fun t265 => (if (wrap64 ((t252.length : Int) + 1)) = 0 then (none) else ((impl_CutMarks.f kj6 t255 (Int.tmod t265 (wrap64 ((t252.length : Int) + 1)))).bind fun bt266 => (if 0 ≤ (Int.tmod t265 (wrap64 ((t252.length : Int) + 1))) then (if (Int.tmod t265 (wrap64 ((t252.length : Int) + 1))) ≤ (t252.length : Int) then ((impl_MarksOf.f kj6 (t252.take ((Int.tmod t265 (wrap64 ((t252.length : Int) + 1))) : Int).toNat)).bind fun bt274 => (if bt266.2 = true then (if bt274.2 = true then ((laws_sameMarks.f kj6 bt266.1 bt274.1).bind fun t278 => (laws_FnMarks.j1 kj6 l1 t252 t255 (!t278))) else (none)) else (none))) else (none)) else (none))))) = some r := by rw [if_pos rfl] at H; exact H
        clear H
        have H := H1
        clear H1
        replace H := Option.bind_eq_some_iff.mp H
        obtain ⟨t265, A210, H⟩ := H
        replace H : (if (wrap64 ((t252.length : Int) + 1)) = 0 then (none) else ((impl_CutMarks.f kj6 t255 (Int.tmod t265 (wrap64 ((t252.length : Int) + 1)))).bind fun bt266 => (if 0 ≤ (Int.tmod t265 (wrap64 ((t252.length : Int) + 1))) then (if (Int.tmod t265 (wrap64 ((t252.length : Int) + 1))) ≤ (t252.length : Int) then ((impl_MarksOf.f kj6 (t252.take ((Int.tmod t265 (wrap64 ((t252.length : Int) + 1))) : Int).toNat)).bind fun bt274 => (if bt266.2 = true then (if bt274.2 = true then ((laws_sameMarks.f kj6 bt266.1 bt274.1).bind fun t278 => (laws_FnMarks.j1 kj6 l1 t252 t255 (!t278))) else (none)) else (none))) else (none)) else (none)))) = some r := H
        have A21 := Aside0.mk A210
        clear A210
        by_cases c22 : (wrap64 ((t252.length : Int) + 1)) = 0
        ·rw [if_pos c22] at H
         exact absurd H (by simp)
        ·rw [if_neg c22] at H
         have c22b0 : ((wrap64 ((t252.length : Int) + 1)) == 0) = false := beq_eq_false_iff_ne.mpr c22
         have c22b1 : ((wrap64 ((t252.length : Int) + 1)) != 0) = true := bne_iff_ne.mpr c22
         (first | rw [c22b0] | (simp only [i64_w, i32_w]; rw [c22b0]) | rw [c22b1] | skip)
         replace H := Option.bind_eq_some_iff.mp H
         obtain ⟨⟨t266, t267⟩, A230, H⟩ := H
         replace H : (if 0 ≤ (Int.tmod t265 (wrap64 ((t252.length : Int) + 1))) then (if (Int.tmod t265 (wrap64 ((t252.length : Int) + 1))) ≤ (t252.length : Int) then ((impl_MarksOf.f kj6 (t252.take ((Int.tmod t265 (wrap64 ((t252.length : Int) + 1))) : Int).toNat)).bind fun bt274 => (if t267 = true then (if bt274.2 = true then ((laws_sameMarks.f kj6 t266 bt274.1).bind fun t278 => (laws_FnMarks.j1 kj6 l1 t252 t255 (!t278))) else (none)) else (none))) else (none)) else (none)) = some r := H
         have A23 := Aside0.mk A230
         clear A230
         obtain ⟨ji24, hji24⟩ : ∃ j_ : Int, (Int.tmod t265 (wrap64 ((t252.length : Int) + 1))) = j_ := ⟨_, rfl⟩
         replace H : (if 0 ≤ (ji24) then (if (ji24) ≤ (t252.length : Int) then ((impl_MarksOf.f kj6 (t252.take ((ji24) : Int).toNat)).bind fun bt274 => (if t267 = true then (if bt274.2 = true then ((laws_sameMarks.f kj6 t266 bt274.1).bind fun t278 => (laws_FnMarks.j1 kj6 l1 t252 t255 (!t278))) else (none)) else (none))) else (none)) else (none)) = some r := by first | (rw [hji24] at H; exact H) | (simp only [hji24] at H ⊢; exact H)
         (try rw [hji24] at A19)
         (try rw [hji24] at A21)
         (try rw [hji24] at A23)
         by_cases c25 : 0 ≤ (ji24)
         ·rw [if_pos c25] at H
          have c25b0 := eq_true c25
          have c25b1 : decide (0 ≤ (ji24)) = true := decide_eq_true c25
          clear c25
          by_cases c26 : (ji24) ≤ (t252.length : Int)
          ·rw [if_pos c26] at H
           have c26b0 := eq_true c26
           have c26b1 : decide ((ji24) ≤ (t252.length : Int)) = true := decide_eq_true c26
           clear c26
           obtain ⟨y270, hy270⟩ : ∃ y_ : List Int, y_ = (t252.take ((ji24) : Int).toNat) := ⟨_, rfl⟩
           replace H : ((impl_MarksOf.f kj6 y270).bind fun bt274 => (if t267 = true then (if bt274.2 = true then ((laws_sameMarks.f kj6 t266 bt274.1).bind fun t278 => (laws_FnMarks.j1 kj6 l1 t252 t255 (!t278))) else (none)) else (none))) = some r := by first | (rw [hy270]; with_reducible exact H) | (have H2_ := (Option.bind_some _ _).symm.trans H; rw [hy270]; with_reducible exact H2_) | (have H2_ := (Option.bind_some _ _).symm.trans H; with_reducible exact H2_) | with_reducible exact H | (rw [hy270]; exact H) | exact H
           have Ny270 := Aside0.mk hy270
           clear hy270
           replace H := Option.bind_eq_some_iff.mp H
           obtain ⟨⟨t274, t275⟩, A270, H⟩ := H
           replace H : (if t267 = true then (if t275 = true then ((laws_sameMarks.f kj6 t266 t274).bind fun t278 => (laws_FnMarks.j1 kj6 l1 t252 t255 (!t278))) else (none)) else (none)) = some r := H
           have A27 := Aside0.mk A270
           clear A270
           have HC28 := Aside0.mk H
           clear H
           obtain ⟨Ao29, co29, eo29⟩ := Kd.R_slice HO_6.out
           subst eo29
           go_upto_region 14 with (first | ((with_reducible refine gate_callee (f := 22) rfl ?_); refine goesL_ (some 64) rfl rfl Try.func22 (by kernel_rfl) rfl #[.slice Ao29 t255.length co29] rfl (by (try simp only [List.map_toArray, List.map_cons, List.map_nil]); first | done | rfl | (simp only [List.length_drop, List.length_take]; rfl)) ?_; (with_reducible refine (impl_GoodMarks.calls kj6 _ _ t255 true _ ?side1 ?side2 A19.out).mono ?_); (case side1 => repeat (first | exact (Kd.R_reads' HO_6.out).2.2 | (with_reducible refine Kd.C_alloc ?_ _) | (with_reducible refine Kd.C_drewN ?_ _) | (with_reducible refine Kd.C_drew ?_))); (case side2 => exact (Kd.R_reads' HO_6.out).2.1); rintro e w30 ⟨rfl, hb⟩; refine ⟨_, rfl, ?_⟩; have n0_ := Aside0.mk (Kd.R_below (by (with_reducible repeat (first | apply Kd.R_alloc | apply Kd.R_drewN | apply Kd.R_drew)); exact HO_5.out) hb); have n1_ := Aside0.mk (Kd.R_below (by (with_reducible repeat (first | apply Kd.R_alloc | apply Kd.R_drewN | apply Kd.R_drew)); exact HO_6.out) hb); have n2_ := Aside0.mk (below_step (by repeat (first | (with_reducible first | exact HB.out | apply below_alloc | apply pw_below_drewN | apply below_drew1) | exact HB.out)) hb); clear HO_5; clear HO_6; clear HB; have HO_5 := n0_; have HO_6 := n1_; have HB := n2_; clear n0_ n1_ n2_; (try clear hb); (try clear hb2); (try clear hk); (try clear hi)) | ((with_reducible refine gate_callee (f := 40) rfl ?_); refine goesL_ (some 67) rfl rfl Try.func40 (by kernel_rfl) rfl #[.slice A1 l1.length c1] rfl (by (try simp only [List.map_toArray, List.map_cons, List.map_nil]); first | done | rfl | (simp only [List.length_drop, List.length_take]; rfl)) ?_; (with_reducible refine (laws_numberOf.calls kj6 _ _ l1 t265 _ ?side1 ?side2 A21.out).mono ?_); (case side1 => repeat (first | exact (Kd.C_below HR1.out HB.out) | (with_reducible refine Kd.C_alloc ?_ _) | (with_reducible refine Kd.C_drewN ?_ _) | (with_reducible refine Kd.C_drew ?_))); (case side2 => exact HC1.out); rintro e w' ⟨rfl, ⟨nd, rfl⟩⟩; refine ⟨_, rfl, ?_⟩) | ((with_reducible refine gate_callee (f := 32) rfl ?_); refine goesL_ (some 75) rfl rfl Try.func32 (by kernel_rfl) rfl #[.slice Ao29 t255.length co29, .int .i64 ji24] rfl (by (try simp only [List.map_toArray, List.map_cons, List.map_nil]); first | done | (simp only [hji24]; rfl) | rfl | (simp only [List.length_drop, List.length_take]; rfl)) ?_; (with_reducible refine (impl_CutMarks.calls kj6 _ _ t255 ji24 t266 t267 _ ?side1 ?side2 A23.out).mono ?_); (case side1 => repeat (first | exact (Kd.R_reads' HO_6.out).2.2 | (with_reducible refine Kd.C_alloc ?_ _) | (with_reducible refine Kd.C_drewN ?_ _) | (with_reducible refine Kd.C_drew ?_))); (case side2 => exact (Kd.R_reads' HO_6.out).2.1); rintro e w31 ⟨v268, rfl, ho0, hb⟩; refine ⟨_, rfl, ?_⟩; have n0_ := Aside0.mk (Kd.R_below (by (with_reducible repeat (first | apply Kd.R_alloc | apply Kd.R_drewN | apply Kd.R_drew)); exact HO_5.out) hb); have n1_ := Aside0.mk (Kd.R_elder' (by (with_reducible repeat (first | apply Kd.R_alloc | apply Kd.R_drewN | apply Kd.R_drew)); exact HO_6.out) (Kd.R_base ho0) hb); have n2_ := Aside0.mk (Kd.R_lower (Kd.R_new' ho0 (Kd.R_lt (by (with_reducible repeat (first | apply Kd.R_alloc | apply Kd.R_drewN | apply Kd.R_drew)); exact HO_6.out))) (below_size (by repeat (first | (with_reducible first | exact HB.out | apply below_alloc | apply pw_below_drewN | apply below_drew1) | exact HB.out)))); have n3_ := Aside0.mk (below_step (by repeat (first | (with_reducible first | exact HB.out | apply below_alloc | apply pw_below_drewN | apply below_drew1) | exact HB.out)) hb); clear HO_5; clear HO_6; clear HB; have HO_5 := n0_; have HO_6 := n1_; have HO269 := n2_; have HB := n3_; clear n0_ n1_ n2_ n3_; (try clear hb); (try clear hb2); (try clear hk); (try clear hi); (try clear ho0); have q32 : ((ji24) : Int) ≤ ((t252.length : Int) : Int) := of_decide_eq_true (by first | (with_reducible assumption) | assumption); obtain ⟨i032, hi032, _, hsz32, _⟩ := info_parts info3; have hroom32 : t252.length ≤ co9 := (Kd.R_reads' HO_5.out).2.1; have hC32 : Kd.C (Kd.int .i64) _ Ao9 t252.length t252 := (Kd.R_reads' HO_5.out).2.2; have hcut32 := cut_to (P := Try.prog) 22 3 .i64 Try.underlying22 hi032 Ao9 t252.length co9 (ji24) (of_decide_eq_true (by first | (with_reducible assumption) | assumption)) q32 hroom32; have hr32 := Kd.C_take (m := ((ji24) : Int).toNat) hC32 (by omega); have hy32 : y270.length = ((ji24) : Int).toNat := (by rw [Ny270.out, List.length_take]; omega); rw [← Ny270.out] at hr32; rw [← hy32] at hcut32; have HR273 := Aside0.mk hr32; have HC273 := Aside0.mk (show y270.length ≤ co9 from by omega); clear hr32 hC32 hroom32 hi032 hsz32; have KY32 := Aside0.mk hy32; clear hy32; have KL32 := Aside0.mk (show ((ji24) : Int).toNat ≤ t252.length from by omega); replace q32 := eq_true q32) | ((with_reducible refine gate_callee (f := 27) rfl ?_); refine goesL_ (some 82) rfl rfl Try.func27 (by kernel_rfl) rfl #[.slice Ao9 y270.length co9] rfl (by (try simp only [List.map_toArray, List.map_cons, List.map_nil]); first | done | rfl | (simp only [List.length_drop, List.length_take]; rfl)) ?_; (with_reducible refine (impl_MarksOf.calls kj6 _ _ y270 t274 t275 _ ?side1 ?side2 A27.out).mono ?_); (case side1 => repeat (first | exact (by repeat (first | (with_reducible exact HR273.out) | (with_reducible refine Kd.C_alloc ?_ _) | (with_reducible refine Kd.C_drewN ?_ _) | (with_reducible refine Kd.C_drew ?_) | exact HR273.out)) | (with_reducible refine Kd.C_alloc ?_ _) | (with_reducible refine Kd.C_drewN ?_ _) | (with_reducible refine Kd.C_drew ?_))); (case side2 => exact HC273.out); rintro e w33 ⟨v276, rfl, ho0, hb⟩; refine ⟨_, rfl, ?_⟩; have n0_ := Aside0.mk (Kd.R_below (by (with_reducible repeat (first | apply Kd.R_alloc | apply Kd.R_drewN | apply Kd.R_drew)); exact HO_5.out) hb); have n1_ := Aside0.mk (Kd.R_elder' (by (with_reducible repeat (first | apply Kd.R_alloc | apply Kd.R_drewN | apply Kd.R_drew)); exact HO_6.out) (Kd.R_base ho0) hb); have n2_ := Aside0.mk (Kd.R_elder' (by (with_reducible repeat (first | apply Kd.R_alloc | apply Kd.R_drewN | apply Kd.R_drew)); exact HO269.out) (Kd.R_base ho0) hb); have n3_ := Aside0.mk (Kd.R_lower (Kd.R_new' (Kd.R_new' ho0 (Kd.R_lt (by (with_reducible repeat (first | apply Kd.R_alloc | apply Kd.R_drewN | apply Kd.R_drew)); exact HO_6.out))) (Kd.R_lt (by (with_reducible repeat (first | apply Kd.R_alloc | apply Kd.R_drewN | apply Kd.R_drew)); exact HO269.out))) (below_size (by repeat (first | (with_reducible first | exact HB.out | apply below_alloc | apply pw_below_drewN | apply below_drew1) | exact HB.out)))); have n4_ := Aside0.mk (Kd.C_below (by repeat (first | (with_reducible exact HR273.out) | (with_reducible refine Kd.C_alloc ?_ _) | (with_reducible refine Kd.C_drewN ?_ _) | (with_reducible refine Kd.C_drew ?_) | exact HR273.out)) hb); have n5_ := Aside0.mk (below_step (by repeat (first | (with_reducible first | exact HB.out | apply below_alloc | apply pw_below_drewN | apply below_drew1) | exact HB.out)) hb); clear HO_5; clear HO_6; clear HO269; clear HR273; clear HB; have HO_5 := n0_; have HO_6 := n1_; have HO269 := n2_; have HO277 := n3_; have HR273 := n4_; have HB := n5_; clear n0_ n1_ n2_ n3_ n4_ n5_; (try clear hb); (try clear hb2); (try clear hk); (try clear hi); (try clear ho0)))
           (try simp only [Act.put, List.setIfInBounds_toArray, List.set_cons_zero, List.set_cons_succ])
           go_cut [96] (fun v96 wc => ∃ (kq : Nat) (x96_27 : Bool), v96 = .bool x96_27 ∧ Aside0 (laws_FnMarks.j1 kq l1 t252 t255 x96_27 = some r) ∧ Aside0 (kq ≤ kj6) ∧ Aside0 (Kd.R (Kd.int .i64) 3 wc w.heap.size (fun _ => True) (.slice Ao9 t252.length co9) t252) ∧ Aside0 (Kd.R k60 60 wc w.heap.size (fun _ => True) (.slice Ao29 t255.length co29) t255) ∧ Aside0 (Kd.C (Kd.int .i64) wc Ao9 y270.length y270) ∧ Aside0 (Below w.heap.size w wc))
           case first =>
            have H := HC28.out
            clear HC28
            by_cases c34 : t267 = true
            ·subst c34
             have H1 : (if t275 = true then ((laws_sameMarks.f kj6 t266 t274).bind fun t278 => (laws_FnMarks.j1 kj6 l1 t252 t255 (!t278))) else (none)) = some r := by rw [if_pos rfl] at H; exact H
             clear H
             have H := H1
             clear H1
             by_cases c35 : t275 = true
             ·subst c35
              have H1 : ((laws_sameMarks.f kj6 t266 t274).bind fun t278 => (laws_FnMarks.j1 kj6 l1 t252 t255 (!t278))) = some r := by rw [if_pos rfl] at H; exact H
              clear H
              have H := H1
              clear H1
              replace H := Option.bind_eq_some_iff.mp H
              obtain ⟨t278, A360, H⟩ := H
              replace H : (laws_FnMarks.j1 kj6 l1 t252 t255 (!t278)) = some r := H
              have A36 := Aside0.mk A360
              clear A360
              have H' := Aside0.mk H
              clear H
              obtain ⟨Ao37, co37, eo37⟩ := Kd.R_slice HO269.out
              subst eo37
              obtain ⟨Ao38, co38, eo38⟩ := Kd.R_slice HO277.out
              subst eo38
              go_wp2_with (first | (go_at_call 39; (with_reducible refine (laws_sameMarks.calls kj6 _ _ t266 _ _ t274 t278 _ ?side1 ?side2 ?side3 ?side4 A36.out).mono ?_); (case side1 => repeat (first | exact (Kd.R_reads' HO269.out).2.2 | (with_reducible refine Kd.C_alloc ?_ _) | (with_reducible refine Kd.C_drewN ?_ _) | (with_reducible refine Kd.C_drew ?_))); (case side2 => exact (Kd.R_reads' HO269.out).2.1); (case side3 => repeat (first | exact (Kd.R_reads' HO277.out).2.2 | (with_reducible refine Kd.C_alloc ?_ _) | (with_reducible refine Kd.C_drewN ?_ _) | (with_reducible refine Kd.C_drew ?_))); (case side4 => exact (Kd.R_reads' HO277.out).2.1); rintro e w' ⟨rfl, ⟨nd, rfl⟩⟩))
              go_meet
              case rel => exact ⟨_, (!t278), (by first | rfl | (simp; done) | (simp [*]; done)), H', ⟨by have := HJ6.out; first | omega | exact Nat.le_refl _⟩, ⟨by (with_reducible repeat (first | apply Kd.R_alloc | apply Kd.R_drewN | apply Kd.R_drew)); exact HO_5.out⟩, ⟨by (with_reducible repeat (first | apply Kd.R_alloc | apply Kd.R_drewN | apply Kd.R_drew)); exact Kd.R_mono HO_6.out (fun _ hk => trivial)⟩, ⟨by repeat (first | (with_reducible exact HR273.out) | (with_reducible refine Kd.C_alloc ?_ _) | (with_reducible refine Kd.C_drewN ?_ _) | (with_reducible refine Kd.C_drew ?_) | exact HR273.out)⟩, ⟨by repeat (first | (with_reducible first | exact HB.out | apply below_alloc | apply pw_below_drewN | apply below_drew1) | exact HB.out)⟩⟩
             ·replace c35 := Bool.eq_false_iff.mpr c35
              subst c35
              have H1 : (none) = some r := by rw [if_neg (show ¬ (false = true) by decide)] at H; exact H
              clear H
              have H := H1
              clear H1
              exact absurd H (by simp)
            ·replace c34 := Bool.eq_false_iff.mpr c34
             subst c34
             have H1 : (none) = some r := by rw [if_neg (show ¬ (false = true) by decide)] at H; exact H
             clear H
             have H := H1
             clear H1
             exact absurd H (by simp)
           case rest =>
            clear HC28
            try clear c1
            try clear c2
            try clear p2
            try clear c3
            try clear c3b0
            try clear q3
            try clear c4
            try clear p6
            try clear c11
            try clear c12
            try clear c12b0
            try clear c12b1
            try clear c12b2
            try clear c16
            try clear c18
            try clear c20
            try clear c22
            try clear c22b0
            try clear c22b1
            try clear c25
            try clear c25b0
            try clear c25b1
            try clear c26
            try clear c26b0
            try clear c26b1
            try clear c27
            try clear c32
            try clear q32
            try clear c34
            try clear c35
            try clear c38
            try clear p2
            try clear p6
            try clear q32
            obtain ⟨kq, x96_27, rfl, HA, HJ27, HO_5, HO_6, HR273, HB⟩ := hcut
            cases kq with
            | zero => exact absurd HA.out (by simp [laws_FnMarks.j1])
            | succ kj27 =>
             have H := HA.out
             clear HA
             simp only [laws_FnMarks.j1] at H
             by_cases c39 : x96_27 = true
             ·subst c39
              have H1 : (none) = some r := by rw [if_pos rfl] at H; exact H
              clear H
              have H := H1
              clear H1
              exact absurd H (by simp)
             ·replace c39 := Bool.eq_false_iff.mpr c39
              subst c39
              have H1 : (laws_FnMarks.l0 kj27 l1 t252 t255 t252 (t252.length : Int) 0) = some r := by rw [if_neg (show ¬ (false = true) by decide)] at H; exact H
              clear H
              have H := H1
              clear H1
              have H' := Aside0.mk H
              clear H
              go_wp2
              go_loopg [99] kj27 (fun kq v99 w' => ∃ (x99_3 : Int), v99 = .int .i64 x99_3 ∧ Aside0 (laws_FnMarks.l0 kq l1 t252 t255 t252 (t252.length : Int) x99_3 = some r) ∧ Aside0 (kq ≤ kj27) ∧ Aside0 (Kd.R (Kd.int .i64) 3 w' w.heap.size (fun _ => True) (.slice Ao9 t252.length co9) t252) ∧ Aside0 (Kd.R k60 60 w' w.heap.size (fun _ => True) (.slice Ao29 t255.length co29) t255) ∧ Aside0 (Kd.R (Kd.int .i64) 3 w' w.heap.size (fun _ => True) (.slice Ao9 t252.length co9) t252) ∧ Aside0 (Kd.C (Kd.int .i64) w' Ao9 y270.length y270) ∧ Aside0 (Below w.heap.size w w'))
              case atStart => exact ⟨(0), (by first | rfl | (simp; done) | (simp [*]; done)), H', ⟨Nat.le_refl _⟩, ⟨by (with_reducible repeat (first | apply Kd.R_alloc | apply Kd.R_drewN | apply Kd.R_drew)); exact HO_5.out⟩, ⟨by (with_reducible repeat (first | apply Kd.R_alloc | apply Kd.R_drewN | apply Kd.R_drew)); exact HO_6.out⟩, ⟨by (with_reducible repeat (first | apply Kd.R_alloc | apply Kd.R_drewN | apply Kd.R_drew)); exact HO_5.out⟩, ⟨by repeat (first | (with_reducible exact HR273.out) | (with_reducible refine Kd.C_alloc ?_ _) | (with_reducible refine Kd.C_drewN ?_ _) | (with_reducible refine Kd.C_drew ?_) | exact HR273.out)⟩, ⟨by repeat (first | (with_reducible first | exact HB.out | apply below_alloc | apply pw_below_drewN | apply below_drew1) | exact HB.out)⟩⟩
              case round =>
               clear H'
               try clear c1
               try clear c2
               try clear p2
               try clear c3
               try clear c3b0
               try clear q3
               try clear c4
               try clear p6
               try clear c11
               try clear c12
               try clear c12b0
               try clear c12b1
               try clear c12b2
               try clear c16
               try clear c18
               try clear c20
               try clear c22
               try clear c22b0
               try clear c22b1
               try clear c25
               try clear c25b0
               try clear c25b1
               try clear c26
               try clear c26b0
               try clear c26b1
               try clear c27
               try clear c32
               try clear q32
               try clear c34
               try clear c35
               try clear c38
               try clear c39
               try clear p2
               try clear p6
               try clear q3
               try clear q32
               obtain ⟨x99_3, rfl, HA, HK3, HO_5, HO_6, HO_97, HR273, HB⟩ := hrel
               cases gk with
               | zero => exact absurd HA.out (by simp [laws_FnMarks.l0])
               | succ k3 =>
                have H := HA.out
                clear HA
                simp only [laws_FnMarks.l0] at H
                by_cases c40 : x99_3 < (t252.length : Int)
                ·rw [if_pos c40] at H
                 have c40b0 : decide (x99_3 < (t252.length : Int)) = true := decide_eq_true c40
                 clear c40
                 by_cases c41 : 0 ≤ x99_3
                 ·rw [if_pos c41] at H
                  have c41b0 : decide (0 ≤ x99_3) = true := decide_eq_true c41
                  clear c41
                  by_cases c42 : x99_3 < (t252.length : Int)
                  ·rw [if_pos c42] at H
                   have c42b0 : decide (x99_3 < (t252.length : Int)) = true := decide_eq_true c42
                   clear c42
                   replace H := Option.bind_eq_some_iff.mp H
                   obtain ⟨⟨t280, t281, t282⟩, A430, H⟩ := H
                   replace H : (if t282 = true then (if t280 = (rd t252 x99_3) then (if t281 ≤ x99_3 then (none) else (if t281 < (t252.length : Int) then (if 0 ≤ t281 then (if (rd t252 t281) ≤ (rd t252 x99_3) then (none) else (if 0 ≤ (wrap64 (t281 - 1)) then (if (wrap64 (t281 - 1)) < (t252.length : Int) then (if (rd t252 (wrap64 (t281 - 1))) = (rd t252 x99_3) then (laws_FnMarks.l0 k3 l1 t252 t255 t252 (t252.length : Int) (wrap64 (x99_3 + 1))) else (none)) else (none)) else (none))) else (none)) else (if 0 ≤ (wrap64 (t281 - 1)) then (if (wrap64 (t281 - 1)) < (t252.length : Int) then (if (rd t252 (wrap64 (t281 - 1))) = (rd t252 x99_3) then (laws_FnMarks.l0 k3 l1 t252 t255 t252 (t252.length : Int) (wrap64 (x99_3 + 1))) else (none)) else (none)) else (none)))) else (none)) else (none)) = some r := H
                   have A43 := Aside0.mk A430
                   clear A430
                   by_cases c44 : t282 = true
                   ·subst c44
                    have H1 : (if t280 = (rd t252 x99_3) then (if t281 ≤ x99_3 then (none) else (if t281 < (t252.length : Int) then (if 0 ≤ t281 then (if (rd t252 t281) ≤ (rd t252 x99_3) then (none) else (if 0 ≤ (wrap64 (t281 - 1)) then (if (wrap64 (t281 - 1)) < (t252.length : Int) then (if (rd t252 (wrap64 (t281 - 1))) = (rd t252 x99_3) then (laws_FnMarks.l0 k3 l1 t252 t255 t252 (t252.length : Int) (wrap64 (x99_3 + 1))) else (none)) else (none)) else (none))) else (none)) else (if 0 ≤ (wrap64 (t281 - 1)) then (if (wrap64 (t281 - 1)) < (t252.length : Int) then (if (rd t252 (wrap64 (t281 - 1))) = (rd t252 x99_3) then (laws_FnMarks.l0 k3 l1 t252 t255 t252 (t252.length : Int) (wrap64 (x99_3 + 1))) else (none)) else (none)) else (none)))) else (none)) = some r := by rw [if_pos rfl] at H; exact H
                    clear H
                    have H := H1
                    clear H1
                    by_cases c45 : t280 = (rd t252 x99_3)
                    ·rw [if_pos c45] at H
                     have c45b0 : (t280 == (rd t252 x99_3)) = true := beq_iff_eq.mpr c45
                     have c45b1 : (t280 != (rd t252 x99_3)) = false := bne_eq_false_iff_eq.mpr c45
                     clear c45
                     by_cases c46 : t281 ≤ x99_3
                     ·rw [if_pos c46] at H
                      exact absurd H (by simp)
                     ·rw [if_neg c46] at H
                      have c46b0 : decide (t281 ≤ x99_3) = false := decide_eq_false c46
                      clear c46
                      by_cases c47 : t281 < (t252.length : Int)
                      ·rw [if_pos c47] at H
                       have c47b0 : decide (t281 < (t252.length : Int)) = true := decide_eq_true c47
                       clear c47
                       by_cases c48 : 0 ≤ t281
                       ·rw [if_pos c48] at H
                        have c48b0 : decide (0 ≤ t281) = true := decide_eq_true c48
                        clear c48
                        by_cases c49 : (rd t252 t281) ≤ (rd t252 x99_3)
                        ·rw [if_pos c49] at H
                         exact absurd H (by simp)
                        ·rw [if_neg c49] at H
                         have c49b0 : decide ((rd t252 t281) ≤ (rd t252 x99_3)) = false := decide_eq_false c49
                         clear c49
                         obtain ⟨ji50, hji50⟩ : ∃ j_ : Int, (wrap64 (t281 - 1)) = j_ := ⟨_, rfl⟩
                         replace H : (if 0 ≤ (ji50) then (if (ji50) < (t252.length : Int) then (if (rd t252 (ji50)) = (rd t252 x99_3) then (laws_FnMarks.l0 k3 l1 t252 t255 t252 (t252.length : Int) (wrap64 (x99_3 + 1))) else (none)) else (none)) else (none)) = some r := by first | (rw [hji50] at H; exact H) | (simp only [hji50] at H ⊢; exact H)
                         (try rw [hji50] at A43)
                         have hji50w : (IntKind.i64.wrap (t281 - 1)) = ji50 := (i64_w _).trans hji50
                         by_cases c51 : 0 ≤ (ji50)
                         ·rw [if_pos c51] at H
                          have c51b0 : decide (0 ≤ (ji50)) = true := decide_eq_true c51
                          clear c51
                          by_cases c52 : (ji50) < (t252.length : Int)
                          ·rw [if_pos c52] at H
                           have c52b0 : decide ((ji50) < (t252.length : Int)) = true := decide_eq_true c52
                           clear c52
                           by_cases c53 : (rd t252 (ji50)) = (rd t252 x99_3)
                           ·rw [if_pos c53] at H
                            have c53b0 : ((rd t252 (ji50)) == (rd t252 x99_3)) = true := beq_iff_eq.mpr c53
                            have c53b1 : ((rd t252 (ji50)) != (rd t252 x99_3)) = false := bne_eq_false_iff_eq.mpr c53
                            clear c53
                            have H' := Aside0.mk H
                            clear H
                            have p279 : 0 ≤ (x99_3 : Int) := of_decide_eq_true (by first | (with_reducible assumption) | assumption)
                            have q279 : x99_3 < (t252.length : Int) := of_decide_eq_true (by first | (with_reducible assumption) | assumption)
                            obtain ⟨ad279, e279, hx279_0⟩ := Kd.at_int (Kd.R_reads' HO_97.out).2.2 x99_3 p279 q279
                            cases e279
                            replace p279 := eq_true p279
                            replace q279 := eq_true q279
                            go_wp2_with (first | ((with_reducible refine gate_callee (f := 25) rfl ?_); refine goesL_ (some 109) rfl rfl Try.func25 (by kernel_rfl) rfl #[.slice Ao29 t255.length co29, .int .i64 (t252.length : Int), .int .i64 (rd t252 x99_3)] rfl (by (try simp only [List.map_toArray, List.map_cons, List.map_nil]); first | done | rfl | (simp only [List.length_drop, List.length_take]; rfl)) ?_; (with_reducible refine (impl_EndOfEpoch.calls k3 _ _ t255 (t252.length : Int) (rd t252 x99_3) t280 t281 true _ ?side1 ?side2 A43.out).mono ?_); (case side1 => repeat (first | exact (Kd.R_reads' HO_6.out).2.2 | (with_reducible refine Kd.C_alloc ?_ _) | (with_reducible refine Kd.C_drewN ?_ _) | (with_reducible refine Kd.C_drew ?_))); (case side2 => exact (Kd.R_reads' HO_6.out).2.1); rintro e w54 ⟨rfl, hb⟩; refine ⟨_, rfl, ?_⟩; have n0_ := Aside0.mk (Kd.R_below (by (with_reducible repeat (first | apply Kd.R_alloc | apply Kd.R_drewN | apply Kd.R_drew)); exact HO_5.out) hb); have n1_ := Aside0.mk (Kd.R_below (by (with_reducible repeat (first | apply Kd.R_alloc | apply Kd.R_drewN | apply Kd.R_drew)); exact HO_6.out) hb); have n2_ := Aside0.mk (Kd.R_below (by (with_reducible repeat (first | apply Kd.R_alloc | apply Kd.R_drewN | apply Kd.R_drew)); exact HO_97.out) hb); have n3_ := Aside0.mk (Kd.C_below (by repeat (first | (with_reducible exact HR273.out) | (with_reducible refine Kd.C_alloc ?_ _) | (with_reducible refine Kd.C_drewN ?_ _) | (with_reducible refine Kd.C_drew ?_) | exact HR273.out)) hb); have n4_ := Aside0.mk (below_step (by repeat (first | (with_reducible first | exact HB.out | apply below_alloc | apply pw_below_drewN | apply below_drew1) | exact HB.out)) hb); clear HO_5; clear HO_6; clear HO_97; clear HR273; clear HB; have HO_5 := n0_; have HO_6 := n1_; have HO_97 := n2_; have HR273 := n3_; have HB := n4_; clear n0_ n1_ n2_ n3_ n4_; (try clear hb); (try clear hb2); (try clear hk); (try clear hi); have p283 : 0 ≤ (t281 : Int) := of_decide_eq_true (by first | (with_reducible assumption) | assumption); have q283 : t281 < (t252.length : Int) := of_decide_eq_true (by first | (with_reducible assumption) | assumption); obtain ⟨ad283, e283, hx283_0⟩ := Kd.at_int (Kd.R_reads' HO_5.out).2.2 t281 p283 q283; obtain rfl : ad279 = ad283 := (by injection e283); replace p283 := eq_true p283; replace q283 := eq_true q283; have p284 : 0 ≤ ((ji50) : Int) := of_decide_eq_true (by first | (with_reducible assumption) | assumption); have q284 : (ji50) < (t252.length : Int) := of_decide_eq_true (by first | (with_reducible assumption) | assumption); obtain ⟨ad284, e284, hx284_0⟩ := Kd.at_int (Kd.R_reads' HO_5.out).2.2 (ji50) p284 q284; obtain rfl : ad279 = ad284 := (by injection e284); replace p284 := eq_true p284; replace q284 := eq_true q284))
                            go_roundg k3
                            case measure => have := HJ6.out; have := HJ27.out; have := HK3.out; omega
                            case rel => exact ⟨(wrap64 (x99_3 + 1)), (by first | rfl | (simp; done) | (simp [*]; done)), H', ⟨by have := HJ6.out; have := HJ27.out; have := HK3.out; omega⟩, ⟨by (with_reducible repeat (first | apply Kd.R_alloc | apply Kd.R_drewN | apply Kd.R_drew)); exact HO_5.out⟩, ⟨by (with_reducible repeat (first | apply Kd.R_alloc | apply Kd.R_drewN | apply Kd.R_drew)); exact HO_6.out⟩, ⟨by (with_reducible repeat (first | apply Kd.R_alloc | apply Kd.R_drewN | apply Kd.R_drew)); exact HO_97.out⟩, ⟨by repeat (first | (with_reducible exact HR273.out) | (with_reducible refine Kd.C_alloc ?_ _) | (with_reducible refine Kd.C_drewN ?_ _) | (with_reducible refine Kd.C_drew ?_) | exact HR273.out)⟩, ⟨by repeat (first | (with_reducible first | exact HB.out | apply below_alloc | apply pw_below_drewN | apply below_drew1) | exact HB.out)⟩⟩
                           ·rw [if_neg c53] at H
                            exact absurd H (by simp)
                          ·rw [if_neg c52] at H
                           exact absurd H (by simp)
                         ·rw [if_neg c51] at H
                          exact absurd H (by simp)
                       ·rw [if_neg c48] at H
                        exact absurd H (by simp)
                      ·rw [if_neg c47] at H
                       have c47b0 : decide (t281 < (t252.length : Int)) = false := decide_eq_false c47
                       clear c47
                       obtain ⟨ji55, hji55⟩ : ∃ j_ : Int, (wrap64 (t281 - 1)) = j_ := ⟨_, rfl⟩
                       replace H : (if 0 ≤ (ji55) then (if (ji55) < (t252.length : Int) then (if (rd t252 (ji55)) = (rd t252 x99_3) then (laws_FnMarks.l0 k3 l1 t252 t255 t252 (t252.length : Int) (wrap64 (x99_3 + 1))) else (none)) else (none)) else (none)) = some r := by first | (rw [hji55] at H; exact H) | (simp only [hji55] at H ⊢; exact H)
                       (try rw [hji55] at A43)
                       have hji55w : (IntKind.i64.wrap (t281 - 1)) = ji55 := (i64_w _).trans hji55
                       by_cases c56 : 0 ≤ (ji55)
                       ·rw [if_pos c56] at H
                        have c56b0 : decide (0 ≤ (ji55)) = true := decide_eq_true c56
                        clear c56
                        by_cases c57 : (ji55) < (t252.length : Int)
                        ·rw [if_pos c57] at H
                         have c57b0 : decide ((ji55) < (t252.length : Int)) = true := decide_eq_true c57
                         clear c57
                         by_cases c58 : (rd t252 (ji55)) = (rd t252 x99_3)
                         ·rw [if_pos c58] at H
                          have c58b0 : ((rd t252 (ji55)) == (rd t252 x99_3)) = true := beq_iff_eq.mpr c58
                          have c58b1 : ((rd t252 (ji55)) != (rd t252 x99_3)) = false := bne_eq_false_iff_eq.mpr c58
                          clear c58
                          have H' := Aside0.mk H
                          clear H
                          have p279 : 0 ≤ (x99_3 : Int) := of_decide_eq_true (by first | (with_reducible assumption) | assumption)
                          have q279 : x99_3 < (t252.length : Int) := of_decide_eq_true (by first | (with_reducible assumption) | assumption)
                          obtain ⟨ad279, e279, hx279_0⟩ := Kd.at_int (Kd.R_reads' HO_97.out).2.2 x99_3 p279 q279
                          cases e279
                          replace p279 := eq_true p279
                          replace q279 := eq_true q279
                          go_wp2_with (first | ((with_reducible refine gate_callee (f := 25) rfl ?_); refine goesL_ (some 109) rfl rfl Try.func25 (by kernel_rfl) rfl #[.slice Ao29 t255.length co29, .int .i64 (t252.length : Int), .int .i64 (rd t252 x99_3)] rfl (by (try simp only [List.map_toArray, List.map_cons, List.map_nil]); first | done | rfl | (simp only [List.length_drop, List.length_take]; rfl)) ?_; (with_reducible refine (impl_EndOfEpoch.calls k3 _ _ t255 (t252.length : Int) (rd t252 x99_3) t280 t281 true _ ?side1 ?side2 A43.out).mono ?_); (case side1 => repeat (first | exact (Kd.R_reads' HO_6.out).2.2 | (with_reducible refine Kd.C_alloc ?_ _) | (with_reducible refine Kd.C_drewN ?_ _) | (with_reducible refine Kd.C_drew ?_))); (case side2 => exact (Kd.R_reads' HO_6.out).2.1); rintro e w59 ⟨rfl, hb⟩; refine ⟨_, rfl, ?_⟩; have n0_ := Aside0.mk (Kd.R_below (by (with_reducible repeat (first | apply Kd.R_alloc | apply Kd.R_drewN | apply Kd.R_drew)); exact HO_5.out) hb); have n1_ := Aside0.mk (Kd.R_below (by (with_reducible repeat (first | apply Kd.R_alloc | apply Kd.R_drewN | apply Kd.R_drew)); exact HO_6.out) hb); have n2_ := Aside0.mk (Kd.R_below (by (with_reducible repeat (first | apply Kd.R_alloc | apply Kd.R_drewN | apply Kd.R_drew)); exact HO_97.out) hb); have n3_ := Aside0.mk (Kd.C_below (by repeat (first | (with_reducible exact HR273.out) | (with_reducible refine Kd.C_alloc ?_ _) | (with_reducible refine Kd.C_drewN ?_ _) | (with_reducible refine Kd.C_drew ?_) | exact HR273.out)) hb); have n4_ := Aside0.mk (below_step (by repeat (first | (with_reducible first | exact HB.out | apply below_alloc | apply pw_below_drewN | apply below_drew1) | exact HB.out)) hb); clear HO_5; clear HO_6; clear HO_97; clear HR273; clear HB; have HO_5 := n0_; have HO_6 := n1_; have HO_97 := n2_; have HR273 := n3_; have HB := n4_; clear n0_ n1_ n2_ n3_ n4_; (try clear hb); (try clear hb2); (try clear hk); (try clear hi); have p285 : 0 ≤ ((ji55) : Int) := of_decide_eq_true (by first | (with_reducible assumption) | assumption); have q285 : (ji55) < (t252.length : Int) := of_decide_eq_true (by first | (with_reducible assumption) | assumption); obtain ⟨ad285, e285, hx285_0⟩ := Kd.at_int (Kd.R_reads' HO_5.out).2.2 (ji55) p285 q285; obtain rfl : ad279 = ad285 := (by injection e285); replace p285 := eq_true p285; replace q285 := eq_true q285))
                          go_roundg k3
                          case measure => have := HJ6.out; have := HJ27.out; have := HK3.out; omega
                          case rel => exact ⟨(wrap64 (x99_3 + 1)), (by first | rfl | (simp; done) | (simp [*]; done)), H', ⟨by have := HJ6.out; have := HJ27.out; have := HK3.out; omega⟩, ⟨by (with_reducible repeat (first | apply Kd.R_alloc | apply Kd.R_drewN | apply Kd.R_drew)); exact HO_5.out⟩, ⟨by (with_reducible repeat (first | apply Kd.R_alloc | apply Kd.R_drewN | apply Kd.R_drew)); exact HO_6.out⟩, ⟨by (with_reducible repeat (first | apply Kd.R_alloc | apply Kd.R_drewN | apply Kd.R_drew)); exact HO_97.out⟩, ⟨by repeat (first | (with_reducible exact HR273.out) | (with_reducible refine Kd.C_alloc ?_ _) | (with_reducible refine Kd.C_drewN ?_ _) | (with_reducible refine Kd.C_drew ?_) | exact HR273.out)⟩, ⟨by repeat (first | (with_reducible first | exact HB.out | apply below_alloc | apply pw_below_drewN | apply below_drew1) | exact HB.out)⟩⟩
                         ·rw [if_neg c58] at H
                          exact absurd H (by simp)
                        ·rw [if_neg c57] at H
                         exact absurd H (by simp)
                       ·rw [if_neg c56] at H
                        exact absurd H (by simp)
                    ·rw [if_neg c45] at H
                     exact absurd H (by simp)
                   ·replace c44 := Bool.eq_false_iff.mpr c44
                    subst c44
                    have H1 : (none) = some r := by rw [if_neg (show ¬ (false = true) by decide)] at H; exact H
                    clear H
                    have H := H1
                    clear H1
                    exact absurd H (by simp)
                  ·rw [if_neg c42] at H
                   exact absurd H (by simp)
                 ·rw [if_neg c41] at H
                  exact absurd H (by simp)
                ·rw [if_neg c40] at H
                 have c40b0 : decide (x99_3 < (t252.length : Int)) = false := decide_eq_false c40
                 clear c40
                 have H' := Aside0.mk H
                 clear H
                 go_wp2
                 go_meet
                 case rel => exact ⟨_, H', ⟨by have := HJ6.out; have := HJ27.out; have := HK3.out; first | omega | exact Nat.le_refl _⟩, ⟨by repeat (first | (with_reducible first | exact HB.out | apply below_alloc | apply pw_below_drewN | apply below_drew1) | exact HB.out)⟩⟩
          ·rw [if_neg c26] at H
           exact absurd H (by simp)
         ·rw [if_neg c25] at H
          exact absurd H (by simp)
       ·replace c20 := Bool.eq_false_iff.mpr c20
        subst c20
        have H1 : (none) = some r := by rw [if_neg (show ¬ (false = true) by decide)] at H; exact H
        clear H
        have H := H1
        clear H1
        exact absurd H (by simp)
      ·replace c18 := Bool.eq_false_iff.mpr c18
       subst c18
       have H1 : (laws_FnMarks.j3 kj6 l1) = some r := by rw [if_neg (show ¬ (false = true) by decide)] at H; exact H
       clear H
       have H := H1
       clear H1
       have H' := Aside0.mk H
       clear H
       go_wp2
       go_meet
       case rel => exact ⟨_, H', ⟨by have := HJ6.out; first | omega | exact Nat.le_refl _⟩, ⟨by repeat (first | (with_reducible first | exact HB.out | apply below_alloc | apply pw_below_drewN | apply below_drew1) | exact HB.out)⟩⟩
     case rest =>
      clear HC17
      try clear c1
      try clear c2
      try clear p2
      try clear q2
      try clear hx2
      try clear c3
      try clear c3b0
      try clear q3
      try clear c4
      try clear c5
      try clear p6
      try clear c11
      try clear c12
      try clear c12b0
      try clear c12b1
      try clear c12b2
      try clear c16
      try clear c18
      try clear c20
      try clear c22
      try clear c22b0
      try clear c22b1
      try clear c25
      try clear c25b0
      try clear c25b1
      try clear c26
      try clear c26b0
      try clear c26b1
      try clear c27
      try clear p27
      try clear q27
      try clear hx27
      try clear p28
      try clear q28
      try clear hx28
      try clear c32
      try clear q32
      try clear c34
      try clear c35
      try clear c38
      try clear c39
      try clear c40
      try clear c40b0
      try clear c41
      try clear c41b0
      try clear c42
      try clear c42b0
      try clear c44
      try clear c45
      try clear c45b0
      try clear c45b1
      try clear c46
      try clear c46b0
      try clear c47
      try clear c47b0
      try clear c48
      try clear c48b0
      try clear c49
      try clear c49b0
      try clear c51
      try clear c51b0
      try clear c52
      try clear c52b0
      try clear c53
      try clear c53b0
      try clear c53b1
      try clear c56
      try clear c56b0
      try clear c57
      try clear c57b0
      try clear c58
      try clear c58b0
      try clear c58b1
      try clear hx279_0
      try clear hx283_0
      try clear hx284_0
      try clear hx285_0
      try clear p2
      try clear p279
      try clear p283
      try clear p284
      try clear p285
      try clear p6
      try clear q279
      try clear q283
      try clear q284
      try clear q285
      try clear q3
      try clear q32
      obtain ⟨kq, HA, HJ16, HB⟩ := hcut
      cases kq with
      | zero => exact absurd HA.out (by simp [laws_FnMarks.j3])
      | succ kj16 =>
       have H := HA.out
       clear HA
       simp only [laws_FnMarks.j3] at H
       replace H := Option.bind_eq_some_iff.mp H
       obtain ⟨⟨t286, t287, t288⟩, A600, H⟩ := H
       replace H : ((impl_EndOfEpoch.f kj16 t286 t287 t288).bind fun bt291 => ((spec_EndOfEpoch.f kj16 t286 t287 t288).bind fun bt294 => ((spec_DrawCutMarks.f kj16 l1).bind fun bt297 => ((impl_CutMarks.f kj16 bt297.1 bt297.2).bind fun bt301 => ((spec_CutMarks.f kj16 bt297.1 bt297.2).bind fun bt305 => (if (bt291.2.2 == bt294.2.2) = true then (if bt291.1 = bt294.1 then (if bt291.2.1 = bt294.2.1 then (if (bt301.2 == bt305.2) = true then ((laws_sameMarks.f kj16 bt301.1 bt305.1).bind fun t309 => (if t309 = true then ((impl_GoodMarks.f kj16 t286).bind fun t310 => ((spec_GoodMarks.f kj16 t286).bind fun t311 => (some (t310 == t311)))) else (none))) else (none)) else (none)) else (none)) else (none))))))) = some r := H
       have A60 := Aside0.mk A600
       clear A600
       replace H := Option.bind_eq_some_iff.mp H
       obtain ⟨⟨t291, t292, t293⟩, A610, H⟩ := H
       replace H : ((spec_EndOfEpoch.f kj16 t286 t287 t288).bind fun bt294 => ((spec_DrawCutMarks.f kj16 l1).bind fun bt297 => ((impl_CutMarks.f kj16 bt297.1 bt297.2).bind fun bt301 => ((spec_CutMarks.f kj16 bt297.1 bt297.2).bind fun bt305 => (if (t293 == bt294.2.2) = true then (if t291 = bt294.1 then (if t292 = bt294.2.1 then (if (bt301.2 == bt305.2) = true then ((laws_sameMarks.f kj16 bt301.1 bt305.1).bind fun t309 => (if t309 = true then ((impl_GoodMarks.f kj16 t286).bind fun t310 => ((spec_GoodMarks.f kj16 t286).bind fun t311 => (some (t310 == t311)))) else (none))) else (none)) else (none)) else (none)) else (none)))))) = some r := H
       have A61 := Aside0.mk A610
       clear A610
       replace H := Option.bind_eq_some_iff.mp H
       obtain ⟨⟨t294, t295, t296⟩, A620, H⟩ := H
       replace H : ((spec_DrawCutMarks.f kj16 l1).bind fun bt297 => ((impl_CutMarks.f kj16 bt297.1 bt297.2).bind fun bt301 => ((spec_CutMarks.f kj16 bt297.1 bt297.2).bind fun bt305 => (if (t293 == t296) = true then (if t291 = t294 then (if t292 = t295 then (if (bt301.2 == bt305.2) = true then ((laws_sameMarks.f kj16 bt301.1 bt305.1).bind fun t309 => (if t309 = true then ((impl_GoodMarks.f kj16 t286).bind fun t310 => ((spec_GoodMarks.f kj16 t286).bind fun t311 => (some (t310 == t311)))) else (none))) else (none)) else (none)) else (none)) else (none))))) = some r := H
       have A62 := Aside0.mk A620
       clear A620
       replace H := Option.bind_eq_some_iff.mp H
       obtain ⟨⟨t297, t298⟩, A630, H⟩ := H
       replace H : ((impl_CutMarks.f kj16 t297 t298).bind fun bt301 => ((spec_CutMarks.f kj16 t297 t298).bind fun bt305 => (if (t293 == t296) = true then (if t291 = t294 then (if t292 = t295 then (if (bt301.2 == bt305.2) = true then ((laws_sameMarks.f kj16 bt301.1 bt305.1).bind fun t309 => (if t309 = true then ((impl_GoodMarks.f kj16 t286).bind fun t310 => ((spec_GoodMarks.f kj16 t286).bind fun t311 => (some (t310 == t311)))) else (none))) else (none)) else (none)) else (none)) else (none)))) = some r := H
       have A63 := Aside0.mk A630
       clear A630
       replace H := Option.bind_eq_some_iff.mp H
       obtain ⟨⟨t301, t302⟩, A640, H⟩ := H
       replace H : ((spec_CutMarks.f kj16 t297 t298).bind fun bt305 => (if (t293 == t296) = true then (if t291 = t294 then (if t292 = t295 then (if (t302 == bt305.2) = true then ((laws_sameMarks.f kj16 t301 bt305.1).bind fun t309 => (if t309 = true then ((impl_GoodMarks.f kj16 t286).bind fun t310 => ((spec_GoodMarks.f kj16 t286).bind fun t311 => (some (t310 == t311)))) else (none))) else (none)) else (none)) else (none)) else (none))) = some r := H
       have A64 := Aside0.mk A640
       clear A640
       replace H := Option.bind_eq_some_iff.mp H
       obtain ⟨⟨t305, t306⟩, A650, H⟩ := H
       replace H : (if (t293 == t296) = true then (if t291 = t294 then (if t292 = t295 then (if (t302 == t306) = true then ((laws_sameMarks.f kj16 t301 t305).bind fun t309 => (if t309 = true then ((impl_GoodMarks.f kj16 t286).bind fun t310 => ((spec_GoodMarks.f kj16 t286).bind fun t311 => (some (t310 == t311)))) else (none))) else (none)) else (none)) else (none)) else (none)) = some r := H
       have A65 := Aside0.mk A650
       clear A650
       by_cases c66 : (t293 == t296) = true
       ·rw [if_pos c66] at H
        have c66b0 : (t293 == t296) = true := c66
        (try (have c66b1 : decide (t293 = t296) = true := by simpa using c66))
        (try (have c66b2 : (t293 == t296) = true := by simpa using c66))
        clear c66
        by_cases c67 : t291 = t294
        ·rw [if_pos c67] at H
         have c67b0 : (t291 == t294) = true := beq_iff_eq.mpr c67
         have c67b1 : (t291 != t294) = false := bne_eq_false_iff_eq.mpr c67
         clear c67
         by_cases c68 : t292 = t295
         ·rw [if_pos c68] at H
          have c68b0 : (t292 == t295) = true := beq_iff_eq.mpr c68
          have c68b1 : (t292 != t295) = false := bne_eq_false_iff_eq.mpr c68
          clear c68
          by_cases c69 : (t302 == t306) = true
          ·rw [if_pos c69] at H
           have c69b0 : (t302 == t306) = true := c69
           (try (have c69b1 : decide (t302 = t306) = true := by simpa using c69))
           (try (have c69b2 : (t302 == t306) = true := by simpa using c69))
           clear c69
           replace H := Option.bind_eq_some_iff.mp H
           obtain ⟨t309, A700, H⟩ := H
           replace H : (if t309 = true then ((impl_GoodMarks.f kj16 t286).bind fun t310 => ((spec_GoodMarks.f kj16 t286).bind fun t311 => (some (t310 == t311)))) else (none)) = some r := H
           have A70 := Aside0.mk A700
           clear A700
           by_cases c71 : t309 = true
           ·subst c71
            have H1 : ((impl_GoodMarks.f kj16 t286).bind fun t310 => ((spec_GoodMarks.f kj16 t286).bind fun t311 => (some (t310 == t311)))) = some r := by rw [if_pos rfl] at H; exact H
            clear H
            have H := H1
            clear H1
            replace H := Option.bind_eq_some_iff.mp H
            obtain ⟨t310, A720, H⟩ := H
            replace H : ((spec_GoodMarks.f kj16 t286).bind fun t311 => (some (t310 == t311))) = some r := H
            have A72 := Aside0.mk A720
            clear A720
            replace H := Option.bind_eq_some_iff.mp H
            obtain ⟨t311, A730, H⟩ := H
            replace H : (some (t310 == t311)) = some r := H
            have A73 := Aside0.mk A730
            clear A730
            obtain rfl := Option.some.inj H
            go_wp2_with (first | ((with_reducible refine gate_callee (f := 41) rfl ?_); refine goesL_ (some 151) rfl rfl Try.func41 (by kernel_rfl) rfl #[.slice A1 l1.length c1] rfl (by (try simp only [List.map_toArray, List.map_cons, List.map_nil]); first | done | rfl | (simp only [List.length_drop, List.length_take]; rfl)) ?_; (with_reducible refine (spec_DrawEndOfEpoch.calls kj16 _ _ l1 t286 t287 t288 _ ?side1 ?side2 A60.out).mono ?_); (case side1 => repeat (first | exact (Kd.C_below HR1.out HB.out) | (with_reducible refine Kd.C_alloc ?_ _) | (with_reducible refine Kd.C_drewN ?_ _) | (with_reducible refine Kd.C_drew ?_))); (case side2 => exact HC1.out); rintro e w74 ⟨v289, rfl, ho0, hb⟩; refine ⟨_, rfl, ?_⟩; have n0_ := Aside0.mk (Kd.R_lower ho0 (below_size (by repeat (first | (with_reducible first | exact HB.out | apply below_alloc | apply pw_below_drewN | apply below_drew1) | exact HB.out)))); have n1_ := Aside0.mk (below_step (by repeat (first | (with_reducible first | exact HB.out | apply below_alloc | apply pw_below_drewN | apply below_drew1) | exact HB.out)) hb); clear HB; have HO290 := n0_; have HB := n1_; clear n0_ n1_; (try clear hb); (try clear hb2); (try clear hk); (try clear hi); (try clear ho0); obtain ⟨Ao75, co75, eo75⟩ := Kd.R_slice HO290.out; subst eo75) | ((with_reducible refine gate_callee (f := 25) rfl ?_); refine goesL_ (some 159) rfl rfl Try.func25 (by kernel_rfl) rfl #[.slice Ao75 t286.length co75, .int .i64 t287, .int .i64 t288] rfl (by (try simp only [List.map_toArray, List.map_cons, List.map_nil]); first | done | rfl | (simp only [List.length_drop, List.length_take]; rfl)) ?_; (with_reducible refine (impl_EndOfEpoch.calls kj16 _ _ t286 t287 t288 t291 t292 t293 _ ?side1 ?side2 A61.out).mono ?_); (case side1 => repeat (first | exact (Kd.R_reads' HO290.out).2.2 | (with_reducible refine Kd.C_alloc ?_ _) | (with_reducible refine Kd.C_drewN ?_ _) | (with_reducible refine Kd.C_drew ?_))); (case side2 => exact (Kd.R_reads' HO290.out).2.1); rintro e w76 ⟨rfl, hb⟩; refine ⟨_, rfl, ?_⟩; have n0_ := Aside0.mk (Kd.R_below (by (with_reducible repeat (first | apply Kd.R_alloc | apply Kd.R_drewN | apply Kd.R_drew)); exact HO290.out) hb); have n1_ := Aside0.mk (below_step (by repeat (first | (with_reducible first | exact HB.out | apply below_alloc | apply pw_below_drewN | apply below_drew1) | exact HB.out)) hb); clear HO290; clear HB; have HO290 := n0_; have HB := n1_; clear n0_ n1_; (try clear hb); (try clear hb2); (try clear hk); (try clear hi)) | ((with_reducible refine gate_callee (f := 24) rfl ?_); refine goesL_ (some 167) rfl rfl Try.func24 (by kernel_rfl) rfl #[.slice Ao75 t286.length co75, .int .i64 t287, .int .i64 t288] rfl (by (try simp only [List.map_toArray, List.map_cons, List.map_nil]); first | done | rfl | (simp only [List.length_drop, List.length_take]; rfl)) ?_; (with_reducible refine (spec_EndOfEpoch.calls kj16 _ _ t286 t287 t288 t294 t295 t296 _ ?side1 ?side2 A62.out).mono ?_); (case side1 => repeat (first | exact (Kd.R_reads' HO290.out).2.2 | (with_reducible refine Kd.C_alloc ?_ _) | (with_reducible refine Kd.C_drewN ?_ _) | (with_reducible refine Kd.C_drew ?_))); (case side2 => exact (Kd.R_reads' HO290.out).2.1); rintro e w77 ⟨rfl, hb⟩; refine ⟨_, rfl, ?_⟩; have n0_ := Aside0.mk (Kd.R_below (by (with_reducible repeat (first | apply Kd.R_alloc | apply Kd.R_drewN | apply Kd.R_drew)); exact HO290.out) hb); have n1_ := Aside0.mk (below_step (by repeat (first | (with_reducible first | exact HB.out | apply below_alloc | apply pw_below_drewN | apply below_drew1) | exact HB.out)) hb); clear HO290; clear HB; have HO290 := n0_; have HB := n1_; clear n0_ n1_; (try clear hb); (try clear hb2); (try clear hk); (try clear hi)) | ((with_reducible refine gate_callee (f := 42) rfl ?_); refine goesL_ (some 173) rfl rfl Try.func42 (by kernel_rfl) rfl #[.slice A1 l1.length c1] rfl (by (try simp only [List.map_toArray, List.map_cons, List.map_nil]); first | done | rfl | (simp only [List.length_drop, List.length_take]; rfl)) ?_; (with_reducible refine (spec_DrawCutMarks.calls kj16 _ _ l1 t297 t298 _ ?side1 ?side2 A63.out).mono ?_); (case side1 => repeat (first | exact (Kd.C_below HR1.out HB.out) | (with_reducible refine Kd.C_alloc ?_ _) | (with_reducible refine Kd.C_drewN ?_ _) | (with_reducible refine Kd.C_drew ?_))); (case side2 => exact HC1.out); rintro e w78 ⟨v299, rfl, ho0, hb⟩; refine ⟨_, rfl, ?_⟩; have n0_ := Aside0.mk (Kd.R_elder' (by (with_reducible repeat (first | apply Kd.R_alloc | apply Kd.R_drewN | apply Kd.R_drew)); exact HO290.out) (Kd.R_base ho0) hb); have n1_ := Aside0.mk (Kd.R_lower (Kd.R_new' ho0 (Kd.R_lt (by (with_reducible repeat (first | apply Kd.R_alloc | apply Kd.R_drewN | apply Kd.R_drew)); exact HO290.out))) (below_size (by repeat (first | (with_reducible first | exact HB.out | apply below_alloc | apply pw_below_drewN | apply below_drew1) | exact HB.out)))); have n2_ := Aside0.mk (below_step (by repeat (first | (with_reducible first | exact HB.out | apply below_alloc | apply pw_below_drewN | apply below_drew1) | exact HB.out)) hb); clear HO290; clear HB; have HO290 := n0_; have HO300 := n1_; have HB := n2_; clear n0_ n1_ n2_; (try clear hb); (try clear hb2); (try clear hk); (try clear hi); (try clear ho0); obtain ⟨Ao79, co79, eo79⟩ := Kd.R_slice HO300.out; subst eo79) | ((with_reducible refine gate_callee (f := 32) rfl ?_); refine goesL_ (some 179) rfl rfl Try.func32 (by kernel_rfl) rfl #[.slice Ao79 t297.length co79, .int .i64 t298] rfl (by (try simp only [List.map_toArray, List.map_cons, List.map_nil]); first | done | rfl | (simp only [List.length_drop, List.length_take]; rfl)) ?_; (with_reducible refine (impl_CutMarks.calls kj16 _ _ t297 t298 t301 t302 _ ?side1 ?side2 A64.out).mono ?_); (case side1 => repeat (first | exact (Kd.R_reads' HO300.out).2.2 | (with_reducible refine Kd.C_alloc ?_ _) | (with_reducible refine Kd.C_drewN ?_ _) | (with_reducible refine Kd.C_drew ?_))); (case side2 => exact (Kd.R_reads' HO300.out).2.1); rintro e w80 ⟨v303, rfl, ho0, hb⟩; refine ⟨_, rfl, ?_⟩; have n0_ := Aside0.mk (Kd.R_elder' (by (with_reducible repeat (first | apply Kd.R_alloc | apply Kd.R_drewN | apply Kd.R_drew)); exact HO290.out) (Kd.R_base ho0) hb); have n1_ := Aside0.mk (Kd.R_elder' (by (with_reducible repeat (first | apply Kd.R_alloc | apply Kd.R_drewN | apply Kd.R_drew)); exact HO300.out) (Kd.R_base ho0) hb); have n2_ := Aside0.mk (Kd.R_lower (Kd.R_new' (Kd.R_new' ho0 (Kd.R_lt (by (with_reducible repeat (first | apply Kd.R_alloc | apply Kd.R_drewN | apply Kd.R_drew)); exact HO290.out))) (Kd.R_lt (by (with_reducible repeat (first | apply Kd.R_alloc | apply Kd.R_drewN | apply Kd.R_drew)); exact HO300.out))) (below_size (by repeat (first | (with_reducible first | exact HB.out | apply below_alloc | apply pw_below_drewN | apply below_drew1) | exact HB.out)))); have n3_ := Aside0.mk (below_step (by repeat (first | (with_reducible first | exact HB.out | apply below_alloc | apply pw_below_drewN | apply below_drew1) | exact HB.out)) hb); clear HO290; clear HO300; clear HB; have HO290 := n0_; have HO300 := n1_; have HO304 := n2_; have HB := n3_; clear n0_ n1_ n2_ n3_; (try clear hb); (try clear hb2); (try clear hk); (try clear hi); (try clear ho0)) | ((with_reducible refine gate_callee (f := 31) rfl ?_); refine goesL_ (some 185) rfl rfl Try.func31 (by kernel_rfl) rfl #[.slice Ao79 t297.length co79, .int .i64 t298] rfl (by (try simp only [List.map_toArray, List.map_cons, List.map_nil]); first | done | rfl | (simp only [List.length_drop, List.length_take]; rfl)) ?_; (with_reducible refine (spec_CutMarks.calls kj16 _ _ t297 t298 t305 t306 _ ?side1 ?side2 A65.out).mono ?_); (case side1 => repeat (first | exact (Kd.R_reads' HO300.out).2.2 | (with_reducible refine Kd.C_alloc ?_ _) | (with_reducible refine Kd.C_drewN ?_ _) | (with_reducible refine Kd.C_drew ?_))); (case side2 => exact (Kd.R_reads' HO300.out).2.1); rintro e w81 ⟨v307, rfl, ho0, hb⟩; refine ⟨_, rfl, ?_⟩; have n0_ := Aside0.mk (Kd.R_elder' (by (with_reducible repeat (first | apply Kd.R_alloc | apply Kd.R_drewN | apply Kd.R_drew)); exact HO290.out) (Kd.R_base ho0) hb); have n1_ := Aside0.mk (Kd.R_elder' (by (with_reducible repeat (first | apply Kd.R_alloc | apply Kd.R_drewN | apply Kd.R_drew)); exact HO300.out) (Kd.R_base ho0) hb); have n2_ := Aside0.mk (Kd.R_elder' (by (with_reducible repeat (first | apply Kd.R_alloc | apply Kd.R_drewN | apply Kd.R_drew)); exact HO304.out) (Kd.R_base ho0) hb); have n3_ := Aside0.mk (Kd.R_lower (Kd.R_new' (Kd.R_new' (Kd.R_new' ho0 (Kd.R_lt (by (with_reducible repeat (first | apply Kd.R_alloc | apply Kd.R_drewN | apply Kd.R_drew)); exact HO290.out))) (Kd.R_lt (by (with_reducible repeat (first | apply Kd.R_alloc | apply Kd.R_drewN | apply Kd.R_drew)); exact HO300.out))) (Kd.R_lt (by (with_reducible repeat (first | apply Kd.R_alloc | apply Kd.R_drewN | apply Kd.R_drew)); exact HO304.out))) (below_size (by repeat (first | (with_reducible first | exact HB.out | apply below_alloc | apply pw_below_drewN | apply below_drew1) | exact HB.out)))); have n4_ := Aside0.mk (below_step (by repeat (first | (with_reducible first | exact HB.out | apply below_alloc | apply pw_below_drewN | apply below_drew1) | exact HB.out)) hb); clear HO290; clear HO300; clear HO304; clear HB; have HO290 := n0_; have HO300 := n1_; have HO304 := n2_; have HO308 := n3_; have HB := n4_; clear n0_ n1_ n2_ n3_ n4_; (try clear hb); (try clear hb2); (try clear hk); (try clear hi); (try clear ho0); obtain ⟨Ao82, co82, eo82⟩ := Kd.R_slice HO304.out; subst eo82; obtain ⟨Ao83, co83, eo83⟩ := Kd.R_slice HO308.out; subst eo83) | (go_at_call 39; (with_reducible refine (laws_sameMarks.calls kj16 _ _ t301 _ _ t305 true _ ?side1 ?side2 ?side3 ?side4 A70.out).mono ?_); (case side1 => repeat (first | exact (Kd.R_reads' HO304.out).2.2 | (with_reducible refine Kd.C_alloc ?_ _) | (with_reducible refine Kd.C_drewN ?_ _) | (with_reducible refine Kd.C_drew ?_))); (case side2 => exact (Kd.R_reads' HO304.out).2.1); (case side3 => repeat (first | exact (Kd.R_reads' HO308.out).2.2 | (with_reducible refine Kd.C_alloc ?_ _) | (with_reducible refine Kd.C_drewN ?_ _) | (with_reducible refine Kd.C_drew ?_))); (case side4 => exact (Kd.R_reads' HO308.out).2.1); rintro e w' ⟨rfl, ⟨nd, rfl⟩⟩) | (go_at_call 22; (with_reducible refine (impl_GoodMarks.calls kj16 _ _ t286 t310 _ ?side1 ?side2 A72.out).mono ?_); (case side1 => repeat (first | exact (Kd.R_reads' HO290.out).2.2 | (with_reducible refine Kd.C_alloc ?_ _) | (with_reducible refine Kd.C_drewN ?_ _) | (with_reducible refine Kd.C_drew ?_))); (case side2 => exact (Kd.R_reads' HO290.out).2.1); rintro e w84 ⟨rfl, hb⟩; have n0_ := Aside0.mk (Kd.R_below (by (with_reducible repeat (first | apply Kd.R_alloc | apply Kd.R_drewN | apply Kd.R_drew)); exact HO290.out) hb); have n1_ := Aside0.mk (Kd.R_below (by (with_reducible repeat (first | apply Kd.R_alloc | apply Kd.R_drewN | apply Kd.R_drew)); exact HO300.out) hb); have n2_ := Aside0.mk (Kd.R_below (by (with_reducible repeat (first | apply Kd.R_alloc | apply Kd.R_drewN | apply Kd.R_drew)); exact HO304.out) hb); have n3_ := Aside0.mk (Kd.R_below (by (with_reducible repeat (first | apply Kd.R_alloc | apply Kd.R_drewN | apply Kd.R_drew)); exact HO308.out) hb); have n4_ := Aside0.mk (below_step (by repeat (first | (with_reducible first | exact HB.out | apply below_alloc | apply pw_below_drewN | apply below_drew1) | exact HB.out)) hb); clear HO290; clear HO300; clear HO304; clear HO308; clear HB; have HO290 := n0_; have HO300 := n1_; have HO304 := n2_; have HO308 := n3_; have HB := n4_; clear n0_ n1_ n2_ n3_ n4_; (try clear hb); (try clear hb2); (try clear hk); (try clear hi)) | (go_at_call 20; (with_reducible refine (spec_GoodMarks.calls kj16 _ _ t286 t311 _ ?side1 ?side2 A73.out).mono ?_); (case side1 => repeat (first | exact (Kd.R_reads' HO290.out).2.2 | (with_reducible refine Kd.C_alloc ?_ _) | (with_reducible refine Kd.C_drewN ?_ _) | (with_reducible refine Kd.C_drew ?_))); (case side2 => exact (Kd.R_reads' HO290.out).2.1); rintro e w85 ⟨rfl, hb⟩; have n0_ := Aside0.mk (Kd.R_below (by (with_reducible repeat (first | apply Kd.R_alloc | apply Kd.R_drewN | apply Kd.R_drew)); exact HO290.out) hb); have n1_ := Aside0.mk (Kd.R_below (by (with_reducible repeat (first | apply Kd.R_alloc | apply Kd.R_drewN | apply Kd.R_drew)); exact HO300.out) hb); have n2_ := Aside0.mk (Kd.R_below (by (with_reducible repeat (first | apply Kd.R_alloc | apply Kd.R_drewN | apply Kd.R_drew)); exact HO304.out) hb); have n3_ := Aside0.mk (Kd.R_below (by (with_reducible repeat (first | apply Kd.R_alloc | apply Kd.R_drewN | apply Kd.R_drew)); exact HO308.out) hb); have n4_ := Aside0.mk (below_step (by repeat (first | (with_reducible first | exact HB.out | apply below_alloc | apply pw_below_drewN | apply below_drew1) | exact HB.out)) hb); clear HO290; clear HO300; clear HO304; clear HO308; clear HB; have HO290 := n0_; have HO300 := n1_; have HO304 := n2_; have HO308 := n3_; have HB := n4_; clear n0_ n1_ n2_ n3_ n4_; (try clear hb); (try clear hb2); (try clear hk); (try clear hi)))
            go_ret
            exact ⟨by first | rfl | (simp [errW_none, errW_some] <;> rfl) | (simp [*, errW_none, errW_some] <;> rfl), by repeat (first | (with_reducible first | exact HB.out | apply below_alloc | apply pw_below_drewN | apply below_drew1) | exact HB.out)⟩
           ·replace c71 := Bool.eq_false_iff.mpr c71
            subst c71
            have H1 : (none) = some r := by rw [if_neg (show ¬ (false = true) by decide)] at H; exact H
            clear H
            have H := H1
            clear H1
            exact absurd H (by simp)
          ·rw [if_neg c69] at H
           exact absurd H (by simp)
         ·rw [if_neg c68] at H
          exact absurd H (by simp)
        ·rw [if_neg c67] at H
         exact absurd H (by simp)
       ·rw [if_neg c66] at H
        exact absurd H (by simp)

/-- The one pure statement of laws_FnMarks. -/
def laws_FnMarks.Pure : Prop := ∀ (l0 : List Int) (l1 : List Int), (l0.length ≤ maxLen ∧ ∀ x0 ∈ l0, (Lit.int .u8 x0).wf = true) → (l1.length ≤ maxLen ∧ ∀ x0 ∈ l1, (Lit.int .u8 x0).wf = true) → ∃ k, laws_FnMarks.f k l0 l1 = some true

end Go.Proofs.Ytopddfiiglookaa.QFnMarks
