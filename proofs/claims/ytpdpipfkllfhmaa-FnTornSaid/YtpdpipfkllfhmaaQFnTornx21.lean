/- Functions that one statement reaches: of each a plain function, and the proof that calls come to it. Conditions: those that each contract names. Written by a program of this repository. -/
import Derived.Test.YtpdpipfkllfhmaaVFnTorna
import Derived.Test.YtpdpipfkllfhmaaQFnTornx2
import Derived.Test.YtpdpipfkllfhmaaQFnTornx7
import Derived.Test.YtpdpipfkllfhmaaQFnTornx10
import Derived.Test.YtpdpipfkllfhmaaQFnTornx12
import Derived.Test.YtpdpipfkllfhmaaQFnTornx16
import Derived.Test.YtpdpipfkllfhmaaQFnTornx17
import Derived.Test.YtpdpipfkllfhmaaQFnTornx18
import Derived.Test.YtpdpipfkllfhmaaQFnTornx20
namespace Go.Proofs.Ytpdpipfkllfhmaa.QFnTorn
open Go.RowKit Go.Proofs.YtpdpipfkllfhmaaW.PrintWords Go.Proofs.YtpdpipfkllfhmaaW.PrintLast Go.Proofs.YtpdpipfkllfhmaaW.PrintMore
attribute [local go_sem] max2_int min2_int max_two min_two max_three min_three max_four min_four Go.Proofs.YtpdpipfkllfhmaaW.PrintMore2.isSome_setCell   -- for this text's walks alone
set_option linter.unusedVariables false
set_option linter.unusedSimpArgs false

/-! ### laws_FnTorn: function 7 -/
mutual
def laws_FnTorn.j1 : Nat → List Int → Option (Bool)
 | 0, _ => none
 | k + 1, x1 => (spec_DrawRecoverFile.f k x1).bind fun bt566 => ((impl_RecoverFile.f k bt566.1 bt566.2).bind fun bt571 => ((spec_RecoverFile.f k bt566.1 bt566.2).bind fun bt579 => ((impl_SurvivesIn.f k bt566.1 bt566.2).bind fun bt587 => ((spec_SurvivesIn.f k bt566.1 bt566.2).bind fun bt591 => (if (bt571.2.2 == bt579.2.2) = true then ((laws_sameDisks.f k bt571.1 bt579.1).bind fun t595 => (if t595 = true then ((laws_sameBatches.f k bt571.2.1 bt579.2.1).bind fun t596 => (if t596 = true then (if (bt587.2 == bt591.2) = true then ((laws_sameBatches.f k bt587.1 bt591.1).bind fun t597 => (some t597)) else (none)) else (none))) else (none))) else (none))))))
def laws_FnTorn.l0 : Nat → List Int → Int → Int → List (S56) → List (S56) → Option (Bool)
 | 0, _, _, _, _, _ => none
 | k + 1, x1, x77, x78, x510000, x515000 => if x78 < x77 then ((impl_SurvivesIn.f k x510000 x78).bind fun bt523 => ((impl_RecoverFile.f k x515000 x78).bind fun bt527 => ((impl_RecoverFile.f k x510000 x78).bind fun bt535 => (if bt523.2 = true then (if bt527.2.2 = true then (if bt535.2.2 = true then (if (bt527.2.1.length : Int) < (bt523.1.length : Int) then (none) else (if 0 ≤ (bt523.1.length : Int) then (if (bt523.1.length : Int) ≤ (bt527.2.1.length : Int) then ((laws_sameBatches.f k (bt527.2.1.take ((bt523.1.length : Int) : Int).toNat) bt523.1).bind fun t547 => (if t547 = true then (if (bt535.2.1.length : Int) < (bt527.2.1.length : Int) then (none) else (if 0 ≤ (bt527.2.1.length : Int) then (if (bt527.2.1.length : Int) ≤ (bt535.2.1.length : Int) then ((laws_sameBatches.f k (bt535.2.1.take ((bt527.2.1.length : Int) : Int).toNat) bt527.2.1).bind fun t552 => (if t552 = true then ((impl_RecoverFile.f k bt527.1 x78).bind fun bt553 => ((impl_GoodDisk.f bt527.1).bind fun t561 => (if t561 = true then (if bt553.2.2 = true then ((laws_sameDisks.f k bt553.1 bt527.1).bind fun t562 => (if t562 = true then ((laws_sameBatches.f k bt553.2.1 bt527.2.1).bind fun t563 => (if t563 = true then (if 0 ≤ x78 then (if x78 < (bt527.1.length : Int) then (if ((rd_T56 bt527.1 x78).f1) = (((rd_T56 bt527.1 x78).f0).size : Int) then (laws_FnTorn.l0 k x1 x77 (wrap64 (x78 + 1)) x510000 x515000) else (none)) else (none)) else (none)) else (none))) else (none))) else (none)) else (none)))) else (none))) else (none)) else (none))) else (none))) else (none)) else (none))) else (none)) else (none)) else (none))))) else (laws_FnTorn.j1 k x1)
end
def laws_FnTorn.f (k : Nat) (l0 : List Int) (l1 : List Int) : Option (Bool) := if (wrap64 ((l0.length : Int) + (l1.length : Int))) > 1048576 then (some true) else ((spec_DrawCrashDisk.f k l0).bind fun bt503 => ((impl_CrashDisk.f k bt503.1 bt503.2).bind fun bt510 => ((spec_CrashDisk.f k bt503.1 bt503.2).bind fun bt515 => (if (bt510.2 != bt515.2) = true then (none) else ((laws_sameDisks.f k bt510.1 bt515.1).bind fun t520 => (if t520 = true then ((impl_GoodDisk.f bt503.1).bind fun t521 => ((spec_GoodDisk.f k bt503.1).bind fun t522 => (if (t521 != t522) = true then (none) else (if bt510.2 = true then (laws_FnTorn.l0 k l1 (bt503.1.length : Int) 0 bt503.1 bt510.1) else (laws_FnTorn.j1 k l1))))) else (none)))))))
theorem laws_FnTorn.mono_l : ∀ k, (∀ y0, LeO (laws_FnTorn.j1 k y0) (laws_FnTorn.j1 (k + 1) y0)) ∧ (∀ y0 y1 y2 y3 y4, LeO (laws_FnTorn.l0 k y0 y1 y2 y3 y4) (laws_FnTorn.l0 (k + 1) y0 y1 y2 y3 y4))
 | 0 => ⟨fun _ r h => by simp [laws_FnTorn.j1] at h, fun _ _ _ _ _ r h => by simp [laws_FnTorn.l0] at h⟩
 | k + 1 => by
  obtain ⟨ih0, ih1⟩ := laws_FnTorn.mono_l k
  refine ⟨?_, ?_⟩
  all_goals intros; first | unfold laws_FnTorn.j1 | unfold laws_FnTorn.l0
  all_goals repeat' first | (with_reducible first | apply ih0 | apply ih1 | apply impl_CrashDisk.mono | apply impl_RecoverFile.mono | apply impl_SurvivesIn.mono | apply laws_sameBatches.mono | apply laws_sameDisks.mono | apply spec_CrashDisk.mono | apply spec_DrawCrashDisk.mono | apply spec_DrawRecoverFile.mono | apply spec_GoodDisk.mono | apply spec_RecoverFile.mono | apply spec_SurvivesIn.mono | exact LeO.refl _ | exact LeO.none _ | refine LeO.ite ?_ ?_ | refine LeO.bind ?_ (fun _ => ?_))
theorem laws_FnTorn.mono : ∀ a0 a1 k, LeO (laws_FnTorn.f k a0 a1) (laws_FnTorn.f (k + 1) a0 a1) := by
 intro a0 a1 k
 obtain ⟨ih0, ih1⟩ := laws_FnTorn.mono_l k
 unfold laws_FnTorn.f
 repeat' first
   | (with_reducible first | apply ih0 | apply ih1 | apply impl_CrashDisk.mono | apply impl_RecoverFile.mono | apply impl_SurvivesIn.mono | apply laws_sameBatches.mono | apply laws_sameDisks.mono | apply spec_CrashDisk.mono | apply spec_DrawCrashDisk.mono | apply spec_DrawRecoverFile.mono | apply spec_GoodDisk.mono | apply spec_RecoverFile.mono | apply spec_SurvivesIn.mono | exact LeO.refl _ | exact LeO.none _ | refine LeO.ite ?_ ?_ | refine LeO.bind ?_ (fun _ => ?_))
def laws_FnTorn.T6 : Bool × List (List Nat × List Nat) := (true, [([], []), ([], []), ([0, 1], [0, 1]), ([2], [2]), ([3], [3]), ([3], [3]), ([4, 5, 3, 3], [3, 4, 5]), ([6, 3], [3, 6]), ([3, 7], [3, 7]), ([8, 6], [8]), ([9], [9]), ([10, 9, 9], [9, 10]), ([9], [9]), ([12, 11, 9], [9, 12]), ([11, 13, 9], [9, 11, 13]), ([9, 14], [9, 14])])
def laws_FnTorn.B6 : List Nat := [0, 0, 3, 7, 15, 15, 63, 127, 255, 511, 1023, 2047, 1023, 8191, 16383, 32767]
theorem laws_FnTorn.tab6 : rtab .any (opsOf Try.f7 6) = laws_FnTorn.T6 := by kernel_rfl
theorem laws_FnTorn.bits6 : waitsOk laws_FnTorn.T6.2 laws_FnTorn.B6 = true := by kernel_rfl
def laws_FnTorn.T18 : Bool × List (List Nat × List Nat) := (true, [([], []), ([0], [0]), ([1], [1]), ([2, 1], [2]), ([3], [3]), ([4, 3], [3, 4]), ([3, 5], [3, 5]), ([6, 3], [6]), ([7], [7]), ([7], [7]), ([8, 9, 7, 7], [7, 8, 9]), ([10, 7], [7, 10]), ([7, 11], [7, 11]), ([12, 10], [12]), ([13], [13]), ([13], [13]), ([14, 15, 13, 13], [13, 14, 15]), ([16, 13], [13, 16]), ([13, 17], [13, 17]), ([18, 16], [18]), ([19], [19]), ([20, 19], [19, 20]), ([19], [19]), ([21, 22, 19], [19, 21, 22]), ([23, 19], [19, 23]), ([24, 19], [19, 24]), ([19], [19]), ([26, 19], [19, 26]), ([19], [19]), ([27, 28, 19], [19, 27, 28]), ([29, 19], [19, 29]), ([30, 19], [19, 30]), ([31, 19], [19, 31]), ([25, 32, 19], [19, 25, 32]), ([19, 33], [19, 33])])
def laws_FnTorn.B18 : List Nat := [0, 1, 3, 7, 15, 31, 63, 127, 255, 255, 1023, 2047, 4095, 8191, 16383, 16383, 65535, 131071, 262143, 524287, 1048575, 2097151, 1048575, 8388607, 16777215, 33554431, 1048575, 68157439, 1048575, 470810623, 1007681535, 2081423359, 4228907007, 8589934591, 17179869183]
theorem laws_FnTorn.tab18 : rtab .any (opsOf Try.f7 18) = laws_FnTorn.T18 := by kernel_rfl
theorem laws_FnTorn.bits18 : waitsOk laws_FnTorn.T18.2 laws_FnTorn.B18 = true := by kernel_rfl
set_option maxHeartbeats 8000000 in
set_option maxRecDepth 100000 in
theorem laws_FnTorn.calls (k : Nat) (A0 : Option Addr) (c0 : Nat) (l0 : List Int) (A1 : Option Addr) (c1 : Nat) (l1 : List Int) (r : Bool) (w : World) (hr0 : Kd.C (Kd.int .u8) w A0 l0.length l0) (hc0 : l0.length ≤ c0) (hr1 : Kd.C (Kd.int .u8) w A1 l1.length l1) (hc1 : l1.length ≤ c1) (h : laws_FnTorn.f k l0 l1 = some r) :
  Calls Try.prog 7 #[.slice A0 l0.length c0, .slice A1 l1.length c1] w fun e w' => e = .returned (.bool r) ∧ Below w.heap.size w w' := by
 have hu31 := Try.underlying31
 have HR0 := Aside0.mk hr0
 have HC0 := Aside0.mk hc0
 clear hr0 hc0
 have HR1 := Aside0.mk hr1
 have HC1 := Aside0.mk hc1
 clear hr1 hc1
 have HB := Aside0.mk (Below.refl w.heap.size w)
 have H : (if (wrap64 ((l0.length : Int) + (l1.length : Int))) > 1048576 then (some true) else ((spec_DrawCrashDisk.f k l0).bind fun bt503 => ((impl_CrashDisk.f k bt503.1 bt503.2).bind fun bt510 => ((spec_CrashDisk.f k bt503.1 bt503.2).bind fun bt515 => (if (bt510.2 != bt515.2) = true then (none) else ((laws_sameDisks.f k bt510.1 bt515.1).bind fun t520 => (if t520 = true then ((impl_GoodDisk.f bt503.1).bind fun t521 => ((spec_GoodDisk.f k bt503.1).bind fun t522 => (if (t521 != t522) = true then (none) else (if bt510.2 = true then (laws_FnTorn.l0 k l1 (bt503.1.length : Int) 0 bt503.1 bt510.1) else (laws_FnTorn.j1 k l1))))) else (none)))))))) = some r := h
 clear h
 replace H := ite_ H
 obtain ⟨c3, H⟩ | ⟨c3, H⟩ := H
 ·have c3b0 := dgt_ c3
  clear c3
  obtain rfl := Option.some.inj H
  go_enter Try.func7, Try.ntmps7
  go_wp2
  go_ret
  exact ⟨er_, hb_⟩
 have c3b0 := dgf_ c3
 clear c3
 replace H := bnd_ H
 obtain ⟨⟨t503, t506⟩, A4, H⟩ := H
 replace H := red_ H
 replace H := bnd_ H
 obtain ⟨⟨t510, t513⟩, A5, H⟩ := H
 replace H := red_ H
 replace H := bnd_ H
 obtain ⟨⟨t515, t518⟩, A6, H⟩ := H
 replace H := red_ H
 replace H := ifx_ H
 obtain ⟨c7, H⟩ := H
 have c7b0 : (t513 != t518) = false := by simpa using c7
 (try (have c7b1 : decide (t513 = t518) = true := by simpa using c7))
 (try (have c7b2 : (t513 == t518) = true := by simpa using c7))
 clear c7
 replace H := bnd_ H
 obtain ⟨t520, A8, H⟩ := H
 replace H := ifb_ H
 obtain ⟨rfl, H⟩ | ⟨rfl, H⟩ := H
 rotate_left
 ·exact absurd H (by simp)
 replace H := bnd_ H
 obtain ⟨t521, A10, H⟩ := H
 replace H := bnd_ H
 obtain ⟨t522, A11, H⟩ := H
 replace H := ifx_ H
 obtain ⟨c12, H⟩ := H
 have c12b0 : (t521 != t522) = false := by simpa using c12
 (try (have c12b1 : decide (t521 = t522) = true := by simpa using c12))
 (try (have c12b2 : (t521 == t522) = true := by simpa using c12))
 clear c12
 have HC13 := Aside0.mk H
 clear H
 go_enter Try.func7, Try.ntmps7
 try go_wp2_with (first | ((with_reducible refine gate_callee (f := 42) rfl ?_); refine gl_ 43 Try.func42 #[.slice A0 l0.length c0] rfl ma_ ?_; (with_reducible refine (spec_DrawCrashDisk.calls k _ _ l0 t503 t506 _ ?side1 ?side2 A4.out).mono ?_); (case side1 => exact cs_ (HR0.out)); (case side2 => exact HC0.out); rintro e w14 ⟨v504, v507, rfl, ho0, ho1, hb⟩; refine ⟨_, rfl, ?_⟩; have HO505 := Aside0.mk (Kd.R_lower ho0 (below_size (hb_))); have HO508 := Aside0.mk (Kd.R_lower ho1 (below_size (hb_))); replace HB := nb_ hb; (try clear hb); (try clear hb2); (try clear hk); (try clear hi); (try clear ho0); (try clear ho1)) | ((with_reducible refine gate_dst (N := 5) rfl ?_); (try (refine gate_guard (by rfl) ?_; dsimp only)); refine bq_ (N := 5) #[.slice none 0 0] 31 ?_; intro gb509 hg w15 BK509 hb; replace HO505 := rB_ HO505 hb; replace HO508 := rB_ HO508 hb; have GE509 := ge_ hg; replace HB := nb_ hb; clear hb hg; obtain ⟨Ao16, co16, eo16⟩ := Kd.R_slice HO505.out; subst eo16; obtain ⟨hcz17_0, hfz17_0⟩ := cf1_ BK509.out; obtain ⟨Ao18, co18, eo18⟩ := Kd.R_slice HO508.out; subst eo18) | ((with_reducible refine gate_callee (f := 43) rfl ?_); refine gl_ 49 Try.func43 #[.agg #[.slice Ao16 t503.length co16], .slice Ao18 t506.length co18] rfl ma_ ?_; (with_reducible refine (impl_CrashDisk.calls k _ _ t503 _ _ t506 t510 t513 _ ?side1 ?side2 ?side3 ?side4 A5.out).mono ?_); (case side1 => refine (Kd.R_reads' (e := 56) (base := w.heap.size) (ok := fun k_ => True) (n := t503.length) (c := co16) ?_).2.2; exact (rF_ (Kd.R_mono (Kd.R_far (p := ⟨gb509, 0, none⟩) (Kd.R_types HO505.out BK509.out (by decide)) (fun _ hk => hk.2) (.slice Ao16 t503.length co16)) (fun _ h_ => h_.1)))); (case side2 => exact (Kd.R_reads' HO505.out).2.1); (case side3 => refine (Kd.R_reads' (e := 3) (base := w.heap.size) (ok := fun k_ => True) (n := t506.length) (c := co18) ?_).2.2; exact (rF_ (Kd.R_mono (Kd.R_far (p := ⟨gb509, 0, none⟩) (Kd.R_types HO508.out BK509.out (by decide)) (fun _ hk => hk.2) (.slice Ao16 t503.length co16)) (fun _ h_ => h_.1)))); (case side4 => exact (Kd.R_reads' HO508.out).2.1); rintro e w19 ⟨v511, rfl, ho0, hb⟩; refine ⟨_, rfl, ?_⟩; replace HO508 := Aside0.mk (Kd.R_below (rF_ (Kd.R_mono (Kd.R_far (p := ⟨gb509, 0, none⟩) (Kd.R_types HO508.out BK509.out (by decide)) (fun _ hk => hk.2) (.slice Ao16 t503.length co16)) (fun _ h_ => h_.1))) hb); have HO512 := Aside0.mk (Kd.R_lower (Kd.R_new' ho0 (Kd.R_lt (rF_ (Kd.R_mono (Kd.R_far (p := ⟨gb509, 0, none⟩) (Kd.R_types HO505.out BK509.out (by decide)) (fun _ hk => hk.2) (.slice Ao16 t503.length co16)) (fun _ h_ => h_.1))))) (below_size (hs_ GE509.out))); replace HO505 := Aside0.mk (Kd.R_elder' (rF_ (Kd.R_mono (Kd.R_far (p := ⟨gb509, 0, none⟩) (Kd.R_types HO505.out BK509.out (by decide)) (fun _ hk => hk.2) (.slice Ao16 t503.length co16)) (fun _ h_ => h_.1))) (Kd.R_base ho0) hb); replace BK509 := Aside0.mk (blk_below (g := gb509) (o := .cells #[.slice Ao16 t503.length co16] 31 (0, 0)) (up_ BK509) hb); replace HB := nc_ GE509 hb; (try clear hb); (try clear hb2); (try clear hk); (try clear hi); (try clear ho0)) | ((with_reducible refine gate_dst (N := 7) rfl ?_); (try (refine gate_guard (by rfl) ?_; dsimp only)); refine bq_ (N := 7) #[.slice none 0 0] 31 ?_; intro gb514 hg w20 BK514 hb; replace HO505 := rB_ HO505 hb; replace HO508 := rB_ HO508 hb; replace HO512 := rB_ HO512 hb; have GE514 := ge1_ hg GE509; replace HB := nc_ GE509 hb; have NB509_514 := nl_ BK509 hg; have NB514_509 := ng_ BK509 hg; replace BK509 := bK_ BK509 hb; clear hb hg; obtain ⟨Ao21, co21, eo21⟩ := Kd.R_slice HO512.out; subst eo21; have hnb22 := NB514_509.out; have hnc22 := NB509_514.out; obtain ⟨hcz23_0, hfz23_0⟩ := cf1_ BK514.out; obtain ⟨hcz24_0, hfz24_0⟩ := cf1_ BK509.out) | ((with_reducible refine gate_callee (f := 44) rfl ?_); refine gl_ 55 Try.func44 #[.agg #[.slice Ao16 t503.length co16], .slice Ao18 t506.length co18] rfl ma_ ?_; (with_reducible refine (spec_CrashDisk.calls k _ _ t503 _ _ t506 t515 t518 _ ?side1 ?side2 ?side3 ?side4 A6.out).mono ?_); (case side1 => refine (Kd.R_reads' (e := 56) (base := w.heap.size) (ok := fun k_ => (True ∧ some k_ ≠ (.slice Ao21 t510.length co21 : Value).ownBlock)) (n := t503.length) (c := co16) ?_).2.2; exact (rF_ (Kd.R_mono (Kd.R_far (p := ⟨gb514, 0, none⟩) (Kd.R_types HO505.out BK514.out (by decide)) (fun _ hk => hk.2) (.slice Ao21 t510.length co21)) (fun _ h_ => h_.1)))); (case side2 => exact (Kd.R_reads' HO505.out).2.1); (case side3 => refine (Kd.R_reads' (e := 3) (base := w.heap.size) (ok := fun k_ => True) (n := t506.length) (c := co18) ?_).2.2; exact (rF_ (Kd.R_mono (Kd.R_far (p := ⟨gb514, 0, none⟩) (Kd.R_types HO508.out BK514.out (by decide)) (fun _ hk => hk.2) (.slice Ao21 t510.length co21)) (fun _ h_ => h_.1)))); (case side4 => exact (Kd.R_reads' HO508.out).2.1); rintro e w25 ⟨v516, rfl, ho0, hb⟩; refine ⟨_, rfl, ?_⟩; replace HO508 := Aside0.mk (Kd.R_below (rF_ (Kd.R_mono (Kd.R_far (p := ⟨gb514, 0, none⟩) (Kd.R_types HO508.out BK514.out (by decide)) (fun _ hk => hk.2) (.slice Ao21 t510.length co21)) (fun _ h_ => h_.1))) hb); have HO517 := Aside0.mk (Kd.R_lower (Kd.R_new' (Kd.R_new' ho0 (Kd.R_lt (rF_ (Kd.R_mono (Kd.R_far (p := ⟨gb514, 0, none⟩) (Kd.R_types HO505.out BK514.out (by decide)) (fun _ hk => hk.2) (.slice Ao21 t510.length co21)) (fun _ h_ => h_.1))))) (Kd.R_lt (rF_ (Kd.R_mono (Kd.R_far (p := ⟨gb514, 0, none⟩) (Kd.R_types HO512.out BK514.out (by decide)) (fun _ hk => hk.2) (.slice Ao21 t510.length co21)) (fun _ h_ => h_.1))))) (below_size (hs2_ GE509.out GE514.out))); replace HO505 := Aside0.mk (Kd.R_elder' (rF_ (Kd.R_mono (Kd.R_far (p := ⟨gb514, 0, none⟩) (Kd.R_types HO505.out BK514.out (by decide)) (fun _ hk => hk.2) (.slice Ao21 t510.length co21)) (fun _ h_ => h_.1))) (Kd.R_base ho0) hb); replace HO512 := Aside0.mk (Kd.R_elder' (rF_ (Kd.R_mono (Kd.R_far (p := ⟨gb514, 0, none⟩) (Kd.R_types HO512.out BK514.out (by decide)) (fun _ hk => hk.2) (.slice Ao21 t510.length co21)) (fun _ h_ => h_.1))) (Kd.R_base ho0) hb); replace BK509 := Aside0.mk (blk_below (g := gb509) (o := .cells #[.slice Ao16 t503.length co16] 31 (0, 0)) (uf_ BK509 NB509_514.out) hb); replace BK514 := Aside0.mk (blk_below (g := gb514) (o := .cells #[.slice Ao21 t510.length co21] 31 (0, 0)) (up_ BK514) hb); replace HB := nc2_ GE509 GE514 hb; (try clear hb); (try clear hb2); (try clear hk); (try clear hi); (try clear ho0)) | ((with_reducible refine gate_dst (N := 9) rfl ?_); (try (refine gate_guard (by rfl) ?_; dsimp only)); refine bq_ (N := 9) #[.slice none 0 0] 31 ?_; intro gb519 hg w26 BK519 hb; replace HO505 := rB_ HO505 hb; replace HO508 := rB_ HO508 hb; replace HO512 := rB_ HO512 hb; replace HO517 := rB_ HO517 hb; have GE519 := ge2_ hg GE509 GE514; replace HB := nc2_ GE509 GE514 hb; have NB509_519 := nl_ BK509 hg; have NB519_509 := ng_ BK509 hg; replace BK509 := bK_ BK509 hb; have NB514_519 := nl_ BK514 hg; have NB519_514 := ng_ BK514 hg; replace BK514 := bK_ BK514 hb; clear hb hg; obtain ⟨Ao27, co27, eo27⟩ := Kd.R_slice HO517.out; subst eo27; have hnb28 := NB519_509.out; have hnc28 := NB509_519.out; have hnb29 := NB519_514.out; have hnc29 := NB514_519.out; obtain ⟨hcz30_0, hfz30_0⟩ := cf1_ BK519.out))
 have n0_ : Aside0 (Kd.R k56 56 (w26.setCell ⟨gb519, 0, none⟩ (.slice Ao27 t515.length co27)) w.heap.size (fun k_ => some k_ ≠ (.slice Ao21 t510.length co21 : Value).ownBlock ∧ some k_ ≠ (.slice Ao27 t515.length co27 : Value).ownBlock) (.slice Ao16 t503.length co16) t503) := ⟨rF_ (Kd.R_mono (Kd.R_far (p := ⟨gb519, 0, none⟩) (Kd.R_types HO505.out BK519.out (by decide)) (fun _ hk => hk.2) (.slice Ao27 t515.length co27)) (fun _ hk => ⟨hk.1.1.2, hk.1.2⟩))⟩
 have n1_ : Aside0 (Kd.R (Kd.int .i64) 3 (w26.setCell ⟨gb519, 0, none⟩ (.slice Ao27 t515.length co27)) w.heap.size (fun _ => True) (.slice Ao18 t506.length co18) t506) := ⟨rF_ (Kd.R_mono (Kd.R_far (p := ⟨gb519, 0, none⟩) (Kd.R_types HO508.out BK519.out (by decide)) (fun _ hk => hk.2) (.slice Ao27 t515.length co27)) (fun _ hk => trivial))⟩
 have n2_ : Aside0 (Kd.R k56 56 (w26.setCell ⟨gb519, 0, none⟩ (.slice Ao27 t515.length co27)) w.heap.size (fun k_ => some k_ ≠ (.slice Ao16 t503.length co16 : Value).ownBlock ∧ some k_ ≠ (.slice Ao27 t515.length co27 : Value).ownBlock) (.slice Ao21 t510.length co21) t510) := ⟨rF_ (Kd.R_mono (Kd.R_far (p := ⟨gb519, 0, none⟩) (Kd.R_types HO512.out BK519.out (by decide)) (fun _ hk => hk.2) (.slice Ao27 t515.length co27)) (fun _ hk => ⟨hk.1.1.2, hk.1.2⟩))⟩
 have n3_ : Aside0 (Kd.R k56 56 (w26.setCell ⟨gb519, 0, none⟩ (.slice Ao27 t515.length co27)) w.heap.size (fun k_ => some k_ ≠ (.slice Ao16 t503.length co16 : Value).ownBlock ∧ some k_ ≠ (.slice Ao21 t510.length co21 : Value).ownBlock) (.slice Ao27 t515.length co27) t515) := ⟨rF_ (Kd.R_mono (Kd.R_far (p := ⟨gb519, 0, none⟩) (Kd.R_types HO517.out BK519.out (by decide)) (fun _ hk => hk.2) (.slice Ao27 t515.length co27)) (fun _ hk => ⟨hk.1.1.2, hk.1.2⟩))⟩
 have n4_ : Aside0 ((w26.setCell ⟨gb519, 0, none⟩ (.slice Ao27 t515.length co27)).heap[gb509]? = some (.cells #[.slice Ao16 t503.length co16] 31 (0, 0))) := ⟨uf_ BK509 NB509_519.out⟩
 have n5_ : Aside0 ((w26.setCell ⟨gb519, 0, none⟩ (.slice Ao27 t515.length co27)).heap[gb514]? = some (.cells #[.slice Ao21 t510.length co21] 31 (0, 0))) := ⟨uf_ BK514 NB514_519.out⟩
 have n6_ : Aside0 ((w26.setCell ⟨gb519, 0, none⟩ (.slice Ao27 t515.length co27)).heap[gb519]? = some (.cells #[.slice Ao27 t515.length co27] 31 (0, 0))) := ⟨up_ BK519⟩
 have n7_ : Aside0 (Below w.heap.size w (w26.setCell ⟨gb519, 0, none⟩ (.slice Ao27 t515.length co27))) := ⟨hs3_ GE509.out GE514.out GE519.out⟩
 (try clear HO505)
 (try clear HO508)
 (try clear HO512)
 (try clear HO517)
 (try clear BK509)
 (try clear BK514)
 (try clear BK519)
 (try clear HB)
 generalize (w26.setCell ⟨gb519, 0, none⟩ (.slice Ao27 t515.length co27)) = w31 at n0_ n1_ n2_ n3_ n4_ n5_ n6_ n7_ ⊢
 have HO505 := n0_
 have HO508 := n1_
 have HO512 := n2_
 have HO517 := n3_
 have BK509 := n4_
 have BK514 := n5_
 have BK519 := n6_
 have HB := n7_
 clear n0_ n1_ n2_ n3_ n4_ n5_ n6_ n7_
 replace HO505 := qR_ HO505
 replace HO508 := qR_ HO508
 replace HO512 := qR_ HO512
 replace HO517 := qR_ HO517
 replace BK509 := qK_ BK509
 replace BK514 := qK_ BK514
 replace BK519 := qK_ BK519
 replace HB := qH_ HB
 refine start_ (n := 16) (S := fun w' => w'.cell? ⟨gb514, 0, none⟩ = some (.slice Ao21 t510.length co21) ∧ w'.cell? ⟨gb519, 0, none⟩ = some (.slice Ao27 t515.length co27) ∧ w'.cell? ⟨gb509, 0, none⟩ = some (.slice Ao16 t503.length co16)) (ds := []) (List.replicate 16 false).toArray (by kernel_rfl) rfl rfl ⟨bt_ BK514 0, bt_ BK519 0, bt_ BK509 0⟩ (fun hHeld => ?_); refine with_tabW laws_FnTorn.tab6 laws_FnTorn.bits6 (fun HT_ HW_ => ?_)
 generalize w31.drew = w32 at HO505 HO508 HO512 HO517 BK509 BK514 BK519 HB hHeld ⊢
 refine pv_ 0 58 ?_
 refine pv_ 1 59 ?_
 refine pv_ 2 60 ?_
 refine pv_ 3 61 ?_
 refine tk_ 4 62 ?_
 refine tk_ 5 63 ?_
 refine on_ 6 64 (fun K hK => ?_)
 refine gs_ Try.func27 #[.agg #[.slice Ao21 t510.length co21], .agg #[.slice Ao27 t515.length co27]] rfl ma_ ?_
 with_reducible refine (laws_sameDisks.calls k _ _ t510 _ _ t515 true _ ?side1 ?side2 ?side3 ?side4 A8.out).mono ?_
 (case side1 => exact cs_ ((Kd.R_reads' HO512.out).2.2))
 (case side2 => exact (Kd.R_reads' HO512.out).2.1)
 (case side3 => exact cs_ ((Kd.R_reads' HO517.out).2.2))
 (case side4 => exact (Kd.R_reads' HO517.out).2.1)
 rintro e w33 ⟨rfl, hb⟩
 refine ⟨_, rfl, ?_⟩
 replace HO505 := rB_ HO505 hb
 replace HO508 := rB_ HO508 hb
 replace HO512 := rB_ HO512 hb
 replace HO517 := rB_ HO517 hb
 replace BK509 := bK_ BK509 hb
 replace BK514 := bK_ BK514 hb
 replace BK519 := bK_ BK519 hb
 replace HB := nc3_ GE509 GE514 GE519 hb
 (try clear hb)
 (try clear hb2)
 (try clear hk)
 (try clear hi)
 refine hK.out _ _ ⟨bt_ BK514 0, bt_ BK519 0, bt_ BK509 0⟩ (fun hHeld => ?_)
 clear hK K
 refine no_ ?_
 refine pv_ 7 65 ?_
 refine pv_ 8 66 ?_
 refine pv_ 9 67 ?_
 refine tk_ 10 68 ?_
 refine tk_ 12 70 ?_
 refine on_ 11 69 (fun K hK => ?_)
 refine gs_ Try.func41 #[.agg #[.slice Ao16 t503.length co16]] rfl ma_ ?_
 with_reducible refine (impl_GoodDisk.calls _ _ t503 t521 _ ?side1 ?side2 A10.out).mono ?_
 (case side1 => exact cs_ ((Kd.R_reads' HO505.out).2.2))
 (case side2 => exact (Kd.R_reads' HO505.out).2.1)
 rintro e w34 ⟨rfl, hb⟩
 refine ⟨_, rfl, ?_⟩
 replace HO505 := rB_ HO505 hb
 replace HO508 := rB_ HO508 hb
 replace HO512 := rB_ HO512 hb
 replace HO517 := rB_ HO517 hb
 replace BK509 := bK_ BK509 hb
 replace BK514 := bK_ BK514 hb
 replace BK519 := bK_ BK519 hb
 replace HB := nc3_ GE509 GE514 GE519 hb
 (try clear hb)
 (try clear hb2)
 (try clear hk)
 (try clear hi)
 refine hK.out _ _ ⟨bt_ BK514 0, bt_ BK519 0, bt_ BK509 0⟩ (fun hHeld => ?_)
 clear hK K
 refine no_ ?_
 refine on_ 13 71 (fun K hK => ?_)
 refine gs_ Try.func45 #[.agg #[.slice Ao16 t503.length co16]] rfl ma_ ?_
 with_reducible refine (spec_GoodDisk.calls k _ _ t503 t522 _ ?side1 ?side2 A11.out).mono ?_
 (case side1 => exact cs_ ((Kd.R_reads' HO505.out).2.2))
 (case side2 => exact (Kd.R_reads' HO505.out).2.1)
 rintro e w35 ⟨rfl, hb⟩
 refine ⟨_, rfl, ?_⟩
 replace HO505 := rB_ HO505 hb
 replace HO508 := rB_ HO508 hb
 replace HO512 := rB_ HO512 hb
 replace HO517 := rB_ HO517 hb
 replace BK509 := bK_ BK509 hb
 replace BK514 := bK_ BK514 hb
 replace BK519 := bK_ BK519 hb
 replace HB := nc3_ GE509 GE514 GE519 hb
 (try clear hb)
 (try clear hb2)
 (try clear hk)
 (try clear hi)
 refine hK.out _ _ ⟨bt_ BK514 0, bt_ BK519 0, bt_ BK509 0⟩ (fun hHeld => ?_)
 clear hK K
 refine no_ ?_
 refine pv_ 14 72 ?_
 refine pv_ 15 73 ?_
 refine done_ (done_of HT_.out (by kernel_rfl)) ?_
 go_upto_if 74 with (fail)
 go_cut [] (fun wc => ∃ (kq : Nat), Aside0 (laws_FnTorn.j1 kq l1 = some r) ∧ Aside0 (kq ≤ k) ∧ Aside0 (Kd.R k56 56 wc w.heap.size (fun k_ => some k_ ≠ ((.slice Ao21 t510.length co21) : Value).ownBlock ∧ some k_ ≠ ((.slice Ao27 t515.length co27) : Value).ownBlock) (.slice Ao16 t503.length co16) t503) ∧ Aside0 (Kd.R k56 56 wc w.heap.size (fun k_ => some k_ ≠ ((.slice Ao16 t503.length co16) : Value).ownBlock ∧ some k_ ≠ ((.slice Ao27 t515.length co27) : Value).ownBlock) (.slice Ao21 t510.length co21) t510) ∧ Aside0 (Kd.R k56 56 wc w.heap.size (fun k_ => some k_ ≠ ((.slice Ao16 t503.length co16) : Value).ownBlock ∧ some k_ ≠ ((.slice Ao21 t510.length co21) : Value).ownBlock) (.slice Ao27 t515.length co27) t515) ∧ Aside0 (wc.heap[gb509]? = some (.cells #[(.slice Ao16 t503.length co16)] 31 (0, 0))) ∧ Aside0 (wc.heap[gb514]? = some (.cells #[(.slice Ao21 t510.length co21)] 31 (0, 0))) ∧ Aside0 (wc.heap[gb519]? = some (.cells #[(.slice Ao27 t515.length co27)] 31 (0, 0))) ∧ Aside0 (Below w.heap.size w wc))
 case first =>
  have H := HC13.out
  clear HC13
  replace H := ifb_ H
  obtain ⟨rfl, H⟩ | ⟨rfl, H⟩ := H
  rotate_left
  ·have H' := Aside0.mk H
   clear H
   go_wp2
   go_meet
   case rel => exact ⟨_, H', ⟨by first | omega | exact Nat.le_refl _⟩, ⟨kr_ HO505.out⟩, ⟨kr_ HO512.out⟩, ⟨kr_ HO517.out⟩, ⟨kb_ BK509.out⟩, ⟨kb_ BK514.out⟩, ⟨kb_ BK519.out⟩, ⟨hs3_ GE509.out GE514.out GE519.out⟩⟩
  have H' := Aside0.mk H
  clear H
  have hnb37 := NB509_514.out
  have hnc37 := NB514_509.out
  have hnb38 := NB509_519.out
  have hnc38 := NB519_509.out
  obtain ⟨hcz39_0, hfz39_0⟩ := cf1_ BK509.out
  go_wp2
  go_loopg [78] k (fun kq v78 w' => ∃ (x78_1 : Int), v78 = .int .i64 x78_1 ∧ Aside0 (laws_FnTorn.l0 kq l1 (t503.length : Int) x78_1 t503 t510 = some r) ∧ Aside0 (kq ≤ k) ∧ Aside0 (Kd.R k56 56 w' w.heap.size (fun k_ => some k_ ≠ ((.slice Ao21 t510.length co21) : Value).ownBlock ∧ some k_ ≠ ((.slice Ao27 t515.length co27) : Value).ownBlock) (.slice Ao16 t503.length co16) t503) ∧ Aside0 (Kd.R k56 56 w' w.heap.size (fun k_ => some k_ ≠ ((.slice Ao16 t503.length co16) : Value).ownBlock ∧ some k_ ≠ ((.slice Ao27 t515.length co27) : Value).ownBlock) (.slice Ao21 t510.length co21) t510) ∧ Aside0 (Kd.R k56 56 w' w.heap.size (fun k_ => some k_ ≠ ((.slice Ao16 t503.length co16) : Value).ownBlock ∧ some k_ ≠ ((.slice Ao21 t510.length co21) : Value).ownBlock) (.slice Ao27 t515.length co27) t515) ∧ Aside0 (w'.heap[gb509]? = some (.cells #[(.slice Ao16 t503.length co16)] 31 (0, 0))) ∧ Aside0 (w'.heap[gb514]? = some (.cells #[(.slice Ao21 t510.length co21)] 31 (0, 0))) ∧ Aside0 (w'.heap[gb519]? = some (.cells #[(.slice Ao27 t515.length co27)] 31 (0, 0))) ∧ Aside0 (Below w.heap.size w w'))
  case atStart => exact ⟨(0), sr_, H', ⟨Nat.le_refl _⟩, ⟨kr_ HO505.out⟩, ⟨kr_ HO512.out⟩, ⟨kr_ HO517.out⟩, ⟨kb_ BK509.out⟩, ⟨kb_ BK514.out⟩, ⟨kb_ BK519.out⟩, ⟨hs3_ GE509.out GE514.out GE519.out⟩⟩
  case round =>
   clear H'
   try clear c1
   try clear c3
   try clear c3b0
   try clear c7
   try clear c7b0
   try clear c7b1
   try clear c7b2
   try clear c12
   try clear c12b0
   try clear c12b1
   try clear c12b2
   try clear hcz17_0
   try clear hcz23_0
   try clear hcz24_0
   try clear hcz30_0
   try clear hcz39_0
   try clear hfz17_0
   try clear hfz23_0
   try clear hfz24_0
   try clear hfz30_0
   try clear hfz39_0
   obtain ⟨x78_1, rfl, HA, HK1, HO_510000, HO_515000, HO_520000, BK509, BK514, BK519, HB⟩ := hrel
   cases gk with
   | zero => exact absurd HA.out (by simp [laws_FnTorn.l0])
   | succ k1 =>
    have H := HA.out
    clear HA
    simp only [laws_FnTorn.l0] at H
    replace H := ite_ H
    obtain ⟨c40, H⟩ | ⟨c40, H⟩ := H
    rotate_left
    ·have c40b0 := decide_eq_false c40
     clear c40
     (first | rw [c40b0] | (simp only [i64_w, i32_w]; rw [c40b0]) | rw [c40b1] | skip)
     have H' := Aside0.mk H
     clear H
     go_wp2
     go_meet
     case rel => exact ⟨_, H', ⟨by have := HK1.out; first | omega | exact Nat.le_refl _⟩, ⟨kr_ HO_510000.out⟩, ⟨kr_ HO_515000.out⟩, ⟨kr_ HO_520000.out⟩, ⟨kb_ BK509.out⟩, ⟨kb_ BK514.out⟩, ⟨kb_ BK519.out⟩, ⟨hs3_ GE509.out GE514.out GE519.out⟩⟩
    have c40b0 := decide_eq_true c40
    clear c40
    (first | rw [c40b0] | (simp only [i64_w, i32_w]; rw [c40b0]) | rw [c40b1] | skip)
    replace H := bnd_ H
    obtain ⟨⟨t523, t526⟩, A41, H⟩ := H
    replace H := red_ H
    replace H := bnd_ H
    obtain ⟨⟨t527, t530, t533⟩, A42, H⟩ := H
    replace H := red_ H
    replace H := bnd_ H
    obtain ⟨⟨t535, t538, t541⟩, A43, H⟩ := H
    replace H := red_ H
    replace H := ifb_ H
    obtain ⟨rfl, H⟩ | ⟨rfl, H⟩ := H
    rotate_left
    ·exact absurd H (by simp)
    replace H := ifb_ H
    obtain ⟨rfl, H⟩ | ⟨rfl, H⟩ := H
    rotate_left
    ·exact absurd H (by simp)
    replace H := ifb_ H
    obtain ⟨rfl, H⟩ | ⟨rfl, H⟩ := H
    rotate_left
    ·exact absurd H (by simp)
    replace H := ifx_ H
    obtain ⟨c47, H⟩ := H
    have c47b0 := decide_eq_false c47
    have c47b1 : decide (t530.length < t523.length) = false := decide_eq_false (fun h => c47 (Int.ofNat_lt.mpr h))
    clear c47
    replace H := ifs_ H
    obtain ⟨c48, H⟩ := H
    have c48b0 := eq_true c48
    have c48b1 := decide_eq_true c48
    clear c48
    replace H := ifs_ H
    obtain ⟨c49, H⟩ := H
    have c49b0 := eq_true c49
    have c49b1 := decide_eq_true c49
    clear c49
    obtain ⟨y543, hy543⟩ : ∃ y_ : List (S44), y_ = (t530.take ((t523.length : Int) : Int).toNat) := ⟨_, rfl⟩
    replace H : ((laws_sameBatches.f k1 y543 t523).bind fun t547 => (if t547 = true then (if (t538.length : Int) < (t530.length : Int) then (none) else (if 0 ≤ (t530.length : Int) then (if (t530.length : Int) ≤ (t538.length : Int) then ((laws_sameBatches.f k1 (t538.take ((t530.length : Int) : Int).toNat) t530).bind fun t552 => (if t552 = true then ((impl_RecoverFile.f k1 t527 x78_1).bind fun bt553 => ((impl_GoodDisk.f t527).bind fun t561 => (if t561 = true then (if bt553.2.2 = true then ((laws_sameDisks.f k1 bt553.1 t527).bind fun t562 => (if t562 = true then ((laws_sameBatches.f k1 bt553.2.1 t530).bind fun t563 => (if t563 = true then (if 0 ≤ x78_1 then (if x78_1 < (t527.length : Int) then (if ((rd_T56 t527 x78_1).f1) = (((rd_T56 t527 x78_1).f0).size : Int) then (laws_FnTorn.l0 k1 l1 (t503.length : Int) (wrap64 (x78_1 + 1)) t503 t510) else (none)) else (none)) else (none)) else (none))) else (none))) else (none)) else (none)))) else (none))) else (none)) else (none))) else (none))) = some r := by first | (rw [hy543]; with_reducible exact H) | (have H2_ := (Option.bind_some _ _).symm.trans H; rw [hy543]; with_reducible exact H2_) | (have H2_ := (Option.bind_some _ _).symm.trans H; with_reducible exact H2_) | with_reducible exact H | (rw [hy543]; exact H) | exact H
    have Ny543 := Aside0.mk hy543
    clear hy543
    replace H := bnd_ H
    obtain ⟨t547, A50, H⟩ := H
    replace H := ifb_ H
    obtain ⟨rfl, H⟩ | ⟨rfl, H⟩ := H
    rotate_left
    ·exact absurd H (by simp)
    replace H := ifx_ H
    obtain ⟨c52, H⟩ := H
    have c52b0 := decide_eq_false c52
    have c52b1 : decide (t538.length < t530.length) = false := decide_eq_false (fun h => c52 (Int.ofNat_lt.mpr h))
    clear c52
    replace H := ifs_ H
    obtain ⟨c53, H⟩ := H
    have c53b0 := eq_true c53
    have c53b1 := decide_eq_true c53
    clear c53
    replace H := ifs_ H
    obtain ⟨c54, H⟩ := H
    have c54b0 := eq_true c54
    have c54b1 := decide_eq_true c54
    clear c54
    obtain ⟨y548, hy548⟩ : ∃ y_ : List (S44), y_ = (t538.take ((t530.length : Int) : Int).toNat) := ⟨_, rfl⟩
    replace H : ((laws_sameBatches.f k1 y548 t530).bind fun t552 => (if t552 = true then ((impl_RecoverFile.f k1 t527 x78_1).bind fun bt553 => ((impl_GoodDisk.f t527).bind fun t561 => (if t561 = true then (if bt553.2.2 = true then ((laws_sameDisks.f k1 bt553.1 t527).bind fun t562 => (if t562 = true then ((laws_sameBatches.f k1 bt553.2.1 t530).bind fun t563 => (if t563 = true then (if 0 ≤ x78_1 then (if x78_1 < (t527.length : Int) then (if ((rd_T56 t527 x78_1).f1) = (((rd_T56 t527 x78_1).f0).size : Int) then (laws_FnTorn.l0 k1 l1 (t503.length : Int) (wrap64 (x78_1 + 1)) t503 t510) else (none)) else (none)) else (none)) else (none))) else (none))) else (none)) else (none)))) else (none))) = some r := by first | (rw [hy548]; with_reducible exact H) | (have H2_ := (Option.bind_some _ _).symm.trans H; rw [hy548]; with_reducible exact H2_) | (have H2_ := (Option.bind_some _ _).symm.trans H; with_reducible exact H2_) | with_reducible exact H | (rw [hy548]; exact H) | exact H
    have Ny548 := Aside0.mk hy548
    clear hy548
    replace H := bnd_ H
    obtain ⟨t552, A55, H⟩ := H
    replace H := ifb_ H
    obtain ⟨rfl, H⟩ | ⟨rfl, H⟩ := H
    rotate_left
    ·exact absurd H (by simp)
    replace H := bnd_ H
    obtain ⟨⟨t553, t556, t559⟩, A57, H⟩ := H
    replace H := red_ H
    replace H := bnd_ H
    obtain ⟨t561, A58, H⟩ := H
    replace H := ifb_ H
    obtain ⟨rfl, H⟩ | ⟨rfl, H⟩ := H
    rotate_left
    ·exact absurd H (by simp)
    replace H := ifb_ H
    obtain ⟨rfl, H⟩ | ⟨rfl, H⟩ := H
    rotate_left
    ·exact absurd H (by simp)
    replace H := bnd_ H
    obtain ⟨t562, A61, H⟩ := H
    replace H := ifb_ H
    obtain ⟨rfl, H⟩ | ⟨rfl, H⟩ := H
    rotate_left
    ·exact absurd H (by simp)
    replace H := bnd_ H
    obtain ⟨t563, A63, H⟩ := H
    replace H := ifb_ H
    obtain ⟨rfl, H⟩ | ⟨rfl, H⟩ := H
    rotate_left
    ·exact absurd H (by simp)
    replace H := ifs_ H
    obtain ⟨c65, H⟩ := H
    have c65b0 := decide_eq_true c65
    clear c65
    replace H := ifs_ H
    obtain ⟨c66, H⟩ := H
    have c66b0 := decide_eq_true c66
    clear c66
    replace H := ifs_ H
    obtain ⟨c67, H⟩ := H
    have c67b0 : (((rd_T56 t527 x78_1).f1) == (((rd_T56 t527 x78_1).f0).size : Int)) = true := beq_iff_eq.mpr c67
    have c67b1 : (((rd_T56 t527 x78_1).f1) != (((rd_T56 t527 x78_1).f0).size : Int)) = false := bne_eq_false_iff_eq.mpr c67
    clear c67
    have H' := Aside0.mk H
    clear H
    have hnb68 := NB509_514.out
    have hnc68 := NB514_509.out
    have hnb69 := NB509_519.out
    have hnc69 := NB519_509.out
    obtain ⟨hcz70_0, hfz70_0⟩ := cf1_ BK509.out
    try go_wp2_with (first | ((with_reducible refine gate_callee (f := 11) rfl ?_); refine gl_ 84 Try.func11 #[.agg #[.slice Ao16 t503.length co16], .int .i64 x78_1] rfl ma_ ?_; (with_reducible refine (impl_SurvivesIn.calls k1 _ _ t503 x78_1 t523 true _ ?side1 ?side2 A41.out).mono ?_); (case side1 => exact cs_ ((Kd.R_reads' HO_510000.out).2.2)); (case side2 => exact (Kd.R_reads' HO_510000.out).2.1); rintro e w71 ⟨v524, rfl, ho0, hb⟩; refine ⟨_, rfl, ?_⟩; replace HO_510000 := rB_ HO_510000 hb; replace HO_515000 := rB_ HO_515000 hb; replace HO_520000 := rB_ HO_520000 hb; have HO525 := Aside0.mk (Kd.S_lower ho0 (below_size (hs3_ GE509.out GE514.out GE519.out))); replace BK509 := bK_ BK509 hb; replace BK514 := bK_ BK514 hb; replace BK519 := bK_ BK519 hb; replace HB := nc3_ GE509 GE514 GE519 hb; (try clear hb); (try clear hb2); (try clear hk); (try clear hi); (try clear ho0); have hnb72 := NB514_519.out; have hnc72 := NB519_514.out; obtain ⟨hcz73_0, hfz73_0⟩ := cf1_ BK514.out) | ((with_reducible refine gate_callee (f := 25) rfl ?_); refine gl_ 90 Try.func25 #[.agg #[.slice Ao21 t510.length co21], .int .i64 x78_1] rfl ma_ ?_; (with_reducible refine (impl_RecoverFile.calls k1 _ _ t510 x78_1 t527 t530 true _ ?side1 ?side2 A42.out).mono ?_); (case side1 => exact cs_ ((Kd.R_reads' HO_515000.out).2.2)); (case side2 => exact (Kd.R_reads' HO_515000.out).2.1); rintro e w74 ⟨v528, v531, rfl, ho0, ho1, hb⟩; refine ⟨_, rfl, ?_⟩; have HO529 := Aside0.mk (Kd.R_lower (Kd.R_new' (Kd.R_new' (Kd.R_new' ho0 (Kd.R_lt (kr_ HO_510000.out))) (Kd.R_lt (kr_ HO_515000.out))) (Kd.R_lt (kr_ HO_520000.out))) (below_size (hs3_ GE509.out GE514.out GE519.out))); replace HO_510000 := Aside0.mk (Kd.R_elder' (kr_ HO_510000.out) (Kd.R_base ho0) hb); replace HO_515000 := Aside0.mk (Kd.R_elder' (kr_ HO_515000.out) (Kd.R_base ho0) hb); replace HO_520000 := Aside0.mk (Kd.R_elder' (kr_ HO_520000.out) (Kd.R_base ho0) hb); have HO532 := Aside0.mk (Kd.S_lower (Kd.S_new' ho1 (Kd.S_lt (ks_ HO525.out))) (below_size (hs3_ GE509.out GE514.out GE519.out))); replace HO525 := Aside0.mk (Kd.S_elder' (ks_ HO525.out) (Kd.S_base ho1) hb); replace BK509 := bK_ BK509 hb; replace BK514 := bK_ BK514 hb; replace BK519 := bK_ BK519 hb; replace HB := nc3_ GE509 GE514 GE519 hb; (try clear hb); (try clear hb2); (try clear hk); (try clear hi); (try clear ho0); (try clear ho1)) | ((with_reducible refine gate_dst (N := 14) rfl ?_); (try (refine gate_guard (by rfl) ?_; dsimp only)); refine bq_ (N := 14) #[.slice none 0 0] 31 ?_; intro gb534 hg w75 BK534 hb; replace HO_510000 := rB_ HO_510000 hb; replace HO_515000 := rB_ HO_515000 hb; replace HO_520000 := rB_ HO_520000 hb; replace HO525 := sB_ HO525 hb; replace HO529 := rB_ HO529 hb; replace HO532 := sB_ HO532 hb; have GE534 := ge3_ hg GE509 GE514 GE519; replace HB := nc3_ GE509 GE514 GE519 hb; have NB509_534 := nl_ BK509 hg; have NB534_509 := ng_ BK509 hg; replace BK509 := bK_ BK509 hb; have NB514_534 := nl_ BK514 hg; have NB534_514 := ng_ BK514 hg; replace BK514 := bK_ BK514 hb; have NB519_534 := nl_ BK519 hg; have NB534_519 := ng_ BK519 hg; replace BK519 := bK_ BK519 hb; clear hb hg; obtain ⟨Ao76, co76, eo76⟩ := Kd.R_slice HO529.out; subst eo76; have hnb77 := NB534_509.out; have hnc77 := NB509_534.out; have hnb78 := NB534_514.out; have hnc78 := NB514_534.out; have hnb79 := NB534_519.out; have hnc79 := NB519_534.out; obtain ⟨hcz80_0, hfz80_0⟩ := cf1_ BK534.out; obtain ⟨hcz81_0, hfz81_0⟩ := cf1_ BK509.out) | ((with_reducible refine gate_callee (f := 25) rfl ?_); refine gl_ 97 Try.func25 #[.agg #[.slice Ao16 t503.length co16], .int .i64 x78_1] rfl ma_ ?_; (with_reducible refine (impl_RecoverFile.calls k1 _ _ t503 x78_1 t535 t538 true _ ?side1 ?side2 A43.out).mono ?_); (case side1 => refine (Kd.R_reads' (e := 56) (base := w.heap.size) (ok := fun k_ => ((some k_ ≠ (.slice Ao21 t510.length co21 : Value).ownBlock ∧ some k_ ≠ (.slice Ao27 t515.length co27 : Value).ownBlock) ∧ some k_ ≠ (.slice Ao76 t527.length co76 : Value).ownBlock)) (n := t503.length) (c := co16) ?_).2.2; exact (rF_ (Kd.R_mono (Kd.R_far (p := ⟨gb534, 0, none⟩) (Kd.R_types HO_510000.out BK534.out (by decide)) (fun _ hk => hk.2) (.slice Ao76 t527.length co76)) (fun _ h_ => h_.1)))); (case side2 => exact (Kd.R_reads' HO_510000.out).2.1); rintro e w82 ⟨v536, v539, rfl, ho0, ho1, hb⟩; refine ⟨_, rfl, ?_⟩; have HO537 := Aside0.mk (Kd.R_lower (Kd.R_new' (Kd.R_new' (Kd.R_new' (Kd.R_new' ho0 (Kd.R_lt (rF_ (Kd.R_mono (Kd.R_far (p := ⟨gb534, 0, none⟩) (Kd.R_types HO_510000.out BK534.out (by decide)) (fun _ hk => hk.2) (.slice Ao76 t527.length co76)) (fun _ h_ => h_.1))))) (Kd.R_lt (rF_ (Kd.R_mono (Kd.R_far (p := ⟨gb534, 0, none⟩) (Kd.R_types HO_515000.out BK534.out (by decide)) (fun _ hk => hk.2) (.slice Ao76 t527.length co76)) (fun _ h_ => h_.1))))) (Kd.R_lt (rF_ (Kd.R_mono (Kd.R_far (p := ⟨gb534, 0, none⟩) (Kd.R_types HO_520000.out BK534.out (by decide)) (fun _ hk => hk.2) (.slice Ao76 t527.length co76)) (fun _ h_ => h_.1))))) (Kd.R_lt (rF_ (Kd.R_mono (Kd.R_far (p := ⟨gb534, 0, none⟩) (Kd.R_types HO529.out BK534.out (by decide)) (fun _ hk => hk.2) (.slice Ao76 t527.length co76)) (fun _ h_ => h_.1))))) (below_size (hs4_ GE509.out GE514.out GE519.out GE534.out))); replace HO_510000 := Aside0.mk (Kd.R_elder' (rF_ (Kd.R_mono (Kd.R_far (p := ⟨gb534, 0, none⟩) (Kd.R_types HO_510000.out BK534.out (by decide)) (fun _ hk => hk.2) (.slice Ao76 t527.length co76)) (fun _ h_ => h_.1))) (Kd.R_base ho0) hb); replace HO_515000 := Aside0.mk (Kd.R_elder' (rF_ (Kd.R_mono (Kd.R_far (p := ⟨gb534, 0, none⟩) (Kd.R_types HO_515000.out BK534.out (by decide)) (fun _ hk => hk.2) (.slice Ao76 t527.length co76)) (fun _ h_ => h_.1))) (Kd.R_base ho0) hb); replace HO_520000 := Aside0.mk (Kd.R_elder' (rF_ (Kd.R_mono (Kd.R_far (p := ⟨gb534, 0, none⟩) (Kd.R_types HO_520000.out BK534.out (by decide)) (fun _ hk => hk.2) (.slice Ao76 t527.length co76)) (fun _ h_ => h_.1))) (Kd.R_base ho0) hb); replace HO529 := Aside0.mk (Kd.R_elder' (rF_ (Kd.R_mono (Kd.R_far (p := ⟨gb534, 0, none⟩) (Kd.R_types HO529.out BK534.out (by decide)) (fun _ hk => hk.2) (.slice Ao76 t527.length co76)) (fun _ h_ => h_.1))) (Kd.R_base ho0) hb); have HO540 := Aside0.mk (Kd.S_lower (Kd.S_new' (Kd.S_new' ho1 (Kd.S_lt (sF_ (Kd.S_mono (Kd.S_far (p := ⟨gb534, 0, none⟩) (Kd.S_types HO525.out BK534.out (by decide)) (fun _ hk => hk.2) (.slice Ao76 t527.length co76)) (fun _ h_ => h_.1))))) (Kd.S_lt (sF_ (Kd.S_mono (Kd.S_far (p := ⟨gb534, 0, none⟩) (Kd.S_types HO532.out BK534.out (by decide)) (fun _ hk => hk.2) (.slice Ao76 t527.length co76)) (fun _ h_ => h_.1))))) (below_size (hs4_ GE509.out GE514.out GE519.out GE534.out))); replace HO525 := Aside0.mk (Kd.S_elder' (sF_ (Kd.S_mono (Kd.S_far (p := ⟨gb534, 0, none⟩) (Kd.S_types HO525.out BK534.out (by decide)) (fun _ hk => hk.2) (.slice Ao76 t527.length co76)) (fun _ h_ => h_.1))) (Kd.S_base ho1) hb); replace HO532 := Aside0.mk (Kd.S_elder' (sF_ (Kd.S_mono (Kd.S_far (p := ⟨gb534, 0, none⟩) (Kd.S_types HO532.out BK534.out (by decide)) (fun _ hk => hk.2) (.slice Ao76 t527.length co76)) (fun _ h_ => h_.1))) (Kd.S_base ho1) hb); replace BK509 := Aside0.mk (blk_below (g := gb509) (o := .cells #[.slice Ao16 t503.length co16] 31 (0, 0)) (uf_ BK509 NB509_534.out) hb); replace BK514 := Aside0.mk (blk_below (g := gb514) (o := .cells #[.slice Ao21 t510.length co21] 31 (0, 0)) (uf_ BK514 NB514_534.out) hb); replace BK519 := Aside0.mk (blk_below (g := gb519) (o := .cells #[.slice Ao27 t515.length co27] 31 (0, 0)) (uf_ BK519 NB519_534.out) hb); replace BK534 := Aside0.mk (blk_below (g := gb534) (o := .cells #[.slice Ao76 t527.length co76] 31 (0, 0)) (up_ BK534) hb); replace HB := nc4_ GE509 GE514 GE519 GE534 hb; (try clear hb); (try clear hb2); (try clear hk); (try clear hi); (try clear ho0); (try clear ho1)) | ((with_reducible refine gate_dst (N := 17) rfl ?_); (try (refine gate_guard (by rfl) ?_; dsimp only)); refine bq_ (N := 17) #[.slice none 0 0] 31 ?_; intro gb542 hg w83 BK542 hb; replace HO_510000 := rB_ HO_510000 hb; replace HO_515000 := rB_ HO_515000 hb; replace HO_520000 := rB_ HO_520000 hb; replace HO525 := sB_ HO525 hb; replace HO529 := rB_ HO529 hb; replace HO532 := sB_ HO532 hb; replace HO537 := rB_ HO537 hb; replace HO540 := sB_ HO540 hb; have GE542 := ge4_ hg GE509 GE514 GE519 GE534; replace HB := nc4_ GE509 GE514 GE519 GE534 hb; have NB509_542 := nl_ BK509 hg; have NB542_509 := ng_ BK509 hg; replace BK509 := bK_ BK509 hb; have NB514_542 := nl_ BK514 hg; have NB542_514 := ng_ BK514 hg; replace BK514 := bK_ BK514 hb; have NB519_542 := nl_ BK519 hg; have NB542_519 := ng_ BK519 hg; replace BK519 := bK_ BK519 hb; have NB534_542 := nl_ BK534 hg; have NB542_534 := ng_ BK534 hg; replace BK534 := bK_ BK534 hb; clear hb hg; obtain ⟨Ao84, co84, eo84⟩ := Kd.R_slice HO537.out; subst eo84; have hnb85 := NB542_509.out; have hnc85 := NB509_542.out; have hnb86 := NB542_514.out; have hnc86 := NB514_542.out; have hnb87 := NB542_519.out; have hnc87 := NB519_542.out; have hnb88 := NB542_534.out; have hnc88 := NB534_542.out; obtain ⟨hcz89_0, hfz89_0⟩ := cf1_ BK542.out) | ((with_reducible refine gate_store (t := 31) (p := 17) rfl ?_); refine store_event (t := 31) (p := 17) (v := ?vo_w90) (w1 := (w83.setCell ⟨gb542, 0, none⟩ (.slice Ao84 t535.length co84))) ?hg ?ho ?hn ?hr ?_; (case ho => rfl); (case hg => rfl); (case hn => rfl); (case hr => first | (go_simp; done) | (go_simp; rfl)); intro w90 hw; have n0_ : Aside0 (Kd.R k56 56 w90 w.heap.size (fun k_ => some k_ ≠ (.slice Ao21 t510.length co21 : Value).ownBlock ∧ some k_ ≠ (.slice Ao27 t515.length co27 : Value).ownBlock ∧ some k_ ≠ (.slice Ao76 t527.length co76 : Value).ownBlock ∧ some k_ ≠ (.slice Ao84 t535.length co84 : Value).ownBlock) (.slice Ao16 t503.length co16) t503) := ⟨(by rw [hw]; exact (rF_ (Kd.R_mono (Kd.R_far (p := ⟨gb542, 0, none⟩) (Kd.R_types HO_510000.out BK542.out (by decide)) (fun _ hk => hk.2) (.slice Ao84 t535.length co84)) (fun _ hk => ⟨hk.1.1.1.1, ⟨hk.1.1.1.2, ⟨hk.1.1.2, hk.1.2⟩⟩⟩))))⟩; have n1_ : Aside0 (Kd.R k56 56 w90 w.heap.size (fun k_ => some k_ ≠ (.slice Ao16 t503.length co16 : Value).ownBlock ∧ some k_ ≠ (.slice Ao27 t515.length co27 : Value).ownBlock ∧ some k_ ≠ (.slice Ao76 t527.length co76 : Value).ownBlock ∧ some k_ ≠ (.slice Ao84 t535.length co84 : Value).ownBlock) (.slice Ao21 t510.length co21) t510) := ⟨(by rw [hw]; exact (rF_ (Kd.R_mono (Kd.R_far (p := ⟨gb542, 0, none⟩) (Kd.R_types HO_515000.out BK542.out (by decide)) (fun _ hk => hk.2) (.slice Ao84 t535.length co84)) (fun _ hk => ⟨hk.1.1.1.1, ⟨hk.1.1.1.2, ⟨hk.1.1.2, hk.1.2⟩⟩⟩))))⟩; have n2_ : Aside0 (Kd.R k56 56 w90 w.heap.size (fun k_ => some k_ ≠ (.slice Ao16 t503.length co16 : Value).ownBlock ∧ some k_ ≠ (.slice Ao21 t510.length co21 : Value).ownBlock ∧ some k_ ≠ (.slice Ao76 t527.length co76 : Value).ownBlock ∧ some k_ ≠ (.slice Ao84 t535.length co84 : Value).ownBlock) (.slice Ao27 t515.length co27) t515) := ⟨(by rw [hw]; exact (rF_ (Kd.R_mono (Kd.R_far (p := ⟨gb542, 0, none⟩) (Kd.R_types HO_520000.out BK542.out (by decide)) (fun _ hk => hk.2) (.slice Ao84 t535.length co84)) (fun _ hk => ⟨hk.1.1.1.1, ⟨hk.1.1.1.2, ⟨hk.1.1.2, hk.1.2⟩⟩⟩))))⟩; have n3_ : Aside0 (Kd.S k44 44 w90 w.heap.size (fun k_ => some k_ ≠ (v531 : Value).ownBlock ∧ some k_ ≠ (v539 : Value).ownBlock) v524 t523) := ⟨(by rw [hw]; exact (sF_ (Kd.S_mono (Kd.S_far (p := ⟨gb542, 0, none⟩) (Kd.S_types HO525.out BK542.out (by decide)) (fun _ hk => hk.2) (.slice Ao84 t535.length co84)) (fun _ hk => ⟨hk.1.1.2, hk.1.2⟩))))⟩; have n4_ : Aside0 (Kd.R k56 56 w90 w.heap.size (fun k_ => some k_ ≠ (.slice Ao16 t503.length co16 : Value).ownBlock ∧ some k_ ≠ (.slice Ao21 t510.length co21 : Value).ownBlock ∧ some k_ ≠ (.slice Ao27 t515.length co27 : Value).ownBlock ∧ some k_ ≠ (.slice Ao84 t535.length co84 : Value).ownBlock) (.slice Ao76 t527.length co76) t527) := ⟨(by rw [hw]; exact (rF_ (Kd.R_mono (Kd.R_far (p := ⟨gb542, 0, none⟩) (Kd.R_types HO529.out BK542.out (by decide)) (fun _ hk => hk.2) (.slice Ao84 t535.length co84)) (fun _ hk => ⟨hk.1.1.1.1.2, ⟨hk.1.1.1.2, ⟨hk.1.1.2, hk.1.2⟩⟩⟩))))⟩; have n5_ : Aside0 (Kd.S k44 44 w90 w.heap.size (fun k_ => some k_ ≠ (v524 : Value).ownBlock ∧ some k_ ≠ (v539 : Value).ownBlock) v531 t530) := ⟨(by rw [hw]; exact (sF_ (Kd.S_mono (Kd.S_far (p := ⟨gb542, 0, none⟩) (Kd.S_types HO532.out BK542.out (by decide)) (fun _ hk => hk.2) (.slice Ao84 t535.length co84)) (fun _ hk => ⟨hk.1.1.2, hk.1.2⟩))))⟩; have n6_ : Aside0 (Kd.R k56 56 w90 w.heap.size (fun k_ => some k_ ≠ (.slice Ao16 t503.length co16 : Value).ownBlock ∧ some k_ ≠ (.slice Ao21 t510.length co21 : Value).ownBlock ∧ some k_ ≠ (.slice Ao27 t515.length co27 : Value).ownBlock ∧ some k_ ≠ (.slice Ao76 t527.length co76 : Value).ownBlock) (.slice Ao84 t535.length co84) t535) := ⟨(by rw [hw]; exact (rF_ (Kd.R_mono (Kd.R_far (p := ⟨gb542, 0, none⟩) (Kd.R_types HO537.out BK542.out (by decide)) (fun _ hk => hk.2) (.slice Ao84 t535.length co84)) (fun _ hk => ⟨hk.1.1.1.1.2, ⟨hk.1.1.1.2, ⟨hk.1.1.2, hk.1.2⟩⟩⟩))))⟩; have n7_ : Aside0 (Kd.S k44 44 w90 w.heap.size (fun k_ => some k_ ≠ (v524 : Value).ownBlock ∧ some k_ ≠ (v531 : Value).ownBlock) v539 t538) := ⟨(by rw [hw]; exact (sF_ (Kd.S_mono (Kd.S_far (p := ⟨gb542, 0, none⟩) (Kd.S_types HO540.out BK542.out (by decide)) (fun _ hk => hk.2) (.slice Ao84 t535.length co84)) (fun _ hk => ⟨hk.1.1.2, hk.1.2⟩))))⟩; have n8_ : Aside0 (w90.heap[gb509]? = some (.cells #[.slice Ao16 t503.length co16] 31 (0, 0))) := ⟨(by rw [hw]; exact (uf_ BK509 NB509_542.out))⟩; have n9_ : Aside0 (w90.heap[gb514]? = some (.cells #[.slice Ao21 t510.length co21] 31 (0, 0))) := ⟨(by rw [hw]; exact (uf_ BK514 NB514_542.out))⟩; have n10_ : Aside0 (w90.heap[gb519]? = some (.cells #[.slice Ao27 t515.length co27] 31 (0, 0))) := ⟨(by rw [hw]; exact (uf_ BK519 NB519_542.out))⟩; have n11_ : Aside0 (w90.heap[gb534]? = some (.cells #[.slice Ao76 t527.length co76] 31 (0, 0))) := ⟨(by rw [hw]; exact (uf_ BK534 NB534_542.out))⟩; have n12_ : Aside0 (w90.heap[gb542]? = some (.cells #[.slice Ao84 t535.length co84] 31 (0, 0))) := ⟨(by rw [hw]; exact (up_ BK542))⟩; have n13_ : Aside0 (Below w.heap.size w w90) := ⟨(by rw [hw]; exact (hs5_ GE509.out GE514.out GE519.out GE534.out GE542.out))⟩; clear hw; clear HO_510000; clear HO_515000; clear HO_520000; clear HO525; clear HO529; clear HO532; clear HO537; clear HO540; clear BK509; clear BK514; clear BK519; clear BK534; clear BK542; clear HB; have HO_510000 := n0_; have HO_515000 := n1_; have HO_520000 := n2_; have HO525 := n3_; have HO529 := n4_; have HO532 := n5_; have HO537 := n6_; have HO540 := n7_; have BK509 := n8_; have BK514 := n9_; have BK519 := n10_; have BK534 := n11_; have BK542 := n12_; have HB := n13_; clear n0_ n1_ n2_ n3_ n4_ n5_ n6_ n7_ n8_ n9_ n10_ n11_ n12_ n13_; obtain ⟨Ao91, co91, eo91⟩ := Kd.S_slice HO532.out; subst eo91; obtain ⟨Ao92, co92, eo92⟩ := Kd.S_slice HO525.out; subst eo92; have q93 : ((t523.length : Int) : Int) ≤ ((t530.length : Int) : Int) := oa_; obtain ⟨i093, hi093, _, hsz93, _⟩ := info_parts info44; have hroom93 : t530.length ≤ co91 := (Kd.S_reads' HO532.out).2.1; have hC93 : Kd.C k44 _ Ao91 t530.length t530 := (Kd.S_reads' HO532.out).2.2; have hcut93 := cut_to (P := Try.prog) 26 44 .i64 Try.underlying26 hi093 Ao91 t530.length co91 (t523.length : Int) (oa_) q93 hroom93; have hr93 := Kd.C_take (m := ((t523.length : Int) : Int).toNat) hC93 (by omega); have hy93 : y543.length = ((t523.length : Int) : Int).toNat := (by rw [Ny543.out, List.length_take]; omega); rw [← Ny543.out] at hr93; rw [← hy93] at hcut93; have HR546 := Aside0.mk hr93; have HC546 := Aside0.mk (show y543.length ≤ co91 from by omega); clear hr93 hC93 hroom93 hi093 hsz93; have KY93 := Aside0.mk hy93; clear hy93; have KL93 := Aside0.mk (show ((t523.length : Int) : Int).toNat ≤ t530.length from by omega); replace q93 := eq_true q93) | (go_at_call 46; (with_reducible refine (laws_sameBatches.calls k1 _ _ y543 _ _ t523 true _ ?side1 ?side2 ?side3 ?side4 A50.out).mono ?_); (case side1 => repeat (first | exact (by repeat (first | (with_reducible exact HR546.out) | (with_reducible refine Kd.C_alloc ?_ _) | (with_reducible refine Kd.C_drewN ?_ _) | (with_reducible refine Kd.C_drew ?_) | exact HR546.out)) | (with_reducible refine Kd.C_alloc ?_ _) | (with_reducible refine Kd.C_drewN ?_ _) | (with_reducible refine Kd.C_drew ?_))); (case side2 => exact HC546.out); (case side3 => exact cs_ ((Kd.S_reads' HO525.out).2.2)); (case side4 => exact (Kd.S_reads' HO525.out).2.1); rintro e w94 ⟨rfl, hb⟩; replace HO_510000 := rB_ HO_510000 hb; replace HO_515000 := rB_ HO_515000 hb; replace HO_520000 := rB_ HO_520000 hb; replace HO525 := sB_ HO525 hb; replace HO529 := rB_ HO529 hb; replace HO532 := sB_ HO532 hb; replace HO537 := rB_ HO537 hb; replace HO540 := sB_ HO540 hb; replace BK509 := bK_ BK509 hb; replace BK514 := bK_ BK514 hb; replace BK519 := bK_ BK519 hb; replace BK534 := bK_ BK534 hb; replace BK542 := bK_ BK542 hb; replace HR546 := Aside0.mk (Kd.C_below (by repeat (first | (with_reducible exact HR546.out) | (with_reducible refine Kd.C_alloc ?_ _) | (with_reducible refine Kd.C_drewN ?_ _) | (with_reducible refine Kd.C_drew ?_) | exact HR546.out)) hb); replace HB := nc5_ GE509 GE514 GE519 GE534 GE542 hb; (try clear hb); (try clear hb2); (try clear hk); (try clear hi); obtain ⟨Ao95, co95, eo95⟩ := Kd.S_slice HO540.out; subst eo95; have q96 : ((t530.length : Int) : Int) ≤ ((t538.length : Int) : Int) := oa_; obtain ⟨i096, hi096, _, hsz96, _⟩ := info_parts info44; have hroom96 : t538.length ≤ co95 := (Kd.S_reads' HO540.out).2.1; have hC96 : Kd.C k44 _ Ao95 t538.length t538 := (Kd.S_reads' HO540.out).2.2; have hcut96 := cut_to (P := Try.prog) 26 44 .i64 Try.underlying26 hi096 Ao95 t538.length co95 (t530.length : Int) (oa_) q96 hroom96; have hr96 := Kd.C_take (m := ((t530.length : Int) : Int).toNat) hC96 (by omega); have hy96 : y548.length = ((t530.length : Int) : Int).toNat := (by rw [Ny548.out, List.length_take]; omega); rw [← Ny548.out] at hr96; rw [← hy96] at hcut96; have HR551 := Aside0.mk hr96; have HC551 := Aside0.mk (show y548.length ≤ co95 from by omega); clear hr96 hC96 hroom96 hi096 hsz96; have KY96 := Aside0.mk hy96; clear hy96; have KL96 := Aside0.mk (show ((t530.length : Int) : Int).toNat ≤ t538.length from by omega); replace q96 := eq_true q96) | (go_at_call 46; (with_reducible refine (laws_sameBatches.calls k1 _ _ y548 _ _ t530 true _ ?side1 ?side2 ?side3 ?side4 A55.out).mono ?_); (case side1 => repeat (first | exact (by repeat (first | (with_reducible exact HR551.out) | (with_reducible refine Kd.C_alloc ?_ _) | (with_reducible refine Kd.C_drewN ?_ _) | (with_reducible refine Kd.C_drew ?_) | exact HR551.out)) | (with_reducible refine Kd.C_alloc ?_ _) | (with_reducible refine Kd.C_drewN ?_ _) | (with_reducible refine Kd.C_drew ?_))); (case side2 => exact HC551.out); (case side3 => exact cs_ ((Kd.S_reads' HO532.out).2.2)); (case side4 => exact (Kd.S_reads' HO532.out).2.1); rintro e w97 ⟨rfl, hb⟩; replace HO_510000 := rB_ HO_510000 hb; replace HO_515000 := rB_ HO_515000 hb; replace HO_520000 := rB_ HO_520000 hb; replace HO525 := sB_ HO525 hb; replace HO529 := rB_ HO529 hb; replace HO532 := sB_ HO532 hb; replace HO537 := rB_ HO537 hb; replace HO540 := sB_ HO540 hb; replace BK509 := bK_ BK509 hb; replace BK514 := bK_ BK514 hb; replace BK519 := bK_ BK519 hb; replace BK534 := bK_ BK534 hb; replace BK542 := bK_ BK542 hb; replace HR546 := Aside0.mk (Kd.C_below (by repeat (first | (with_reducible exact HR546.out) | (with_reducible refine Kd.C_alloc ?_ _) | (with_reducible refine Kd.C_drewN ?_ _) | (with_reducible refine Kd.C_drew ?_) | exact HR546.out)) hb); replace HR551 := Aside0.mk (Kd.C_below (by repeat (first | (with_reducible exact HR551.out) | (with_reducible refine Kd.C_alloc ?_ _) | (with_reducible refine Kd.C_drewN ?_ _) | (with_reducible refine Kd.C_drew ?_) | exact HR551.out)) hb); replace HB := nc5_ GE509 GE514 GE519 GE534 GE542 hb; (try clear hb); (try clear hb2); (try clear hk); (try clear hi); obtain ⟨hcz98_0, hfz98_0⟩ := cf1_ BK534.out) | ((with_reducible refine gate_callee (f := 25) rfl ?_); refine gl_ 146 Try.func25 #[.agg #[.slice Ao76 t527.length co76], .int .i64 x78_1] rfl ma_ ?_; (with_reducible refine (impl_RecoverFile.calls k1 _ _ t527 x78_1 t553 t556 true _ ?side1 ?side2 A57.out).mono ?_); (case side1 => exact cs_ ((Kd.R_reads' HO529.out).2.2)); (case side2 => exact (Kd.R_reads' HO529.out).2.1); rintro e w99 ⟨v554, v557, rfl, ho0, ho1, hb⟩; refine ⟨_, rfl, ?_⟩; have HO555 := Aside0.mk (Kd.R_lower (Kd.R_new' (Kd.R_new' (Kd.R_new' (Kd.R_new' (Kd.R_new' ho0 (Kd.R_lt (kr_ HO_510000.out))) (Kd.R_lt (kr_ HO_515000.out))) (Kd.R_lt (kr_ HO_520000.out))) (Kd.R_lt (kr_ HO529.out))) (Kd.R_lt (kr_ HO537.out))) (below_size (hs5_ GE509.out GE514.out GE519.out GE534.out GE542.out))); replace HO_510000 := Aside0.mk (Kd.R_elder' (kr_ HO_510000.out) (Kd.R_base ho0) hb); replace HO_515000 := Aside0.mk (Kd.R_elder' (kr_ HO_515000.out) (Kd.R_base ho0) hb); replace HO_520000 := Aside0.mk (Kd.R_elder' (kr_ HO_520000.out) (Kd.R_base ho0) hb); replace HO529 := Aside0.mk (Kd.R_elder' (kr_ HO529.out) (Kd.R_base ho0) hb); replace HO537 := Aside0.mk (Kd.R_elder' (kr_ HO537.out) (Kd.R_base ho0) hb); have HO558 := Aside0.mk (Kd.S_lower (Kd.S_new' (Kd.S_new' (Kd.S_new' ho1 (Kd.S_lt (ks_ HO525.out))) (Kd.S_lt (ks_ HO532.out))) (Kd.S_lt (ks_ HO540.out))) (below_size (hs5_ GE509.out GE514.out GE519.out GE534.out GE542.out))); replace HO525 := Aside0.mk (Kd.S_elder' (ks_ HO525.out) (Kd.S_base ho1) hb); replace HO532 := Aside0.mk (Kd.S_elder' (ks_ HO532.out) (Kd.S_base ho1) hb); replace HO540 := Aside0.mk (Kd.S_elder' (ks_ HO540.out) (Kd.S_base ho1) hb); replace BK509 := bK_ BK509 hb; replace BK514 := bK_ BK514 hb; replace BK519 := bK_ BK519 hb; replace BK534 := bK_ BK534 hb; replace BK542 := bK_ BK542 hb; replace HR546 := Aside0.mk (Kd.C_below (by repeat (first | (with_reducible exact HR546.out) | (with_reducible refine Kd.C_alloc ?_ _) | (with_reducible refine Kd.C_drewN ?_ _) | (with_reducible refine Kd.C_drew ?_) | exact HR546.out)) hb); replace HR551 := Aside0.mk (Kd.C_below (by repeat (first | (with_reducible exact HR551.out) | (with_reducible refine Kd.C_alloc ?_ _) | (with_reducible refine Kd.C_drewN ?_ _) | (with_reducible refine Kd.C_drew ?_) | exact HR551.out)) hb); replace HB := nc5_ GE509 GE514 GE519 GE534 GE542 hb; (try clear hb); (try clear hb2); (try clear hk); (try clear hi); (try clear ho0); (try clear ho1)) | ((with_reducible refine gate_dst (N := 20) rfl ?_); (try (refine gate_guard (by rfl) ?_; dsimp only)); refine bq_ (N := 20) #[.slice none 0 0] 31 ?_; intro gb560 hg w100 BK560 hb; replace HO_510000 := rB_ HO_510000 hb; replace HO_515000 := rB_ HO_515000 hb; replace HO_520000 := rB_ HO_520000 hb; replace HO525 := sB_ HO525 hb; replace HO529 := rB_ HO529 hb; replace HO532 := sB_ HO532 hb; replace HO537 := rB_ HO537 hb; replace HO540 := sB_ HO540 hb; replace HO555 := rB_ HO555 hb; replace HO558 := sB_ HO558 hb; replace HR546 := Aside0.mk (Kd.C_below (by repeat (first | (with_reducible exact HR546.out) | (with_reducible refine Kd.C_alloc ?_ _) | (with_reducible refine Kd.C_drewN ?_ _) | (with_reducible refine Kd.C_drew ?_) | exact HR546.out)) hb); replace HR551 := Aside0.mk (Kd.C_below (by repeat (first | (with_reducible exact HR551.out) | (with_reducible refine Kd.C_alloc ?_ _) | (with_reducible refine Kd.C_drewN ?_ _) | (with_reducible refine Kd.C_drew ?_) | exact HR551.out)) hb); have GE560 := ge5_ hg GE509 GE514 GE519 GE534 GE542; replace HB := nc5_ GE509 GE514 GE519 GE534 GE542 hb; have NB509_560 := nl_ BK509 hg; have NB560_509 := ng_ BK509 hg; replace BK509 := bK_ BK509 hb; have NB514_560 := nl_ BK514 hg; have NB560_514 := ng_ BK514 hg; replace BK514 := bK_ BK514 hb; have NB519_560 := nl_ BK519 hg; have NB560_519 := ng_ BK519 hg; replace BK519 := bK_ BK519 hb; have NB534_560 := nl_ BK534 hg; have NB560_534 := ng_ BK534 hg; replace BK534 := bK_ BK534 hb; have NB542_560 := nl_ BK542 hg; have NB560_542 := ng_ BK542 hg; replace BK542 := bK_ BK542 hb; clear hb hg; obtain ⟨Ao101, co101, eo101⟩ := Kd.R_slice HO555.out; subst eo101; have hnb102 := NB560_509.out; have hnc102 := NB509_560.out; have hnb103 := NB560_514.out; have hnc103 := NB514_560.out; have hnb104 := NB560_519.out; have hnc104 := NB519_560.out; have hnb105 := NB560_534.out; have hnc105 := NB534_560.out; have hnb106 := NB560_542.out; have hnc106 := NB542_560.out; obtain ⟨hcz107_0, hfz107_0⟩ := cf1_ BK560.out))
    have n0_ : Aside0 (Kd.R k56 56 (w100.setCell ⟨gb560, 0, none⟩ (.slice Ao101 t553.length co101)) w.heap.size (fun k_ => some k_ ≠ (.slice Ao21 t510.length co21 : Value).ownBlock ∧ some k_ ≠ (.slice Ao27 t515.length co27 : Value).ownBlock ∧ some k_ ≠ (.slice Ao76 t527.length co76 : Value).ownBlock ∧ some k_ ≠ (.slice Ao84 t535.length co84 : Value).ownBlock ∧ some k_ ≠ (.slice Ao101 t553.length co101 : Value).ownBlock) (.slice Ao16 t503.length co16) t503) := ⟨rF_ (Kd.R_mono (Kd.R_far (p := ⟨gb560, 0, none⟩) (Kd.R_types HO_510000.out BK560.out (by decide)) (fun _ hk => hk.2) (.slice Ao101 t553.length co101)) (fun _ hk => ⟨hk.1.1.1, ⟨hk.1.1.2.1, ⟨hk.1.1.2.2.1, ⟨hk.1.1.2.2.2, hk.1.2⟩⟩⟩⟩))⟩
    have n1_ : Aside0 (Kd.R k56 56 (w100.setCell ⟨gb560, 0, none⟩ (.slice Ao101 t553.length co101)) w.heap.size (fun k_ => some k_ ≠ (.slice Ao16 t503.length co16 : Value).ownBlock ∧ some k_ ≠ (.slice Ao27 t515.length co27 : Value).ownBlock ∧ some k_ ≠ (.slice Ao76 t527.length co76 : Value).ownBlock ∧ some k_ ≠ (.slice Ao84 t535.length co84 : Value).ownBlock ∧ some k_ ≠ (.slice Ao101 t553.length co101 : Value).ownBlock) (.slice Ao21 t510.length co21) t510) := ⟨rF_ (Kd.R_mono (Kd.R_far (p := ⟨gb560, 0, none⟩) (Kd.R_types HO_515000.out BK560.out (by decide)) (fun _ hk => hk.2) (.slice Ao101 t553.length co101)) (fun _ hk => ⟨hk.1.1.1, ⟨hk.1.1.2.1, ⟨hk.1.1.2.2.1, ⟨hk.1.1.2.2.2, hk.1.2⟩⟩⟩⟩))⟩
    have n2_ : Aside0 (Kd.R k56 56 (w100.setCell ⟨gb560, 0, none⟩ (.slice Ao101 t553.length co101)) w.heap.size (fun k_ => some k_ ≠ (.slice Ao16 t503.length co16 : Value).ownBlock ∧ some k_ ≠ (.slice Ao21 t510.length co21 : Value).ownBlock ∧ some k_ ≠ (.slice Ao76 t527.length co76 : Value).ownBlock ∧ some k_ ≠ (.slice Ao84 t535.length co84 : Value).ownBlock ∧ some k_ ≠ (.slice Ao101 t553.length co101 : Value).ownBlock) (.slice Ao27 t515.length co27) t515) := ⟨rF_ (Kd.R_mono (Kd.R_far (p := ⟨gb560, 0, none⟩) (Kd.R_types HO_520000.out BK560.out (by decide)) (fun _ hk => hk.2) (.slice Ao101 t553.length co101)) (fun _ hk => ⟨hk.1.1.1, ⟨hk.1.1.2.1, ⟨hk.1.1.2.2.1, ⟨hk.1.1.2.2.2, hk.1.2⟩⟩⟩⟩))⟩
    have n3_ : Aside0 (Kd.S k44 44 (w100.setCell ⟨gb560, 0, none⟩ (.slice Ao101 t553.length co101)) w.heap.size (fun k_ => some k_ ≠ (.slice Ao91 t530.length co91 : Value).ownBlock ∧ some k_ ≠ (.slice Ao95 t538.length co95 : Value).ownBlock ∧ some k_ ≠ (v557 : Value).ownBlock) (.slice Ao92 t523.length co92) t523) := ⟨sF_ (Kd.S_mono (Kd.S_far (p := ⟨gb560, 0, none⟩) (Kd.S_types HO525.out BK560.out (by decide)) (fun _ hk => hk.2) (.slice Ao101 t553.length co101)) (fun _ hk => ⟨hk.1.1.1, ⟨hk.1.1.2, hk.1.2⟩⟩))⟩
    have n4_ : Aside0 (Kd.R k56 56 (w100.setCell ⟨gb560, 0, none⟩ (.slice Ao101 t553.length co101)) w.heap.size (fun k_ => some k_ ≠ (.slice Ao16 t503.length co16 : Value).ownBlock ∧ some k_ ≠ (.slice Ao21 t510.length co21 : Value).ownBlock ∧ some k_ ≠ (.slice Ao27 t515.length co27 : Value).ownBlock ∧ some k_ ≠ (.slice Ao84 t535.length co84 : Value).ownBlock ∧ some k_ ≠ (.slice Ao101 t553.length co101 : Value).ownBlock) (.slice Ao76 t527.length co76) t527) := ⟨rF_ (Kd.R_mono (Kd.R_far (p := ⟨gb560, 0, none⟩) (Kd.R_types HO529.out BK560.out (by decide)) (fun _ hk => hk.2) (.slice Ao101 t553.length co101)) (fun _ hk => ⟨hk.1.1.1, ⟨hk.1.1.2.1, ⟨hk.1.1.2.2.1, ⟨hk.1.1.2.2.2, hk.1.2⟩⟩⟩⟩))⟩
    have n5_ : Aside0 (Kd.S k44 44 (w100.setCell ⟨gb560, 0, none⟩ (.slice Ao101 t553.length co101)) w.heap.size (fun k_ => some k_ ≠ (.slice Ao92 t523.length co92 : Value).ownBlock ∧ some k_ ≠ (.slice Ao95 t538.length co95 : Value).ownBlock ∧ some k_ ≠ (v557 : Value).ownBlock) (.slice Ao91 t530.length co91) t530) := ⟨sF_ (Kd.S_mono (Kd.S_far (p := ⟨gb560, 0, none⟩) (Kd.S_types HO532.out BK560.out (by decide)) (fun _ hk => hk.2) (.slice Ao101 t553.length co101)) (fun _ hk => ⟨hk.1.1.1, ⟨hk.1.1.2, hk.1.2⟩⟩))⟩
    have n6_ : Aside0 (Kd.R k56 56 (w100.setCell ⟨gb560, 0, none⟩ (.slice Ao101 t553.length co101)) w.heap.size (fun k_ => some k_ ≠ (.slice Ao16 t503.length co16 : Value).ownBlock ∧ some k_ ≠ (.slice Ao21 t510.length co21 : Value).ownBlock ∧ some k_ ≠ (.slice Ao27 t515.length co27 : Value).ownBlock ∧ some k_ ≠ (.slice Ao76 t527.length co76 : Value).ownBlock ∧ some k_ ≠ (.slice Ao101 t553.length co101 : Value).ownBlock) (.slice Ao84 t535.length co84) t535) := ⟨rF_ (Kd.R_mono (Kd.R_far (p := ⟨gb560, 0, none⟩) (Kd.R_types HO537.out BK560.out (by decide)) (fun _ hk => hk.2) (.slice Ao101 t553.length co101)) (fun _ hk => ⟨hk.1.1.1, ⟨hk.1.1.2.1, ⟨hk.1.1.2.2.1, ⟨hk.1.1.2.2.2, hk.1.2⟩⟩⟩⟩))⟩
    have n7_ : Aside0 (Kd.S k44 44 (w100.setCell ⟨gb560, 0, none⟩ (.slice Ao101 t553.length co101)) w.heap.size (fun k_ => some k_ ≠ (.slice Ao92 t523.length co92 : Value).ownBlock ∧ some k_ ≠ (.slice Ao91 t530.length co91 : Value).ownBlock ∧ some k_ ≠ (v557 : Value).ownBlock) (.slice Ao95 t538.length co95) t538) := ⟨sF_ (Kd.S_mono (Kd.S_far (p := ⟨gb560, 0, none⟩) (Kd.S_types HO540.out BK560.out (by decide)) (fun _ hk => hk.2) (.slice Ao101 t553.length co101)) (fun _ hk => ⟨hk.1.1.1, ⟨hk.1.1.2, hk.1.2⟩⟩))⟩
    have n8_ : Aside0 (Kd.R k56 56 (w100.setCell ⟨gb560, 0, none⟩ (.slice Ao101 t553.length co101)) w.heap.size (fun k_ => some k_ ≠ (.slice Ao16 t503.length co16 : Value).ownBlock ∧ some k_ ≠ (.slice Ao21 t510.length co21 : Value).ownBlock ∧ some k_ ≠ (.slice Ao27 t515.length co27 : Value).ownBlock ∧ some k_ ≠ (.slice Ao76 t527.length co76 : Value).ownBlock ∧ some k_ ≠ (.slice Ao84 t535.length co84 : Value).ownBlock) (.slice Ao101 t553.length co101) t553) := ⟨rF_ (Kd.R_mono (Kd.R_far (p := ⟨gb560, 0, none⟩) (Kd.R_types HO555.out BK560.out (by decide)) (fun _ hk => hk.2) (.slice Ao101 t553.length co101)) (fun _ hk => ⟨hk.1.1.1.1.1.2, ⟨hk.1.1.1.1.2, ⟨hk.1.1.1.2, ⟨hk.1.1.2, hk.1.2⟩⟩⟩⟩))⟩
    have n9_ : Aside0 (Kd.S k44 44 (w100.setCell ⟨gb560, 0, none⟩ (.slice Ao101 t553.length co101)) w.heap.size (fun k_ => some k_ ≠ (.slice Ao92 t523.length co92 : Value).ownBlock ∧ some k_ ≠ (.slice Ao91 t530.length co91 : Value).ownBlock ∧ some k_ ≠ (.slice Ao95 t538.length co95 : Value).ownBlock) v557 t556) := ⟨sF_ (Kd.S_mono (Kd.S_far (p := ⟨gb560, 0, none⟩) (Kd.S_types HO558.out BK560.out (by decide)) (fun _ hk => hk.2) (.slice Ao101 t553.length co101)) (fun _ hk => ⟨hk.1.1.1.2, ⟨hk.1.1.2, hk.1.2⟩⟩))⟩
    have n10_ : Aside0 ((w100.setCell ⟨gb560, 0, none⟩ (.slice Ao101 t553.length co101)).heap[gb509]? = some (.cells #[.slice Ao16 t503.length co16] 31 (0, 0))) := ⟨uf_ BK509 NB509_560.out⟩
    have n11_ : Aside0 ((w100.setCell ⟨gb560, 0, none⟩ (.slice Ao101 t553.length co101)).heap[gb514]? = some (.cells #[.slice Ao21 t510.length co21] 31 (0, 0))) := ⟨uf_ BK514 NB514_560.out⟩
    have n12_ : Aside0 ((w100.setCell ⟨gb560, 0, none⟩ (.slice Ao101 t553.length co101)).heap[gb519]? = some (.cells #[.slice Ao27 t515.length co27] 31 (0, 0))) := ⟨uf_ BK519 NB519_560.out⟩
    have n13_ : Aside0 ((w100.setCell ⟨gb560, 0, none⟩ (.slice Ao101 t553.length co101)).heap[gb534]? = some (.cells #[.slice Ao76 t527.length co76] 31 (0, 0))) := ⟨uf_ BK534 NB534_560.out⟩
    have n14_ : Aside0 ((w100.setCell ⟨gb560, 0, none⟩ (.slice Ao101 t553.length co101)).heap[gb542]? = some (.cells #[.slice Ao84 t535.length co84] 31 (0, 0))) := ⟨uf_ BK542 NB542_560.out⟩
    have n15_ : Aside0 ((w100.setCell ⟨gb560, 0, none⟩ (.slice Ao101 t553.length co101)).heap[gb560]? = some (.cells #[.slice Ao101 t553.length co101] 31 (0, 0))) := ⟨up_ BK560⟩
    have n16_ : Aside0 (Below w.heap.size w (w100.setCell ⟨gb560, 0, none⟩ (.slice Ao101 t553.length co101))) := ⟨hs6_ GE509.out GE514.out GE519.out GE534.out GE542.out GE560.out⟩
    (try clear HO_510000)
    (try clear HO_515000)
    (try clear HO_520000)
    (try clear HO525)
    (try clear HO529)
    (try clear HO532)
    (try clear HO537)
    (try clear HO540)
    (try clear HO555)
    (try clear HO558)
    (try clear BK509)
    (try clear BK514)
    (try clear BK519)
    (try clear BK534)
    (try clear BK542)
    (try clear BK560)
    (try clear HB)
    generalize (w100.setCell ⟨gb560, 0, none⟩ (.slice Ao101 t553.length co101)) = w108 at n0_ n1_ n2_ n3_ n4_ n5_ n6_ n7_ n8_ n9_ n10_ n11_ n12_ n13_ n14_ n15_ n16_ ⊢
    have HO_510000 := n0_
    have HO_515000 := n1_
    have HO_520000 := n2_
    have HO525 := n3_
    have HO529 := n4_
    have HO532 := n5_
    have HO537 := n6_
    have HO540 := n7_
    have HO555 := n8_
    have HO558 := n9_
    have BK509 := n10_
    have BK514 := n11_
    have BK519 := n12_
    have BK534 := n13_
    have BK542 := n14_
    have BK560 := n15_
    have HB := n16_
    clear n0_ n1_ n2_ n3_ n4_ n5_ n6_ n7_ n8_ n9_ n10_ n11_ n12_ n13_ n14_ n15_ n16_
    replace HO_510000 := qR_ HO_510000
    replace HO_515000 := qR_ HO_515000
    replace HO_520000 := qR_ HO_520000
    replace HO525 := Aside0.mk (Kd.S_drew HO525.out)
    replace HO529 := qR_ HO529
    replace HO532 := Aside0.mk (Kd.S_drew HO532.out)
    replace HO537 := qR_ HO537
    replace HO540 := Aside0.mk (Kd.S_drew HO540.out)
    replace HO555 := qR_ HO555
    replace HO558 := Aside0.mk (Kd.S_drew HO558.out)
    replace BK509 := qK_ BK509
    replace BK514 := qK_ BK514
    replace BK519 := qK_ BK519
    replace BK534 := qK_ BK534
    replace BK542 := qK_ BK542
    replace BK560 := qK_ BK560
    replace HB := qH_ HB
    have p564 : 0 ≤ (x78_1 : Int) := oa_
    have q564 : x78_1 < (t527.length : Int) := oa_
    obtain ⟨ad564, e564, hx564_0, hx564_1⟩ := at_T56 (Kd.R_reads' HO529.out).2.2 x78_1 p564 q564
    cases e564
    replace p564 := eq_true p564
    replace q564 := eq_true q564
    have p565 : 0 ≤ (x78_1 : Int) := oa_
    have q565 : x78_1 < (t527.length : Int) := oa_
    obtain ⟨ad565, e565, hx565_0, hx565_1⟩ := at_T56 (Kd.R_reads' HO529.out).2.2 x78_1 p565 q565
    obtain rfl : ad564 = ad565 := (by injection e565)
    replace p565 := eq_true p565
    replace q565 := eq_true q565
    refine start_ (n := 35) (S := fun w' => w'.cell? ⟨gb534, 0, none⟩ = some (.slice (some ad564) t527.length co76) ∧ w'.cell? ⟨gb560, 0, none⟩ = some (.slice Ao101 t553.length co101) ∧ w'.cell? (ad564.add ((x78_1).toNat * 2)) = some (.string ((rd_T56 t527 x78_1).f0)) ∧ w'.cell? ⟨(ad564.add ((x78_1).toNat * 2)).block, (ad564.add ((x78_1).toNat * 2)).off + 1, none⟩ = some (.int .i64 ((rd_T56 t527 x78_1).f1)) ∧ w'.cell? (ad564.add ((x78_1).toNat * 2)) = some (.string ((rd_T56 t527 x78_1).f0)) ∧ w'.cell? ⟨(ad564.add ((x78_1).toNat * 2)).block, (ad564.add ((x78_1).toNat * 2)).off + 1, none⟩ = some (.int .i64 ((rd_T56 t527 x78_1).f1))) (ds := []) (List.replicate 35 false).toArray (by kernel_rfl) rfl rfl ⟨bt_ BK534 0, bt_ BK560 0, hx564_0, hx564_1, hx565_0, hx565_1⟩ (fun hHeld => ?_); refine with_tabW laws_FnTorn.tab18 laws_FnTorn.bits18 (fun HT_ HW_ => ?_)
    generalize w108.drew = w109 at HO_510000 HO_515000 HO_520000 HO525 HO529 HO532 HO537 HO540 HO555 HO558 BK509 BK514 BK519 BK534 BK542 BK560 HB hx564_0 hx564_1 hx565_0 hx565_1 hHeld ⊢
    refine tk_ 0 150 ?_
    refine on_ 1 151 (fun K hK => ?_)
    refine gs_ Try.func41 #[.agg #[.slice (some ad564) t527.length co76]] rfl ma_ ?_
    with_reducible refine (impl_GoodDisk.calls _ _ t527 true _ ?side1 ?side2 A58.out).mono ?_
    (case side1 => exact cs_ ((Kd.R_reads' HO529.out).2.2))
    (case side2 => exact (Kd.R_reads' HO529.out).2.1)
    rintro e w110 ⟨rfl, hb⟩
    have HS2_ := (hb.cell (World.block_lt_of_cell? _ _ (hHeld.2.2.1))).trans (hHeld.2.2.1)
    have HS3_ := (hb.cell (World.block_lt_of_cell? _ _ (hHeld.2.2.2.1))).trans (hHeld.2.2.2.1)
    have HS4_ := (hb.cell (World.block_lt_of_cell? _ _ (hHeld.2.2.2.2.1))).trans (hHeld.2.2.2.2.1)
    have HS5_ := (hb.cell (World.block_lt_of_cell? _ _ (hHeld.2.2.2.2.2))).trans (hHeld.2.2.2.2.2)
    refine ⟨_, rfl, ?_⟩
    replace HO_510000 := rB_ HO_510000 hb
    replace HO_515000 := rB_ HO_515000 hb
    replace HO_520000 := rB_ HO_520000 hb
    replace HO525 := sB_ HO525 hb
    replace HO529 := rB_ HO529 hb
    replace HO532 := sB_ HO532 hb
    replace HO537 := rB_ HO537 hb
    replace HO540 := sB_ HO540 hb
    replace HO555 := rB_ HO555 hb
    replace HO558 := sB_ HO558 hb
    replace BK509 := bK_ BK509 hb
    replace BK514 := bK_ BK514 hb
    replace BK519 := bK_ BK519 hb
    replace BK534 := bK_ BK534 hb
    replace BK542 := bK_ BK542 hb
    replace BK560 := bK_ BK560 hb
    replace HB := nc6_ GE509 GE514 GE519 GE534 GE542 GE560 hb
    (try clear hb)
    (try clear hb2)
    (try clear hk)
    (try clear hi)
    refine hK.out _ _ ⟨bt_ BK534 0, bt_ BK560 0, HS2_, HS3_, HS4_, HS5_⟩ (fun hHeld => ?_)
    clear hK K
    refine no_ ?_
    refine pv_ 2 152 ?_
    refine pv_ 3 153 ?_
    refine pv_ 4 154 ?_
    refine pv_ 5 155 ?_
    refine pv_ 6 156 ?_
    refine pv_ 7 157 ?_
    refine tk_ 8 158 ?_
    refine tk_ 9 159 ?_
    refine on_ 10 160 (fun K hK => ?_)
    refine gs_ Try.func27 #[.agg #[.slice Ao101 t553.length co101], .agg #[.slice (some ad564) t527.length co76]] rfl ma_ ?_
    with_reducible refine (laws_sameDisks.calls k1 _ _ t553 _ _ t527 true _ ?side1 ?side2 ?side3 ?side4 A61.out).mono ?_
    (case side1 => exact cs_ ((Kd.R_reads' HO555.out).2.2))
    (case side2 => exact (Kd.R_reads' HO555.out).2.1)
    (case side3 => exact cs_ ((Kd.R_reads' HO529.out).2.2))
    (case side4 => exact (Kd.R_reads' HO529.out).2.1)
    rintro e w111 ⟨rfl, hb⟩
    have HS2_ := (hb.cell (World.block_lt_of_cell? _ _ (hHeld.2.2.1))).trans (hHeld.2.2.1)
    have HS3_ := (hb.cell (World.block_lt_of_cell? _ _ (hHeld.2.2.2.1))).trans (hHeld.2.2.2.1)
    have HS4_ := (hb.cell (World.block_lt_of_cell? _ _ (hHeld.2.2.2.2.1))).trans (hHeld.2.2.2.2.1)
    have HS5_ := (hb.cell (World.block_lt_of_cell? _ _ (hHeld.2.2.2.2.2))).trans (hHeld.2.2.2.2.2)
    refine ⟨_, rfl, ?_⟩
    replace HO_510000 := rB_ HO_510000 hb
    replace HO_515000 := rB_ HO_515000 hb
    replace HO_520000 := rB_ HO_520000 hb
    replace HO525 := sB_ HO525 hb
    replace HO529 := rB_ HO529 hb
    replace HO532 := sB_ HO532 hb
    replace HO537 := rB_ HO537 hb
    replace HO540 := sB_ HO540 hb
    replace HO555 := rB_ HO555 hb
    replace HO558 := sB_ HO558 hb
    replace BK509 := bK_ BK509 hb
    replace BK514 := bK_ BK514 hb
    replace BK519 := bK_ BK519 hb
    replace BK534 := bK_ BK534 hb
    replace BK542 := bK_ BK542 hb
    replace BK560 := bK_ BK560 hb
    replace HB := nc6_ GE509 GE514 GE519 GE534 GE542 GE560 hb
    (try clear hb)
    (try clear hb2)
    (try clear hk)
    (try clear hi)
    obtain ⟨Ao112, co112, eo112⟩ := Kd.S_slice HO558.out
    (first | subst eo112 | (injection eo112 with f1_ f2_ f3_; have f4_ := f1_.symm; have f5_ := f3_.symm; clear f1_ f2_ f3_; subst f4_; subst f5_))
    refine hK.out _ _ ⟨bt_ BK534 0, bt_ BK560 0, HS2_, HS3_, HS4_, HS5_⟩ (fun hHeld => ?_)
    clear hK K
    refine no_ ?_
    refine pv_ 11 161 ?_
    refine pv_ 12 162 ?_
    refine pv_ 13 163 ?_
    refine pv_ 14 164 ?_
    refine pv_ 15 165 ?_
    refine on_ 16 166 (fun K hK => ?_)
    refine gs_ Try.func46 #[.slice Ao112 t556.length co112, .slice Ao91 t530.length co91] rfl ma_ ?_
    with_reducible refine (laws_sameBatches.calls k1 _ _ t556 _ _ t530 true _ ?side1 ?side2 ?side3 ?side4 A63.out).mono ?_
    (case side1 => exact cs_ ((Kd.S_reads' HO558.out).2.2))
    (case side2 => exact (Kd.S_reads' HO558.out).2.1)
    (case side3 => exact cs_ ((Kd.S_reads' HO532.out).2.2))
    (case side4 => exact (Kd.S_reads' HO532.out).2.1)
    rintro e w113 ⟨rfl, hb⟩
    have HS2_ := (hb.cell (World.block_lt_of_cell? _ _ (hHeld.2.2.1))).trans (hHeld.2.2.1)
    have HS3_ := (hb.cell (World.block_lt_of_cell? _ _ (hHeld.2.2.2.1))).trans (hHeld.2.2.2.1)
    have HS4_ := (hb.cell (World.block_lt_of_cell? _ _ (hHeld.2.2.2.2.1))).trans (hHeld.2.2.2.2.1)
    have HS5_ := (hb.cell (World.block_lt_of_cell? _ _ (hHeld.2.2.2.2.2))).trans (hHeld.2.2.2.2.2)
    refine ⟨_, rfl, ?_⟩
    replace HO_510000 := rB_ HO_510000 hb
    replace HO_515000 := rB_ HO_515000 hb
    replace HO_520000 := rB_ HO_520000 hb
    replace HO525 := sB_ HO525 hb
    replace HO529 := rB_ HO529 hb
    replace HO532 := sB_ HO532 hb
    replace HO537 := rB_ HO537 hb
    replace HO540 := sB_ HO540 hb
    replace HO555 := rB_ HO555 hb
    replace HO558 := sB_ HO558 hb
    replace BK509 := bK_ BK509 hb
    replace BK514 := bK_ BK514 hb
    replace BK519 := bK_ BK519 hb
    replace BK534 := bK_ BK534 hb
    replace BK542 := bK_ BK542 hb
    replace BK560 := bK_ BK560 hb
    replace HB := nc6_ GE509 GE514 GE519 GE534 GE542 GE560 hb
    (try clear hb)
    (try clear hb2)
    (try clear hk)
    (try clear hi)
    refine hK.out _ _ ⟨bt_ BK534 0, bt_ BK560 0, HS2_, HS3_, HS4_, HS5_⟩ (fun hHeld => ?_)
    clear hK K
    refine no_ ?_
    refine pv_ 17 167 ?_
    refine pv_ 18 168 ?_
    refine pv_ 19 169 ?_
    refine pv_ 20 170 ?_
    refine pv_ 22 172 ?_
    refine pv_ 26 176 ?_
    refine pv_ 28 178 ?_
    refine tk_ 21 171 ?_
    refine pv_ 23 173 ?_
    refine pv_ 24 174 ?_
    refine tk_ 25 175 ?_
    refine tk_ 27 177 ?_
    refine pv_ 29 179 ?_
    refine pv_ 30 180 ?_
    refine tk_ 31 181 ?_
    refine pv_ 32 182 ?_
    refine pv_ 33 183 ?_
    refine pv_ 34 184 ?_
    refine done_ (done_of HT_.out (by kernel_rfl)) ?_
    try go_wp2
    go_roundg k1
    case measure => have := HK1.out; omega
    case rel => exact ⟨(wrap64 (x78_1 + 1)), sr_, H', ⟨by have := HK1.out; omega⟩, ⟨rF_ (Kd.R_mono HO_510000.out (fun _ hk => ⟨hk.1, hk.2.1⟩))⟩, ⟨rF_ (Kd.R_mono HO_515000.out (fun _ hk => ⟨hk.1, hk.2.1⟩))⟩, ⟨rF_ (Kd.R_mono HO_520000.out (fun _ hk => ⟨hk.1, hk.2.1⟩))⟩, ⟨kb_ BK509.out⟩, ⟨kb_ BK514.out⟩, ⟨kb_ BK519.out⟩, ⟨hs6_ GE509.out GE514.out GE519.out GE534.out GE542.out GE560.out⟩⟩
 case rest =>
  clear HC13
  try clear c3
  obtain ⟨kq, HA, HJ12, HO_510000, HO_515000, HO_520000, BK509, BK514, BK519, HB⟩ := hcut
  cases kq with
  | zero => exact absurd HA.out (by simp [laws_FnTorn.j1])
  | succ kj12 =>
   have H := HA.out
   clear HA
   simp only [laws_FnTorn.j1] at H
   replace H := bnd_ H
   obtain ⟨⟨t566, t569⟩, A114, H⟩ := H
   replace H := red_ H
   replace H := bnd_ H
   obtain ⟨⟨t571, t574, t577⟩, A115, H⟩ := H
   replace H := red_ H
   replace H := bnd_ H
   obtain ⟨⟨t579, t582, t585⟩, A116, H⟩ := H
   replace H := red_ H
   replace H := bnd_ H
   obtain ⟨⟨t587, t590⟩, A117, H⟩ := H
   replace H := red_ H
   replace H := bnd_ H
   obtain ⟨⟨t591, t594⟩, A118, H⟩ := H
   replace H := red_ H
   replace H := ifs_ H
   obtain ⟨c119, H⟩ := H
   have c119b0 : (t577 == t585) = true := c119
   (try (have c119b1 : decide (t577 = t585) = true := by simpa using c119))
   (try (have c119b2 : (t577 == t585) = true := by simpa using c119))
   clear c119
   replace H := bnd_ H
   obtain ⟨t595, A120, H⟩ := H
   replace H := ifb_ H
   obtain ⟨rfl, H⟩ | ⟨rfl, H⟩ := H
   rotate_left
   ·exact absurd H (by simp)
   replace H := bnd_ H
   obtain ⟨t596, A122, H⟩ := H
   replace H := ifb_ H
   obtain ⟨rfl, H⟩ | ⟨rfl, H⟩ := H
   rotate_left
   ·exact absurd H (by simp)
   replace H := ifs_ H
   obtain ⟨c124, H⟩ := H
   have c124b0 : (t590 == t594) = true := c124
   (try (have c124b1 : decide (t590 = t594) = true := by simpa using c124))
   (try (have c124b2 : (t590 == t594) = true := by simpa using c124))
   clear c124
   replace H := bnd_ H
   obtain ⟨t597, A125, H⟩ := H
   obtain rfl := Option.some.inj H
   go_wp2_with (first | ((with_reducible refine gate_callee (f := 47) rfl ?_); refine gl_ 188 Try.func47 #[.slice A1 l1.length c1] rfl ma_ ?_; (with_reducible refine (spec_DrawRecoverFile.calls kj12 _ _ l1 t566 t569 _ ?side1 ?side2 A114.out).mono ?_); (case side1 => exact cs_ ((Kd.C_below HR1.out HB.out))); (case side2 => exact HC1.out); rintro e w126 ⟨v567, rfl, ho0, hb⟩; refine ⟨_, rfl, ?_⟩; have HO568 := Aside0.mk (Kd.R_lower (Kd.R_new' (Kd.R_new' (Kd.R_new' ho0 (Kd.R_lt (kr_ HO_510000.out))) (Kd.R_lt (kr_ HO_515000.out))) (Kd.R_lt (kr_ HO_520000.out))) (below_size (hs3_ GE509.out GE514.out GE519.out))); replace HO_510000 := Aside0.mk (Kd.R_elder' (kr_ HO_510000.out) (Kd.R_base ho0) hb); replace HO_515000 := Aside0.mk (Kd.R_elder' (kr_ HO_515000.out) (Kd.R_base ho0) hb); replace HO_520000 := Aside0.mk (Kd.R_elder' (kr_ HO_520000.out) (Kd.R_base ho0) hb); replace BK509 := bK_ BK509 hb; replace BK514 := bK_ BK514 hb; replace BK519 := bK_ BK519 hb; replace HB := nc3_ GE509 GE514 GE519 hb; (try clear hb); (try clear hb2); (try clear hk); (try clear hi); (try clear ho0)) | ((with_reducible refine gate_dst (N := 23) rfl ?_); (try (refine gate_guard (by rfl) ?_; dsimp only)); refine bq_ (N := 23) #[.slice none 0 0] 31 ?_; intro gb570 hg w127 BK570 hb; replace HO_510000 := rB_ HO_510000 hb; replace HO_515000 := rB_ HO_515000 hb; replace HO_520000 := rB_ HO_520000 hb; replace HO568 := rB_ HO568 hb; have GE570 := ge3_ hg GE509 GE514 GE519; replace HB := nc3_ GE509 GE514 GE519 hb; have NB509_570 := nl_ BK509 hg; have NB570_509 := ng_ BK509 hg; replace BK509 := bK_ BK509 hb; have NB514_570 := nl_ BK514 hg; have NB570_514 := ng_ BK514 hg; replace BK514 := bK_ BK514 hb; have NB519_570 := nl_ BK519 hg; have NB570_519 := ng_ BK519 hg; replace BK519 := bK_ BK519 hb; clear hb hg; obtain ⟨Ao128, co128, eo128⟩ := Kd.R_slice HO568.out; subst eo128; have hnb129 := NB570_509.out; have hnc129 := NB509_570.out; have hnb130 := NB570_514.out; have hnc130 := NB514_570.out; have hnb131 := NB570_519.out; have hnc131 := NB519_570.out; obtain ⟨hcz132_0, hfz132_0⟩ := cf1_ BK570.out) | ((with_reducible refine gate_callee (f := 25) rfl ?_); refine gl_ 194 Try.func25 #[.agg #[.slice Ao128 t566.length co128], .int .i64 t569] rfl ma_ ?_; (with_reducible refine (impl_RecoverFile.calls kj12 _ _ t566 t569 t571 t574 t577 _ ?side1 ?side2 A115.out).mono ?_); (case side1 => refine (Kd.R_reads' (e := 56) (base := w.heap.size) (ok := fun k_ => (((True ∧ some k_ ≠ (.slice Ao16 t503.length co16 : Value).ownBlock) ∧ some k_ ≠ (.slice Ao21 t510.length co21 : Value).ownBlock) ∧ some k_ ≠ (.slice Ao27 t515.length co27 : Value).ownBlock)) (n := t566.length) (c := co128) ?_).2.2; exact (rF_ (Kd.R_mono (Kd.R_far (p := ⟨gb570, 0, none⟩) (Kd.R_types HO568.out BK570.out (by decide)) (fun _ hk => hk.2) (.slice Ao128 t566.length co128)) (fun _ h_ => h_.1)))); (case side2 => exact (Kd.R_reads' HO568.out).2.1); rintro e w133 ⟨v572, v575, rfl, ho0, ho1, hb⟩; refine ⟨_, rfl, ?_⟩; have HO573 := Aside0.mk (Kd.R_lower (Kd.R_new' (Kd.R_new' (Kd.R_new' (Kd.R_new' ho0 (Kd.R_lt (rF_ (Kd.R_mono (Kd.R_far (p := ⟨gb570, 0, none⟩) (Kd.R_types HO_510000.out BK570.out (by decide)) (fun _ hk => hk.2) (.slice Ao128 t566.length co128)) (fun _ h_ => h_.1))))) (Kd.R_lt (rF_ (Kd.R_mono (Kd.R_far (p := ⟨gb570, 0, none⟩) (Kd.R_types HO_515000.out BK570.out (by decide)) (fun _ hk => hk.2) (.slice Ao128 t566.length co128)) (fun _ h_ => h_.1))))) (Kd.R_lt (rF_ (Kd.R_mono (Kd.R_far (p := ⟨gb570, 0, none⟩) (Kd.R_types HO_520000.out BK570.out (by decide)) (fun _ hk => hk.2) (.slice Ao128 t566.length co128)) (fun _ h_ => h_.1))))) (Kd.R_lt (rF_ (Kd.R_mono (Kd.R_far (p := ⟨gb570, 0, none⟩) (Kd.R_types HO568.out BK570.out (by decide)) (fun _ hk => hk.2) (.slice Ao128 t566.length co128)) (fun _ h_ => h_.1))))) (below_size (hs4_ GE509.out GE514.out GE519.out GE570.out))); replace HO_510000 := Aside0.mk (Kd.R_elder' (rF_ (Kd.R_mono (Kd.R_far (p := ⟨gb570, 0, none⟩) (Kd.R_types HO_510000.out BK570.out (by decide)) (fun _ hk => hk.2) (.slice Ao128 t566.length co128)) (fun _ h_ => h_.1))) (Kd.R_base ho0) hb); replace HO_515000 := Aside0.mk (Kd.R_elder' (rF_ (Kd.R_mono (Kd.R_far (p := ⟨gb570, 0, none⟩) (Kd.R_types HO_515000.out BK570.out (by decide)) (fun _ hk => hk.2) (.slice Ao128 t566.length co128)) (fun _ h_ => h_.1))) (Kd.R_base ho0) hb); replace HO_520000 := Aside0.mk (Kd.R_elder' (rF_ (Kd.R_mono (Kd.R_far (p := ⟨gb570, 0, none⟩) (Kd.R_types HO_520000.out BK570.out (by decide)) (fun _ hk => hk.2) (.slice Ao128 t566.length co128)) (fun _ h_ => h_.1))) (Kd.R_base ho0) hb); replace HO568 := Aside0.mk (Kd.R_elder' (rF_ (Kd.R_mono (Kd.R_far (p := ⟨gb570, 0, none⟩) (Kd.R_types HO568.out BK570.out (by decide)) (fun _ hk => hk.2) (.slice Ao128 t566.length co128)) (fun _ h_ => h_.1))) (Kd.R_base ho0) hb); have HO576 := Aside0.mk (Kd.S_lower ho1 (below_size (hs4_ GE509.out GE514.out GE519.out GE570.out))); replace BK509 := Aside0.mk (blk_below (g := gb509) (o := .cells #[.slice Ao16 t503.length co16] 31 (0, 0)) (uf_ BK509 NB509_570.out) hb); replace BK514 := Aside0.mk (blk_below (g := gb514) (o := .cells #[.slice Ao21 t510.length co21] 31 (0, 0)) (uf_ BK514 NB514_570.out) hb); replace BK519 := Aside0.mk (blk_below (g := gb519) (o := .cells #[.slice Ao27 t515.length co27] 31 (0, 0)) (uf_ BK519 NB519_570.out) hb); replace BK570 := Aside0.mk (blk_below (g := gb570) (o := .cells #[.slice Ao128 t566.length co128] 31 (0, 0)) (up_ BK570) hb); replace HB := nc4_ GE509 GE514 GE519 GE570 hb; (try clear hb); (try clear hb2); (try clear hk); (try clear hi); (try clear ho0); (try clear ho1)) | ((with_reducible refine gate_dst (N := 25) rfl ?_); (try (refine gate_guard (by rfl) ?_; dsimp only)); refine bq_ (N := 25) #[.slice none 0 0] 31 ?_; intro gb578 hg w134 BK578 hb; replace HO_510000 := rB_ HO_510000 hb; replace HO_515000 := rB_ HO_515000 hb; replace HO_520000 := rB_ HO_520000 hb; replace HO568 := rB_ HO568 hb; replace HO573 := rB_ HO573 hb; replace HO576 := sB_ HO576 hb; have GE578 := ge4_ hg GE509 GE514 GE519 GE570; replace HB := nc4_ GE509 GE514 GE519 GE570 hb; have NB509_578 := nl_ BK509 hg; have NB578_509 := ng_ BK509 hg; replace BK509 := bK_ BK509 hb; have NB514_578 := nl_ BK514 hg; have NB578_514 := ng_ BK514 hg; replace BK514 := bK_ BK514 hb; have NB519_578 := nl_ BK519 hg; have NB578_519 := ng_ BK519 hg; replace BK519 := bK_ BK519 hb; have NB570_578 := nl_ BK570 hg; have NB578_570 := ng_ BK570 hg; replace BK570 := bK_ BK570 hb; clear hb hg; obtain ⟨Ao135, co135, eo135⟩ := Kd.R_slice HO573.out; subst eo135; have hnb136 := NB578_509.out; have hnc136 := NB509_578.out; have hnb137 := NB578_514.out; have hnc137 := NB514_578.out; have hnb138 := NB578_519.out; have hnc138 := NB519_578.out; have hnb139 := NB578_570.out; have hnc139 := NB570_578.out; obtain ⟨hcz140_0, hfz140_0⟩ := cf1_ BK578.out; obtain ⟨hcz141_0, hfz141_0⟩ := cf1_ BK570.out) | ((with_reducible refine gate_callee (f := 24) rfl ?_); refine gl_ 201 Try.func24 #[.agg #[.slice Ao128 t566.length co128], .int .i64 t569] rfl ma_ ?_; (with_reducible refine (spec_RecoverFile.calls kj12 _ _ t566 t569 t579 t582 t585 _ ?side1 ?side2 A116.out).mono ?_); (case side1 => refine (Kd.R_reads' (e := 56) (base := w.heap.size) (ok := fun k_ => ((((True ∧ some k_ ≠ (.slice Ao16 t503.length co16 : Value).ownBlock) ∧ some k_ ≠ (.slice Ao21 t510.length co21 : Value).ownBlock) ∧ some k_ ≠ (.slice Ao27 t515.length co27 : Value).ownBlock) ∧ some k_ ≠ (.slice Ao135 t571.length co135 : Value).ownBlock)) (n := t566.length) (c := co128) ?_).2.2; exact (rF_ (Kd.R_mono (Kd.R_far (p := ⟨gb578, 0, none⟩) (Kd.R_types HO568.out BK578.out (by decide)) (fun _ hk => hk.2) (.slice Ao135 t571.length co135)) (fun _ h_ => h_.1)))); (case side2 => exact (Kd.R_reads' HO568.out).2.1); rintro e w142 ⟨v580, v583, rfl, ho0, ho1, hb⟩; refine ⟨_, rfl, ?_⟩; have HO581 := Aside0.mk (Kd.R_lower (Kd.R_new' (Kd.R_new' (Kd.R_new' (Kd.R_new' (Kd.R_new' ho0 (Kd.R_lt (rF_ (Kd.R_mono (Kd.R_far (p := ⟨gb578, 0, none⟩) (Kd.R_types HO_510000.out BK578.out (by decide)) (fun _ hk => hk.2) (.slice Ao135 t571.length co135)) (fun _ h_ => h_.1))))) (Kd.R_lt (rF_ (Kd.R_mono (Kd.R_far (p := ⟨gb578, 0, none⟩) (Kd.R_types HO_515000.out BK578.out (by decide)) (fun _ hk => hk.2) (.slice Ao135 t571.length co135)) (fun _ h_ => h_.1))))) (Kd.R_lt (rF_ (Kd.R_mono (Kd.R_far (p := ⟨gb578, 0, none⟩) (Kd.R_types HO_520000.out BK578.out (by decide)) (fun _ hk => hk.2) (.slice Ao135 t571.length co135)) (fun _ h_ => h_.1))))) (Kd.R_lt (rF_ (Kd.R_mono (Kd.R_far (p := ⟨gb578, 0, none⟩) (Kd.R_types HO568.out BK578.out (by decide)) (fun _ hk => hk.2) (.slice Ao135 t571.length co135)) (fun _ h_ => h_.1))))) (Kd.R_lt (rF_ (Kd.R_mono (Kd.R_far (p := ⟨gb578, 0, none⟩) (Kd.R_types HO573.out BK578.out (by decide)) (fun _ hk => hk.2) (.slice Ao135 t571.length co135)) (fun _ h_ => h_.1))))) (below_size (hs5_ GE509.out GE514.out GE519.out GE570.out GE578.out))); replace HO_510000 := Aside0.mk (Kd.R_elder' (rF_ (Kd.R_mono (Kd.R_far (p := ⟨gb578, 0, none⟩) (Kd.R_types HO_510000.out BK578.out (by decide)) (fun _ hk => hk.2) (.slice Ao135 t571.length co135)) (fun _ h_ => h_.1))) (Kd.R_base ho0) hb); replace HO_515000 := Aside0.mk (Kd.R_elder' (rF_ (Kd.R_mono (Kd.R_far (p := ⟨gb578, 0, none⟩) (Kd.R_types HO_515000.out BK578.out (by decide)) (fun _ hk => hk.2) (.slice Ao135 t571.length co135)) (fun _ h_ => h_.1))) (Kd.R_base ho0) hb); replace HO_520000 := Aside0.mk (Kd.R_elder' (rF_ (Kd.R_mono (Kd.R_far (p := ⟨gb578, 0, none⟩) (Kd.R_types HO_520000.out BK578.out (by decide)) (fun _ hk => hk.2) (.slice Ao135 t571.length co135)) (fun _ h_ => h_.1))) (Kd.R_base ho0) hb); replace HO568 := Aside0.mk (Kd.R_elder' (rF_ (Kd.R_mono (Kd.R_far (p := ⟨gb578, 0, none⟩) (Kd.R_types HO568.out BK578.out (by decide)) (fun _ hk => hk.2) (.slice Ao135 t571.length co135)) (fun _ h_ => h_.1))) (Kd.R_base ho0) hb); replace HO573 := Aside0.mk (Kd.R_elder' (rF_ (Kd.R_mono (Kd.R_far (p := ⟨gb578, 0, none⟩) (Kd.R_types HO573.out BK578.out (by decide)) (fun _ hk => hk.2) (.slice Ao135 t571.length co135)) (fun _ h_ => h_.1))) (Kd.R_base ho0) hb); have HO584 := Aside0.mk (Kd.S_lower (Kd.S_new' ho1 (Kd.S_lt (sF_ (Kd.S_mono (Kd.S_far (p := ⟨gb578, 0, none⟩) (Kd.S_types HO576.out BK578.out (by decide)) (fun _ hk => hk.2) (.slice Ao135 t571.length co135)) (fun _ h_ => h_.1))))) (below_size (hs5_ GE509.out GE514.out GE519.out GE570.out GE578.out))); replace HO576 := Aside0.mk (Kd.S_elder' (sF_ (Kd.S_mono (Kd.S_far (p := ⟨gb578, 0, none⟩) (Kd.S_types HO576.out BK578.out (by decide)) (fun _ hk => hk.2) (.slice Ao135 t571.length co135)) (fun _ h_ => h_.1))) (Kd.S_base ho1) hb); replace BK509 := Aside0.mk (blk_below (g := gb509) (o := .cells #[.slice Ao16 t503.length co16] 31 (0, 0)) (uf_ BK509 NB509_578.out) hb); replace BK514 := Aside0.mk (blk_below (g := gb514) (o := .cells #[.slice Ao21 t510.length co21] 31 (0, 0)) (uf_ BK514 NB514_578.out) hb); replace BK519 := Aside0.mk (blk_below (g := gb519) (o := .cells #[.slice Ao27 t515.length co27] 31 (0, 0)) (uf_ BK519 NB519_578.out) hb); replace BK570 := Aside0.mk (blk_below (g := gb570) (o := .cells #[.slice Ao128 t566.length co128] 31 (0, 0)) (uf_ BK570 NB570_578.out) hb); replace BK578 := Aside0.mk (blk_below (g := gb578) (o := .cells #[.slice Ao135 t571.length co135] 31 (0, 0)) (up_ BK578) hb); replace HB := nc5_ GE509 GE514 GE519 GE570 GE578 hb; (try clear hb); (try clear hb2); (try clear hk); (try clear hi); (try clear ho0); (try clear ho1)) | ((with_reducible refine gate_dst (N := 28) rfl ?_); (try (refine gate_guard (by rfl) ?_; dsimp only)); refine bq_ (N := 28) #[.slice none 0 0] 31 ?_; intro gb586 hg w143 BK586 hb; replace HO_510000 := rB_ HO_510000 hb; replace HO_515000 := rB_ HO_515000 hb; replace HO_520000 := rB_ HO_520000 hb; replace HO568 := rB_ HO568 hb; replace HO573 := rB_ HO573 hb; replace HO576 := sB_ HO576 hb; replace HO581 := rB_ HO581 hb; replace HO584 := sB_ HO584 hb; have GE586 := ge5_ hg GE509 GE514 GE519 GE570 GE578; replace HB := nc5_ GE509 GE514 GE519 GE570 GE578 hb; have NB509_586 := nl_ BK509 hg; have NB586_509 := ng_ BK509 hg; replace BK509 := bK_ BK509 hb; have NB514_586 := nl_ BK514 hg; have NB586_514 := ng_ BK514 hg; replace BK514 := bK_ BK514 hb; have NB519_586 := nl_ BK519 hg; have NB586_519 := ng_ BK519 hg; replace BK519 := bK_ BK519 hb; have NB570_586 := nl_ BK570 hg; have NB586_570 := ng_ BK570 hg; replace BK570 := bK_ BK570 hb; have NB578_586 := nl_ BK578 hg; have NB586_578 := ng_ BK578 hg; replace BK578 := bK_ BK578 hb; clear hb hg; obtain ⟨Ao144, co144, eo144⟩ := Kd.R_slice HO581.out; subst eo144; have hnb145 := NB586_509.out; have hnc145 := NB509_586.out; have hnb146 := NB586_514.out; have hnc146 := NB514_586.out; have hnb147 := NB586_519.out; have hnc147 := NB519_586.out; have hnb148 := NB586_570.out; have hnc148 := NB570_586.out; have hnb149 := NB586_578.out; have hnc149 := NB578_586.out; obtain ⟨hcz150_0, hfz150_0⟩ := cf1_ BK586.out; obtain ⟨hcz151_0, hfz151_0⟩ := cf1_ BK570.out) | ((with_reducible refine gate_callee (f := 11) rfl ?_); refine gl_ 208 Try.func11 #[.agg #[.slice Ao128 t566.length co128], .int .i64 t569] rfl ma_ ?_; (with_reducible refine (impl_SurvivesIn.calls kj12 _ _ t566 t569 t587 t590 _ ?side1 ?side2 A117.out).mono ?_); (case side1 => refine (Kd.R_reads' (e := 56) (base := w.heap.size) (ok := fun k_ => (((((True ∧ some k_ ≠ (.slice Ao16 t503.length co16 : Value).ownBlock) ∧ some k_ ≠ (.slice Ao21 t510.length co21 : Value).ownBlock) ∧ some k_ ≠ (.slice Ao27 t515.length co27 : Value).ownBlock) ∧ some k_ ≠ (.slice Ao135 t571.length co135 : Value).ownBlock) ∧ some k_ ≠ (.slice Ao144 t579.length co144 : Value).ownBlock)) (n := t566.length) (c := co128) ?_).2.2; exact (rF_ (Kd.R_mono (Kd.R_far (p := ⟨gb586, 0, none⟩) (Kd.R_types HO568.out BK586.out (by decide)) (fun _ hk => hk.2) (.slice Ao144 t579.length co144)) (fun _ h_ => h_.1)))); (case side2 => exact (Kd.R_reads' HO568.out).2.1); rintro e w152 ⟨v588, rfl, ho0, hb⟩; refine ⟨_, rfl, ?_⟩; replace HO_510000 := Aside0.mk (Kd.R_below (rF_ (Kd.R_mono (Kd.R_far (p := ⟨gb586, 0, none⟩) (Kd.R_types HO_510000.out BK586.out (by decide)) (fun _ hk => hk.2) (.slice Ao144 t579.length co144)) (fun _ h_ => h_.1))) hb); replace HO_515000 := Aside0.mk (Kd.R_below (rF_ (Kd.R_mono (Kd.R_far (p := ⟨gb586, 0, none⟩) (Kd.R_types HO_515000.out BK586.out (by decide)) (fun _ hk => hk.2) (.slice Ao144 t579.length co144)) (fun _ h_ => h_.1))) hb); replace HO_520000 := Aside0.mk (Kd.R_below (rF_ (Kd.R_mono (Kd.R_far (p := ⟨gb586, 0, none⟩) (Kd.R_types HO_520000.out BK586.out (by decide)) (fun _ hk => hk.2) (.slice Ao144 t579.length co144)) (fun _ h_ => h_.1))) hb); replace HO568 := Aside0.mk (Kd.R_below (rF_ (Kd.R_mono (Kd.R_far (p := ⟨gb586, 0, none⟩) (Kd.R_types HO568.out BK586.out (by decide)) (fun _ hk => hk.2) (.slice Ao144 t579.length co144)) (fun _ h_ => h_.1))) hb); replace HO573 := Aside0.mk (Kd.R_below (rF_ (Kd.R_mono (Kd.R_far (p := ⟨gb586, 0, none⟩) (Kd.R_types HO573.out BK586.out (by decide)) (fun _ hk => hk.2) (.slice Ao144 t579.length co144)) (fun _ h_ => h_.1))) hb); replace HO581 := Aside0.mk (Kd.R_below (rF_ (Kd.R_mono (Kd.R_far (p := ⟨gb586, 0, none⟩) (Kd.R_types HO581.out BK586.out (by decide)) (fun _ hk => hk.2) (.slice Ao144 t579.length co144)) (fun _ h_ => h_.1))) hb); have HO589 := Aside0.mk (Kd.S_lower (Kd.S_new' (Kd.S_new' ho0 (Kd.S_lt (sF_ (Kd.S_mono (Kd.S_far (p := ⟨gb586, 0, none⟩) (Kd.S_types HO576.out BK586.out (by decide)) (fun _ hk => hk.2) (.slice Ao144 t579.length co144)) (fun _ h_ => h_.1))))) (Kd.S_lt (sF_ (Kd.S_mono (Kd.S_far (p := ⟨gb586, 0, none⟩) (Kd.S_types HO584.out BK586.out (by decide)) (fun _ hk => hk.2) (.slice Ao144 t579.length co144)) (fun _ h_ => h_.1))))) (below_size (hs6_ GE509.out GE514.out GE519.out GE570.out GE578.out GE586.out))); replace HO576 := Aside0.mk (Kd.S_elder' (sF_ (Kd.S_mono (Kd.S_far (p := ⟨gb586, 0, none⟩) (Kd.S_types HO576.out BK586.out (by decide)) (fun _ hk => hk.2) (.slice Ao144 t579.length co144)) (fun _ h_ => h_.1))) (Kd.S_base ho0) hb); replace HO584 := Aside0.mk (Kd.S_elder' (sF_ (Kd.S_mono (Kd.S_far (p := ⟨gb586, 0, none⟩) (Kd.S_types HO584.out BK586.out (by decide)) (fun _ hk => hk.2) (.slice Ao144 t579.length co144)) (fun _ h_ => h_.1))) (Kd.S_base ho0) hb); replace BK509 := Aside0.mk (blk_below (g := gb509) (o := .cells #[.slice Ao16 t503.length co16] 31 (0, 0)) (uf_ BK509 NB509_586.out) hb); replace BK514 := Aside0.mk (blk_below (g := gb514) (o := .cells #[.slice Ao21 t510.length co21] 31 (0, 0)) (uf_ BK514 NB514_586.out) hb); replace BK519 := Aside0.mk (blk_below (g := gb519) (o := .cells #[.slice Ao27 t515.length co27] 31 (0, 0)) (uf_ BK519 NB519_586.out) hb); replace BK570 := Aside0.mk (blk_below (g := gb570) (o := .cells #[.slice Ao128 t566.length co128] 31 (0, 0)) (uf_ BK570 NB570_586.out) hb); replace BK578 := Aside0.mk (blk_below (g := gb578) (o := .cells #[.slice Ao135 t571.length co135] 31 (0, 0)) (uf_ BK578 NB578_586.out) hb); replace BK586 := Aside0.mk (blk_below (g := gb586) (o := .cells #[.slice Ao144 t579.length co144] 31 (0, 0)) (up_ BK586) hb); replace HB := nc6_ GE509 GE514 GE519 GE570 GE578 GE586 hb; (try clear hb); (try clear hb2); (try clear hk); (try clear hi); (try clear ho0); obtain ⟨hcz153_0, hfz153_0⟩ := cf1_ BK570.out) | ((with_reducible refine gate_callee (f := 9) rfl ?_); refine gl_ 214 Try.func9 #[.agg #[.slice Ao128 t566.length co128], .int .i64 t569] rfl ma_ ?_; (with_reducible refine (spec_SurvivesIn.calls kj12 _ _ t566 t569 t591 t594 _ ?side1 ?side2 A118.out).mono ?_); (case side1 => exact cs_ ((Kd.R_reads' HO568.out).2.2)); (case side2 => exact (Kd.R_reads' HO568.out).2.1); rintro e w154 ⟨v592, rfl, ho0, hb⟩; refine ⟨_, rfl, ?_⟩; replace HO_510000 := rB_ HO_510000 hb; replace HO_515000 := rB_ HO_515000 hb; replace HO_520000 := rB_ HO_520000 hb; replace HO568 := rB_ HO568 hb; replace HO573 := rB_ HO573 hb; replace HO581 := rB_ HO581 hb; have HO593 := Aside0.mk (Kd.S_lower (Kd.S_new' (Kd.S_new' (Kd.S_new' ho0 (Kd.S_lt (ks_ HO576.out))) (Kd.S_lt (ks_ HO584.out))) (Kd.S_lt (ks_ HO589.out))) (below_size (hs6_ GE509.out GE514.out GE519.out GE570.out GE578.out GE586.out))); replace HO576 := Aside0.mk (Kd.S_elder' (ks_ HO576.out) (Kd.S_base ho0) hb); replace HO584 := Aside0.mk (Kd.S_elder' (ks_ HO584.out) (Kd.S_base ho0) hb); replace HO589 := Aside0.mk (Kd.S_elder' (ks_ HO589.out) (Kd.S_base ho0) hb); replace BK509 := bK_ BK509 hb; replace BK514 := bK_ BK514 hb; replace BK519 := bK_ BK519 hb; replace BK570 := bK_ BK570 hb; replace BK578 := bK_ BK578 hb; replace BK586 := bK_ BK586 hb; replace HB := nc6_ GE509 GE514 GE519 GE570 GE578 GE586 hb; (try clear hb); (try clear hb2); (try clear hk); (try clear hi); (try clear ho0); obtain ⟨hcz155_0, hfz155_0⟩ := cf1_ BK578.out; obtain ⟨hcz156_0, hfz156_0⟩ := cf1_ BK586.out) | (go_at_call 27; (with_reducible refine (laws_sameDisks.calls kj12 _ _ t571 _ _ t579 true _ ?side1 ?side2 ?side3 ?side4 A120.out).mono ?_); (case side1 => exact cs_ ((Kd.R_reads' HO573.out).2.2)); (case side2 => exact (Kd.R_reads' HO573.out).2.1); (case side3 => exact cs_ ((Kd.R_reads' HO581.out).2.2)); (case side4 => exact (Kd.R_reads' HO581.out).2.1); rintro e w157 ⟨rfl, hb⟩; replace HO_510000 := rB_ HO_510000 hb; replace HO_515000 := rB_ HO_515000 hb; replace HO_520000 := rB_ HO_520000 hb; replace HO568 := rB_ HO568 hb; replace HO573 := rB_ HO573 hb; replace HO576 := sB_ HO576 hb; replace HO581 := rB_ HO581 hb; replace HO584 := sB_ HO584 hb; replace HO589 := sB_ HO589 hb; replace HO593 := sB_ HO593 hb; replace BK509 := bK_ BK509 hb; replace BK514 := bK_ BK514 hb; replace BK519 := bK_ BK519 hb; replace BK570 := bK_ BK570 hb; replace BK578 := bK_ BK578 hb; replace BK586 := bK_ BK586 hb; replace HB := nc6_ GE509 GE514 GE519 GE570 GE578 GE586 hb; (try clear hb); (try clear hb2); (try clear hk); (try clear hi); obtain ⟨Ao158, co158, eo158⟩ := Kd.S_slice HO576.out; subst eo158; obtain ⟨Ao159, co159, eo159⟩ := Kd.S_slice HO584.out; subst eo159) | (go_at_call 46; (with_reducible refine (laws_sameBatches.calls kj12 _ _ t574 _ _ t582 true _ ?side1 ?side2 ?side3 ?side4 A122.out).mono ?_); (case side1 => exact cs_ ((Kd.S_reads' HO576.out).2.2)); (case side2 => exact (Kd.S_reads' HO576.out).2.1); (case side3 => exact cs_ ((Kd.S_reads' HO584.out).2.2)); (case side4 => exact (Kd.S_reads' HO584.out).2.1); rintro e w160 ⟨rfl, hb⟩; replace HO_510000 := rB_ HO_510000 hb; replace HO_515000 := rB_ HO_515000 hb; replace HO_520000 := rB_ HO_520000 hb; replace HO568 := rB_ HO568 hb; replace HO573 := rB_ HO573 hb; replace HO576 := sB_ HO576 hb; replace HO581 := rB_ HO581 hb; replace HO584 := sB_ HO584 hb; replace HO589 := sB_ HO589 hb; replace HO593 := sB_ HO593 hb; replace BK509 := bK_ BK509 hb; replace BK514 := bK_ BK514 hb; replace BK519 := bK_ BK519 hb; replace BK570 := bK_ BK570 hb; replace BK578 := bK_ BK578 hb; replace BK586 := bK_ BK586 hb; replace HB := nc6_ GE509 GE514 GE519 GE570 GE578 GE586 hb; (try clear hb); (try clear hb2); (try clear hk); (try clear hi); obtain ⟨Ao161, co161, eo161⟩ := Kd.S_slice HO589.out; subst eo161; obtain ⟨Ao162, co162, eo162⟩ := Kd.S_slice HO593.out; subst eo162) | (go_at_call 46; (with_reducible refine (laws_sameBatches.calls kj12 _ _ t587 _ _ t591 t597 _ ?side1 ?side2 ?side3 ?side4 A125.out).mono ?_); (case side1 => exact cs_ ((Kd.S_reads' HO589.out).2.2)); (case side2 => exact (Kd.S_reads' HO589.out).2.1); (case side3 => exact cs_ ((Kd.S_reads' HO593.out).2.2)); (case side4 => exact (Kd.S_reads' HO593.out).2.1); rintro e w163 ⟨rfl, hb⟩; replace HO_510000 := rB_ HO_510000 hb; replace HO_515000 := rB_ HO_515000 hb; replace HO_520000 := rB_ HO_520000 hb; replace HO568 := rB_ HO568 hb; replace HO573 := rB_ HO573 hb; replace HO576 := sB_ HO576 hb; replace HO581 := rB_ HO581 hb; replace HO584 := sB_ HO584 hb; replace HO589 := sB_ HO589 hb; replace HO593 := sB_ HO593 hb; replace BK509 := bK_ BK509 hb; replace BK514 := bK_ BK514 hb; replace BK519 := bK_ BK519 hb; replace BK570 := bK_ BK570 hb; replace BK578 := bK_ BK578 hb; replace BK586 := bK_ BK586 hb; replace HB := nc6_ GE509 GE514 GE519 GE570 GE578 GE586 hb; (try clear hb); (try clear hb2); (try clear hk); (try clear hi)))
   go_ret
   exact ⟨er_, hs6_ GE509.out GE514.out GE519.out GE570.out GE578.out GE586.out⟩

/-- The one pure statement of laws_FnTorn. -/
def laws_FnTorn.Pure : Prop := ∀ (l0 : List Int) (l1 : List Int), (l0.length ≤ maxLen ∧ ∀ x0 ∈ l0, (Lit.int .u8 x0).wf = true) → (l1.length ≤ maxLen ∧ ∀ x0 ∈ l1, (Lit.int .u8 x0).wf = true) → ∃ k, laws_FnTorn.f k l0 l1 = some true
end Go.Proofs.Ytpdpipfkllfhmaa.QFnTorn
