/- Functions that one statement reaches: of each a plain function, and the proof that calls come to it. Conditions: those that each contract names. Written by a program of this repository. -/
import Derived.Test.YtpdpipfkllfhmaaVFnDisksa
import Derived.Test.YtpdpipfkllfhmaaQFnDisksx3
import Derived.Test.YtpdpipfkllfhmaaQFnDisksx11
import Derived.Test.YtpdpipfkllfhmaaQFnDisksx13
import Derived.Test.YtpdpipfkllfhmaaQFnDisksx14
namespace Go.Proofs.Ytpdpipfkllfhmaa.QFnDisks
open Go.RowKit Go.Proofs.YtpdpipfkllfhmaaW.PrintWords Go.Proofs.YtpdpipfkllfhmaaW.PrintLast Go.Proofs.YtpdpipfkllfhmaaW.PrintMore
attribute [local go_sem] max2_int min2_int max_two min_two max_three min_three max_four min_four Go.Proofs.YtpdpipfkllfhmaaW.PrintMore2.isSome_setCell   -- for this text's walks alone
set_option linter.unusedVariables false
set_option linter.unusedSimpArgs false

/-! ### spec_DrawWriteBatch: function 26 -/
def spec_DrawWriteBatch.m (k : Nat) (s0_0 : List Int) (s0_1 : Int) (s0_2 : Int) : Option ((List (S56)) × Int × Int × Int × Int × Int × List ByteArray × Int × Int) := (spec_l1Cur_disk.f k s0_0 s0_1 s0_2).bind fun bt434 => ((spec_l1Cur_batch.f k s0_0 bt434.2.1 bt434.2.2).bind fun bt440 => (if 0 < (bt434.1.length : Int) then ((spec_l1Read.f k ((rd_T56 bt434.1 0).f0)).bind fun bt451 => (if (bt451.1.length : Int) > 0 then ((spec_l1Cur_one.f s0_0 bt440.2.2.2.2.2.1 bt440.2.2.2.2.2.2 2).bind fun bt455 => (if bt455.1 = true then (if 0 ≤ (wrap64 ((bt451.1.length : Int) - 1)) then (if (wrap64 ((bt451.1.length : Int) - 1)) < (bt451.1.length : Int) then (some (bt434.1, 0, wrap64 (((rd_T44 bt451.1 (wrap64 ((bt451.1.length : Int) - 1))).f0) + (((rd_T44 bt451.1 (wrap64 ((bt451.1.length : Int) - 1))).f4).length : Int)), 2, bt440.2.2.1, bt440.2.2.2.1, bt440.2.2.2.2.1, bt455.2.1, bt455.2.2)) else (none)) else (none)) else (some (bt434.1, 0, bt440.1, bt440.2.1, bt440.2.2.1, bt440.2.2.2.1, bt440.2.2.2.2.1, bt455.2.1, bt455.2.2)))) else (some (bt434.1, 0, bt440.1, bt440.2.1, bt440.2.2.1, bt440.2.2.2.1, bt440.2.2.2.2.1, bt440.2.2.2.2.2.1, bt440.2.2.2.2.2.2)))) else (none)))
theorem spec_DrawWriteBatch.mono_m : ∀ a0 a1 a2 k, LeO (spec_DrawWriteBatch.m k a0 a1 a2) (spec_DrawWriteBatch.m (k + 1) a0 a1 a2) := by
 intro a0 a1 a2 k
 unfold spec_DrawWriteBatch.m
 repeat' first
   | (with_reducible first | apply spec_l1Cur_batch.mono | apply spec_l1Cur_disk.mono | apply spec_l1Read.mono | exact LeO.refl _ | exact LeO.none _ | refine LeO.ite ?_ ?_ | refine LeO.bind ?_ (fun _ => ?_))
def spec_DrawWriteBatch.T6 : Bool × List (List Nat × List Nat) := (true, [([], []), ([], []), ([1], [1]), ([2], [2]), ([0, 3], [0, 3]), ([4], [4]), ([5], [5]), ([], []), ([], []), ([8], [8]), ([9], [9]), ([7, 10], [7, 10]), ([11], [11]), ([12], [12]), ([13], [13]), ([6, 14], [6, 14]), ([0, 1, 2, 3, 4, 5, 6, 7, 8, 9, 10, 11, 12, 13, 14, 15], []), ([16, 15, 0, 1, 2, 3, 4, 5, 6, 7, 8, 9, 10, 11, 12, 13, 14, 15], [15, 16])])
def spec_DrawWriteBatch.B6 : List Nat := [0, 0, 2, 6, 15, 31, 63, 0, 0, 256, 768, 1920, 3968, 8064, 16256, 32767, 65535, 131071]
theorem spec_DrawWriteBatch.tab6 : rtab .any (opsOf Try.f26 6) = spec_DrawWriteBatch.T6 := by kernel_rfl
theorem spec_DrawWriteBatch.bits6 : waitsOk spec_DrawWriteBatch.T6.2 spec_DrawWriteBatch.B6 = true := by kernel_rfl
def spec_DrawWriteBatch.f (k : Nat) (l0 : List Int) : Option ((List (S56)) × Int × Int × Int × Int × Int × List ByteArray) := (spec_DrawWriteBatch.m k l0 0 0).bind fun b => some (b.1, b.2.1, b.2.2.1, b.2.2.2.1, b.2.2.2.2.1, b.2.2.2.2.2.1, b.2.2.2.2.2.2.1)
theorem spec_DrawWriteBatch.mono : ∀ a0 k, LeO (spec_DrawWriteBatch.f k a0) (spec_DrawWriteBatch.f (k + 1) a0) := fun a0 k => LeO.bind (spec_DrawWriteBatch.mono_m _ _ _ _) (fun _ => LeO.refl _)
set_option maxHeartbeats 8000000 in
set_option maxRecDepth 100000 in
theorem spec_DrawWriteBatch.calls (k : Nat) (A0 : Option Addr) (c0 : Nat) (l0 : List Int) (r1 : List (S56)) (r2 : Int) (r3 : Int) (r4 : Int) (r5 : Int) (r6 : Int) (r7 : List ByteArray) (w : World) (hr0 : Kd.C (Kd.int .u8) w A0 l0.length l0) (_hc0 : l0.length ≤ c0) (h : spec_DrawWriteBatch.f k l0 = some (r1, r2, r3, r4, r5, r6, r7)) :
  Calls Try.prog 26 #[.slice A0 l0.length c0] w fun e w' => ∃ v0_ v6_ : Value, e = .returned (.tuple #[.agg #[v0_], .int .i64 r2, .agg #[.int .i64 r3, .int .i64 r4, .int .i64 r5, .int .i64 r6, v6_]]) ∧ Kd.R k56 56 w' w.heap.size (fun _ => True) v0_ r1 ∧ Kd.R Kd.string 9 w' w.heap.size (fun _ => True) v6_ r7 ∧ Below w.heap.size w w' := by
 have hu_92 := Try.underlying92
 have HR0_ := Aside0.mk hr0
 clear hr0
 obtain ⟨⟨q0_, q1_, q2_, q3_, q4_, q5_, q6_, q7_, q8_⟩, h_, e_⟩ := Option.bind_eq_some_iff.1 h
 clear h
 have e_ := Option.some.inj e_
 simp only [Prod.mk.injEq] at e_
 obtain ⟨e0_, e1_, e2_, e3_, e4_, e5_, e6_⟩ := e_
 obtain rfl := e0_.symm
 obtain rfl := e1_.symm
 obtain rfl := e2_.symm
 obtain rfl := e3_.symm
 obtain rfl := e4_.symm
 obtain rfl := e5_.symm
 obtain rfl := e6_.symm
 have h := h_
 clear h_
 have hu31 := Try.underlying31
 have hu44 := Try.underlying44
 have H : ((spec_l1Cur_disk.f k l0 0 0).bind fun qC => ((spec_l1Cur_batch.f k l0 qC.2.1 qC.2.2).bind fun yB => (if 0 < (qC.1.length : Int) then ((spec_l1Read.f k ((rd_T56 qC.1 0).f0)).bind fun mC => (if (mC.1.length : Int) > 0 then ((spec_l1Cur_one.f l0 yB.2.2.2.2.2.1 yB.2.2.2.2.2.2 2).bind fun wC => (if wC.1 = true then (if 0 ≤ (wrap64 ((mC.1.length : Int) - 1)) then (if (wrap64 ((mC.1.length : Int) - 1)) < (mC.1.length : Int) then (some (qC.1, 0, wrap64 (((rd_T44 mC.1 (wrap64 ((mC.1.length : Int) - 1))).f0) + (((rd_T44 mC.1 (wrap64 ((mC.1.length : Int) - 1))).f4).length : Int)), 2, yB.2.2.1, yB.2.2.2.1, yB.2.2.2.2.1, wC.2.1, wC.2.2)) else (none)) else (none)) else (some (qC.1, 0, yB.1, yB.2.1, yB.2.2.1, yB.2.2.2.1, yB.2.2.2.2.1, wC.2.1, wC.2.2)))) else (some (qC.1, 0, yB.1, yB.2.1, yB.2.2.1, yB.2.2.2.1, yB.2.2.2.2.1, yB.2.2.2.2.2.1, yB.2.2.2.2.2.2)))) else (none)))) = some (r1, r2, r3, r4, r5, r6, r7, q7_, q8_) := h
 clear h
 replace H := bnd_ H
 obtain ⟨⟨jB, iC, jC⟩, A2, H⟩ := H
 replace H := red_ H
 replace H := bnd_ H
 obtain ⟨⟨tB, vB, sB, wB, uB, bC, cC⟩, A3, H⟩ := H
 replace H := red_ H
 replace H := ifs_ H
 obtain ⟨c4, H⟩ := H
 have zI := decide_eq_true c4
 have aJ : decide (0 < jB.length) = true := decide_eq_true (by omega)
 clear c4
 replace H := bnd_ H
 obtain ⟨⟨xA, aE⟩, A5, H⟩ := H
 replace H := red_ H
 replace H := ite_ H
 obtain ⟨c6, H⟩ | ⟨c6, H⟩ := H
 rotate_left
 ·have qG := dgf_ c6
  have rG : decide (0 < xA.length) = false := decide_eq_false (by omega)
  clear c6
  simp only [Option.some.injEq, Prod.mk.injEq] at H
  obtain ⟨rfl, rfl, rfl, rfl, rfl, rfl, rfl, rfl, rfl⟩ := H
  go_enter Try.func26, Try.ntmps26
  have dD := Aside0.mk (Nat.le_refl w.heap.size)
  have HB := Aside0.mk (Below.refl w.heap.size w)
  go_upto_region 2 with (first | ((with_reducible refine gate_dst (N := 2) rfl ?_); (try (refine gate_guard (by rfl) ?_; dsimp only)); refine be_ (N := 2) #[.slice none 0 0] 31 ?_; intro oA hg w432_ hbox hb; have eA := Aside0.mk hbox; have tA := Aside0.mk (show w.heap.size ≤ oA from by rw [hg]; exact HB.out.size); have hB := tA; replace HB := Aside0.mk (below_step HB.out hb); clear hbox hb hg) | ((with_reducible refine gate_dst (N := 4) rfl ?_); (try (refine gate_guard (by rfl) ?_; dsimp only)); refine be_ (N := 4) #[.int .i64 0, .int .i64 0, .int .i64 0, .int .i64 0, .slice none 0 0] 44 ?_; intro bA hg w433_ hbox hb; have dA := Aside0.mk hbox; have wA := Aside0.mk (show w.heap.size ≤ bA from by rw [hg]; exact HB.out.size); have mB := wA; have fA := Aside0.mk (show oA ≠ bA from by rw [hg]; exact Nat.ne_of_lt (blk_lt eA.out)); have qA := Aside0.mk (Ne.symm fA.out); replace eA := Aside0.mk (blk_below eA.out hb); replace HB := Aside0.mk (below_step HB.out hb); clear hbox hb hg) | ((with_reducible refine gate_dst (N := 12) rfl ?_); (try (refine gate_guard (by rfl) ?_; dsimp only)); refine be_ (N := 12) #[.slice A0 l0.length c0, .int .i64 0, .int .u64 0] 92 ?_; intro g hg wg_ hbox hb; have HI0 : Aside0 (IsS92 w wg_ g l0 0 0) := ⟨⟨A0, c0, hbox, by rw [hg]; exact HB.out.size, HR0_.out⟩⟩; have gA := Aside0.mk (show g ≠ oA from by rw [hg]; exact Nat.ne_of_gt (blk_lt eA.out)); have pB := Aside0.mk (Ne.symm gA.out); replace eA := Aside0.mk (blk_below eA.out hb); have iA := Aside0.mk (show g ≠ bA from by rw [hg]; exact Nat.ne_of_gt (blk_lt dA.out)); have qB := Aside0.mk (Ne.symm iA.out); replace dA := Aside0.mk (blk_below dA.out hb); replace HB := Aside0.mk (below_step HB.out hb); have HK := Aside0.mk (KeepBut.of_below HB.out g none); have HL := Aside0.mk HB.out.size; clear hbox hb hg))
  try go_wp2_with (first | ((with_reducible refine gate_dst (N := 2) rfl ?_); refine bq_ (N := 2) #[.slice none 0 0] 31 ?_; intro oA hg oJ eA hb; replace HB := Aside0.mk (below_step (hs_ (IsS92.ge HI0.out)) hb); have tA := Aside0.mk ((by rw [hg]; exact (keep_size (w := w) (g := g) (row := none) (kp0_)) : w.heap.size ≤ oA)); have hB := Aside0.mk ((Nat.le_trans dD.out (by rw [hg]; exact (keep_size (w := w) (g := g) (row := none) (kp0_)) : w.heap.size ≤ oA) : w.heap.size ≤ oA)); replace HK := Aside0.mk (KeepBut.trans (kp0_) (KeepBut.of_below hb g none) (.inl rfl)); have gA := Aside0.mk ((by rw [hg]; exact Nat.ne_of_lt (IsS92.lt (show IsS92 w _ g l0 0 0 from iS92_0_)) : g ≠ oA)); have pB := Aside0.mk ((by rw [hg]; exact Nat.ne_of_gt (IsS92.lt (show IsS92 w _ g l0 0 0 from iS92_0_)) : oA ≠ g)); replace HI0 := Aside0.mk (IsS92.below (iS92_0_) hb); clear hb hg) | ((with_reducible refine gate_dst (N := 4) rfl ?_); refine bq_ (N := 4) #[.int .i64 0, .int .i64 0, .int .i64 0, .int .i64 0, .slice none 0 0] 44 ?_; intro bA hg pJ dA hb; replace HB := Aside0.mk (below_step (hs2_ (IsS92.ge HI0.out) hB.out) hb); have wA := Aside0.mk ((by rw [hg]; exact (keep_size (w := w) (g := g) (row := none) (kp1_ tA.out)) : w.heap.size ≤ bA)); have mB := Aside0.mk ((Nat.le_trans dD.out (by rw [hg]; exact (keep_size (w := w) (g := g) (row := none) (kp1_ tA.out)) : w.heap.size ≤ bA) : w.heap.size ≤ bA)); replace HK := Aside0.mk (KeepBut.trans (kp1_ tA.out) (KeepBut.of_below hb g none) (.inl rfl)); have fA := nl_ eA hg; have qA := ng_ eA hg; replace eA := bK_ eA hb; have iA := Aside0.mk ((by rw [hg]; exact Nat.ne_of_lt (IsS92.lt (show IsS92 w _ g l0 0 0 from iS92_1_ gA.out)) : g ≠ bA)); have qB := Aside0.mk ((by rw [hg]; exact Nat.ne_of_gt (IsS92.lt (show IsS92 w _ g l0 0 0 from iS92_1_ gA.out)) : bA ≠ g)); replace HI0 := Aside0.mk (IsS92.below (iS92_1_ gA.out) hb); clear hb hg) | ((with_reducible refine gate_callee (f := 70) rfl ?_); refine gl_ 14 Try.func70 #[.pointer (some ⟨g, 0, none⟩)] rfl ma_ ?_; (with_reducible refine (spec_l1Cur_disk.calls k g l0 0 0 jB iC jC w _ ?side1 ?side2 A2.out).mono ?_); (case side1 => exact iS92_2_ gA.out iA.out); (case side2 => exact hs3_ (IsS92.ge HI0.out) hB.out mB.out); rintro e qJ ⟨eE, rfl, nC, hi, hb, hk⟩; refine ⟨_, rfl, ?_⟩; replace eA := Aside0.mk (KeepBut.blk hk (g' := oA) (o := .cells #[.slice none 0 0] 31 (0, 0)) (kb_ eA.out) pB.out (by simp)); replace dA := Aside0.mk (KeepBut.blk hk (g' := bA) (o := .cells #[.int .i64 0, .int .i64 0, .int .i64 0, .int .i64 0, .slice none 0 0] 44 (0, 0)) (kb_ dA.out) qB.out (by simp)); have lA := Aside0.mk (Kd.R_lower nC (keep_size (w := w) (g := g) (row := none) (kp2_ tA.out wA.out))); replace HK := Aside0.mk (KeepBut.trans (kp2_ tA.out wA.out) hk (.inl rfl)); replace HB := Aside0.mk (hb); replace HI0 := Aside0.mk (hi); (try clear hb); (try clear hb2); (try clear hk); (try clear hi); (try clear nC)) | ((with_reducible refine gate_dst (N := 6) rfl ?_); refine bq_ (N := 6) #[.slice none 0 0] 31 ?_; intro fB hg rJ sA hb; replace lA := rB_ lA hb; replace HB := Aside0.mk (below_step (hs3_ (IsS92.ge HI0.out) hB.out mB.out) hb); have nB := Aside0.mk ((by rw [hg]; exact (keep_size (w := w) (g := g) (row := none) (kp2_ tA.out wA.out)) : w.heap.size ≤ fB)); have zB := Aside0.mk ((Nat.le_trans dD.out (by rw [hg]; exact (keep_size (w := w) (g := g) (row := none) (kp2_ tA.out wA.out)) : w.heap.size ≤ fB) : w.heap.size ≤ fB)); replace HK := Aside0.mk (KeepBut.trans (kp2_ tA.out wA.out) (KeepBut.of_below hb g none) (.inl rfl)); have kB := nl_ eA hg; have lB := ng_ eA hg; replace eA := bK_ eA hb; have uA := nl_ dA hg; have hA := ng_ dA hg; replace dA := bK_ dA hb; have vA := Aside0.mk ((by rw [hg]; exact Nat.ne_of_lt (IsS92.lt (show IsS92 w _ g l0 iC jC from iS92_2_ gA.out iA.out)) : g ≠ fB)); have xB := Aside0.mk ((by rw [hg]; exact Nat.ne_of_gt (IsS92.lt (show IsS92 w _ g l0 iC jC from iS92_2_ gA.out iA.out)) : fB ≠ g)); replace HI0 := Aside0.mk (IsS92.below (iS92_2_ gA.out iA.out) hb); clear hb hg; obtain ⟨fE, aD, sG⟩ := Kd.R_slice lA.out; subst sG; have fH := lB.out; have gH := kB.out; have hH := hA.out; have iH := uA.out; have jH := xB.out; have kH := vA.out; obtain ⟨lE, mE⟩ := cf1_ sA.out) | ((with_reducible refine gate_callee (f := 71) rfl ?_); refine gl_ 16 Try.func71 #[.pointer (some ⟨g, 0, none⟩)] rfl ma_ ?_; (with_reducible refine (spec_l1Cur_batch.calls k g l0 iC jC tB vB sB wB uB bC cC w _ ?side1 ?side2 A3.out).mono ?_); (case side1 => exact iS92_3_ gA.out iA.out vA.out); (case side2 => exact hs4_ (IsS92.ge HI0.out) hB.out mB.out zB.out); rintro e sJ ⟨gE, rfl, nC, hi, hb, hk⟩; refine ⟨_, rfl, ?_⟩; replace eA := Aside0.mk (KeepBut.blk hk (g' := oA) (o := .cells #[.slice none 0 0] 31 (0, 0)) (uf_ eA kB.out) pB.out (by simp)); replace dA := Aside0.mk (KeepBut.blk hk (g' := bA) (o := .cells #[.int .i64 0, .int .i64 0, .int .i64 0, .int .i64 0, .slice none 0 0] 44 (0, 0)) (uf_ dA uA.out) qB.out (by simp)); replace lA := Aside0.mk (Kd.R_mono (Kd.R_keep (IsS92.apart (show IsS92 w _ g l0 iC jC from iS92_3_ gA.out iA.out vA.out) (rF_ (Kd.R_mono (Kd.R_far (p := ⟨fB, 0, none⟩) (Kd.R_types lA.out sA.out (by decide)) (fun _ hk => hk.2) (.slice fE jB.length aD)) (fun _ h_ => h_.1))) (by decide)) hk (fun _ h => h.2)) (fun _ h => h.1)); replace sA := Aside0.mk (KeepBut.blk hk (g' := fB) (o := .cells #[.slice fE jB.length aD] 31 (0, 0)) (up_ sA) xB.out (by simp)); have yA := Aside0.mk (Kd.R_lower nC (keep_size (w := w) (g := g) (row := none) (kp3_ tA.out wA.out nB.out))); replace HK := Aside0.mk (KeepBut.trans (kp3_ tA.out wA.out nB.out) hk (.inl rfl)); replace HB := Aside0.mk (hb); replace HI0 := Aside0.mk (hi); (try clear hb); (try clear hb2); (try clear hk); (try clear hi); (try clear nC)) | ((with_reducible refine gate_dst (N := 7) rfl ?_); refine bq_ (N := 7) #[.int .i64 0, .int .i64 0, .int .i64 0, .int .i64 0, .slice none 0 0] 44 ?_; intro cA hg bJ jA hb; replace lA := rB_ lA hb; replace yA := rB_ yA hb; replace HB := Aside0.mk (below_step (hs4_ (IsS92.ge HI0.out) hB.out mB.out zB.out) hb); have gC := Aside0.mk ((by rw [hg]; exact (keep_size (w := w) (g := g) (row := none) (kp3_ tA.out wA.out nB.out)) : w.heap.size ≤ cA)); have hC := Aside0.mk ((Nat.le_trans dD.out (by rw [hg]; exact (keep_size (w := w) (g := g) (row := none) (kp3_ tA.out wA.out nB.out)) : w.heap.size ≤ cA) : w.heap.size ≤ cA)); replace HK := Aside0.mk (KeepBut.trans (kp3_ tA.out wA.out nB.out) (KeepBut.of_below hb g none) (.inl rfl)); have gB := nl_ eA hg; have rA := ng_ eA hg; replace eA := bK_ eA hb; have pA := nl_ dA hg; have aA := ng_ dA hg; replace dA := bK_ dA hb; have oB := nl_ sA hg; have aC := ng_ sA hg; replace sA := bK_ sA hb; have iB := Aside0.mk ((by rw [hg]; exact Nat.ne_of_lt (IsS92.lt (show IsS92 w _ g l0 bC cC from iS92_3_ gA.out iA.out vA.out)) : g ≠ cA)); have dC := Aside0.mk ((by rw [hg]; exact Nat.ne_of_gt (IsS92.lt (show IsS92 w _ g l0 bC cC from iS92_3_ gA.out iA.out vA.out)) : cA ≠ g)); replace HI0 := Aside0.mk (IsS92.below (iS92_3_ gA.out iA.out vA.out) hb); clear hb hg; have lH := rA.out; have mH := gB.out; have nH := aA.out; have oH := pA.out; have pH := aC.out; have qH := oB.out; have rH := dC.out; have sH := iB.out; obtain ⟨nE, oE, pE, qE, rE, sE, tE, uE, vE, wE⟩ := cf5_ jA.out; obtain ⟨bD, cD, tG⟩ := Kd.R_slice yA.out; subst tG; obtain ⟨xE, yE⟩ := cf1_ sA.out; have rC : 0 ≤ (0 : Int) := (by omega); have sC : 0 < (jB.length : Int) := oa_; obtain ⟨eB, rD, mA, nA⟩ := at_T56 (Kd.R_reads' lA.out).2.2 0 rC sC; cases rD; have qi450 : (0 < jB.length) = True := eq_true (by omega); (try rw [show ((0 : Int)).toNat = 0 from rfl] at mA); (try rw [show 0 * 2 = 0 from rfl] at mA); (try rw [Addr.add_zero'] at mA); (try rw [show ((0 : Int)).toNat = 0 from rfl] at nA); (try rw [show 0 * 2 = 0 from rfl] at nA); (try rw [Addr.add_zero'] at nA); have zA : eB.block ≠ cA := Kd.own_blk (Kd.R_ne lA.out jA.out (by decide)); have aB : eB.block ≠ cA := Kd.own_blk (Kd.R_ne lA.out jA.out (by decide)); have bB : eB.block ≠ cA := Kd.own_blk (Kd.R_ne lA.out jA.out (by decide)); have cB : eB.block ≠ cA := Kd.own_blk (Kd.R_ne lA.out jA.out (by decide)); have dB : eB.block ≠ cA := Kd.own_blk (Kd.R_ne lA.out jA.out (by decide)); replace mA := (cell_far (p := ⟨cA, 0, none⟩) (by first | (rw [add_block]; exact zA) | (show (Addr.add _ _).block ≠ _; rw [add_block]; exact zA) | exact zA) (.int .i64 tB)).trans mA; replace nA := (cell_far (p := ⟨cA, 0, none⟩) (by first | (rw [add_block]; exact zA) | (show (Addr.add _ _).block ≠ _; rw [add_block]; exact zA) | exact zA) (.int .i64 tB)).trans nA; replace mA := (cell_far (p := ⟨cA, 1, none⟩) (by first | (rw [add_block]; exact aB) | (show (Addr.add _ _).block ≠ _; rw [add_block]; exact aB) | exact aB) (.int .i64 vB)).trans mA; replace nA := (cell_far (p := ⟨cA, 1, none⟩) (by first | (rw [add_block]; exact aB) | (show (Addr.add _ _).block ≠ _; rw [add_block]; exact aB) | exact aB) (.int .i64 vB)).trans nA; replace mA := (cell_far (p := ⟨cA, 2, none⟩) (by first | (rw [add_block]; exact bB) | (show (Addr.add _ _).block ≠ _; rw [add_block]; exact bB) | exact bB) (.int .i64 sB)).trans mA; replace nA := (cell_far (p := ⟨cA, 2, none⟩) (by first | (rw [add_block]; exact bB) | (show (Addr.add _ _).block ≠ _; rw [add_block]; exact bB) | exact bB) (.int .i64 sB)).trans nA; replace mA := (cell_far (p := ⟨cA, 3, none⟩) (by first | (rw [add_block]; exact cB) | (show (Addr.add _ _).block ≠ _; rw [add_block]; exact cB) | exact cB) (.int .i64 wB)).trans mA; replace nA := (cell_far (p := ⟨cA, 3, none⟩) (by first | (rw [add_block]; exact cB) | (show (Addr.add _ _).block ≠ _; rw [add_block]; exact cB) | exact cB) (.int .i64 wB)).trans nA; replace mA := (cell_far (p := ⟨cA, 4, none⟩) (by first | (rw [add_block]; exact dB) | (show (Addr.add _ _).block ≠ _; rw [add_block]; exact dB) | exact dB) (.slice bD uB.length cD)).trans mA; replace nA := (cell_far (p := ⟨cA, 4, none⟩) (by first | (rw [add_block]; exact dB) | (show (Addr.add _ _).block ≠ _; rw [add_block]; exact dB) | exact dB) (.slice bD uB.length cD)).trans nA; clear zA; clear aB; clear bB; clear cB; clear dB; replace rC := eq_true rC; replace sC := eq_true sC) | ((with_reducible refine gate_callee (f := 50) rfl ?_); refine gl_ 23 Try.func50 #[.string ((rd_T56 jB 0).f0)] rfl ma_ ?_; (with_reducible refine (spec_l1Read.calls k ((rd_T56 jB 0).f0) xA aE _ A5.out).mono ?_); rintro e cJ ⟨hE, rfl, nC, hb⟩; refine ⟨_, rfl, ?_⟩; replace lA := Aside0.mk (Kd.R_below ((Kd.R_mono (rF_ (Kd.R_types lA.out jA.out (by decide))) (fun _ h_ => h_.1))) hb); have kA := Aside0.mk (Kd.S_lower (Kd.S_newB (Kd.S_newB (Kd.S_new' nC (Kd.R_lt ((Kd.R_mono (rF_ (Kd.R_types yA.out jA.out (by decide))) (fun _ h_ => h_.1))))) (g := bA) (o := .cells #[.int .i64 0, .int .i64 0, .int .i64 0, .int .i64 0, .slice none 0 0] 44 (0, 0)) (uf_ dA pA.out)) (g := cA) (o := .cells #[.int .i64 tB, .int .i64 vB, .int .i64 sB, .int .i64 wB, .slice bD uB.length cD] 44 (0, 0)) (up_ jA)) (keep_size (w := w) (g := g) (row := none) (kp4_ tA.out wA.out nB.out gC.out))); replace yA := Aside0.mk (Kd.R_below ((Kd.R_mono (rF_ (Kd.R_types yA.out jA.out (by decide))) (fun _ h_ => h_.1))) hb); replace eA := Aside0.mk (blk_below (g := oA) (o := .cells #[.slice none 0 0] 31 (0, 0)) (uf_ eA gB.out) hb); replace dA := Aside0.mk (blk_below (g := bA) (o := .cells #[.int .i64 0, .int .i64 0, .int .i64 0, .int .i64 0, .slice none 0 0] 44 (0, 0)) (uf_ dA pA.out) hb); replace sA := Aside0.mk (blk_below (g := fB) (o := .cells #[.slice (some eB) jB.length aD] 31 (0, 0)) (uf_ sA oB.out) hb); replace jA := Aside0.mk (blk_below (g := cA) (o := .cells #[.int .i64 tB, .int .i64 vB, .int .i64 sB, .int .i64 wB, .slice bD uB.length cD] 44 (0, 0)) (up_ jA) hb); replace HK := Aside0.mk (KeepBut.trans (kp4_ tA.out wA.out nB.out gC.out) (KeepBut.of_below hb g none) (.inl rfl)); replace HB := Aside0.mk (below_step (hs5_ (IsS92.ge HI0.out) hB.out mB.out zB.out hC.out) hb); replace HI0 := Aside0.mk (IsS92.below (show IsS92 w (((((bJ.setCell ⟨cA, 0, none⟩ (.int .i64 tB)).setCell ⟨cA, 1, none⟩ (.int .i64 vB)).setCell ⟨cA, 2, none⟩ (.int .i64 sB)).setCell ⟨cA, 3, none⟩ (.int .i64 wB)).setCell ⟨cA, 4, none⟩ (.slice bD uB.length cD)) g l0 bC cC from iS92_4_ gA.out iA.out vA.out iB.out) hb); (try clear hb); (try clear hb2); (try clear hk); (try clear hi); (try clear nC); obtain ⟨dJ, eJ, uG⟩ := Kd.S_slice kA.out; subst uG))
  replace lA := qR_ lA
  replace yA := qR_ yA
  replace kA := Aside0.mk (Kd.S_drew kA.out)
  replace eA := qK_ eA
  replace dA := qK_ dA
  replace sA := qK_ sA
  replace jA := qK_ jA
  replace HI0 := Aside0.mk (IsS92.drew HI0.out)
  replace HK := Aside0.mk (keep_drew HK.out)
  replace HB := qH_ HB
  refine start_ (n := 5) (S := fun w' => w'.cell? ⟨fB, 0, none⟩ = some (.slice (some eB) jB.length aD) ∧ w'.cell? ⟨cA, 0, none⟩ = some (.int .i64 tB) ∧ w'.cell? ⟨cA, 1, none⟩ = some (.int .i64 vB) ∧ w'.cell? ⟨cA, 2, none⟩ = some (.int .i64 sB) ∧ w'.cell? ⟨cA, 3, none⟩ = some (.int .i64 wB) ∧ w'.cell? ⟨cA, 4, none⟩ = some (.slice bD uB.length cD)) (ds := []) #[false, false, false, false, false] (by kernel_rfl) rfl rfl ⟨bt_ sA 0, bt_ jA 0, bt_ jA 1, bt_ jA 2, bt_ jA 3, bt_ jA 4⟩ (fun hHeld => ?_)
  generalize cJ.drew = zE at lA yA kA eA dA sA jA HI0 HK HB hHeld ⊢
  refine take_ (i := 0) (N := some 51) (v := ?_) (a' := ?_) #[true, false, false, false, false] rfl rfl (by kernel_rfl) (fun _ _ _ h => h) (Or.inl ⟨by rfl, ?_⟩) hHeld ?_ ?_
  rotate_left
  ·rintro w' ⟨s0, s1, s2, s3, s4, s5⟩
   go_simp
   with_reducible rfl
  rotate_left
  ·simp only [Act.put, List.setIfInBounds_toArray, List.set_cons_zero, List.set_cons_succ, i64_w, i32_w]
   rfl
  refine take_ (i := 1) (N := some 52) (v := ?_) (a' := ?_) #[true, true, false, false, false] rfl rfl (by kernel_rfl) (fun _ _ _ h => h) (Or.inl ⟨by rfl, ?_⟩) hHeld ?_ ?_
  rotate_left
  ·rintro w' ⟨s0, s1, s2, s3, s4, s5⟩
   go_simp
   with_reducible rfl
  rotate_left
  ·simp only [Act.put, List.setIfInBounds_toArray, List.set_cons_zero, List.set_cons_succ, i64_w, i32_w]
   rfl
  refine one_ (i := 2) (N := none) #[true, true, true, false, false] rfl rfl (by kernel_rfl) (by decide) (fun K hK => ?_)
  obtain ⟨hs93, hfs93⟩ := cf1_ eA.out
  have hns93_1 := qA.out
  have hns93_2 := lB.out
  have hns93_3 := rA.out
  have hms93_1 := fA.out
  have hms93_2 := kB.out
  have hms93_3 := gB.out
  refine skip_ (w1 := ?_) (by rfl) rfl ?_ ?_
  rotate_left
  ·go_simp
   rfl
  refine hK.out _ _ ⟨((cell_far (p := ⟨oA, _, none⟩) lB.out _).trans (hHeld.1)), ((cell_far (p := ⟨oA, _, none⟩) rA.out _).trans (hHeld.2.1)), ((cell_far (p := ⟨oA, _, none⟩) rA.out _).trans (hHeld.2.2.1)), ((cell_far (p := ⟨oA, _, none⟩) rA.out _).trans (hHeld.2.2.2.1)), ((cell_far (p := ⟨oA, _, none⟩) rA.out _).trans (hHeld.2.2.2.2.1)), ((cell_far (p := ⟨oA, _, none⟩) rA.out _).trans (hHeld.2.2.2.2.2))⟩ (fun hHeld => ?_)
  clear hK K
  refine pure_ (i := 3) (N := some 3) (v := ?_) (a' := ?_) #[true, true, true, true, false] rfl rfl (by kernel_rfl) (fun _ _ _ h => h) (Or.inl ⟨by rfl, ?_⟩) ?_ ?_
  rotate_left
  ·intro w'
   go_simp
   with_reducible rfl
  rotate_left
  ·simp only [Act.put, List.setIfInBounds_toArray, List.set_cons_zero, List.set_cons_succ, i64_w, i32_w]
   rfl
  refine one_ (i := 4) (N := none) #[true, true, true, true, true] rfl rfl (by kernel_rfl) (by decide) (fun K hK => ?_)
  obtain ⟨hs94, hfs94⟩ := cf1_ dA.out
  have hns94_0 := fA.out
  have hns94_2 := hA.out
  have hns94_3 := aA.out
  have hms94_0 := qA.out
  have hms94_2 := uA.out
  have hms94_3 := pA.out
  have hs95 : zE.cell? ⟨bA, 1, none⟩ = some (.int .i64 0) := bt_ dA 1
  have hfs95 := blk_frozen dA.out 1
  have hns95_0 := fA.out
  have hns95_2 := hA.out
  have hns95_3 := aA.out
  have hms95_0 := qA.out
  have hms95_2 := uA.out
  have hms95_3 := pA.out
  have hs96 : zE.cell? ⟨bA, 2, none⟩ = some (.int .i64 0) := bt_ dA 2
  have hfs96 := blk_frozen dA.out 2
  have hns96_0 := fA.out
  have hns96_2 := hA.out
  have hns96_3 := aA.out
  have hms96_0 := qA.out
  have hms96_2 := uA.out
  have hms96_3 := pA.out
  have hs97 : zE.cell? ⟨bA, 3, none⟩ = some (.int .i64 0) := bt_ dA 3
  have hfs97 := blk_frozen dA.out 3
  have hns97_0 := fA.out
  have hns97_2 := hA.out
  have hns97_3 := aA.out
  have hms97_0 := qA.out
  have hms97_2 := uA.out
  have hms97_3 := pA.out
  have hs98 : zE.cell? ⟨bA, 4, none⟩ = some (.slice none 0 0) := bt_ dA 4
  have hfs98 := blk_frozen dA.out 4
  have hns98_0 := fA.out
  have hns98_2 := hA.out
  have hns98_3 := aA.out
  have hms98_0 := qA.out
  have hms98_2 := uA.out
  have hms98_3 := pA.out
  refine skip_ (w1 := ?_) (by rfl) rfl ?_ ?_
  rotate_left
  ·go_simp
   rfl
  refine hK.out _ _ ⟨((cell_far (p := ⟨bA, _, none⟩) hA.out _).trans (((cell_far (p := ⟨bA, _, none⟩) hA.out _).trans (((cell_far (p := ⟨bA, _, none⟩) hA.out _).trans (((cell_far (p := ⟨bA, _, none⟩) hA.out _).trans (((cell_far (p := ⟨bA, _, none⟩) hA.out _).trans (hHeld.1)))))))))), ((cell_far (p := ⟨bA, _, none⟩) aA.out _).trans (((cell_far (p := ⟨bA, _, none⟩) aA.out _).trans (((cell_far (p := ⟨bA, _, none⟩) aA.out _).trans (((cell_far (p := ⟨bA, _, none⟩) aA.out _).trans (((cell_far (p := ⟨bA, _, none⟩) aA.out _).trans (hHeld.2.1)))))))))), ((cell_far (p := ⟨bA, _, none⟩) aA.out _).trans (((cell_far (p := ⟨bA, _, none⟩) aA.out _).trans (((cell_far (p := ⟨bA, _, none⟩) aA.out _).trans (((cell_far (p := ⟨bA, _, none⟩) aA.out _).trans (((cell_far (p := ⟨bA, _, none⟩) aA.out _).trans (hHeld.2.2.1)))))))))), ((cell_far (p := ⟨bA, _, none⟩) aA.out _).trans (((cell_far (p := ⟨bA, _, none⟩) aA.out _).trans (((cell_far (p := ⟨bA, _, none⟩) aA.out _).trans (((cell_far (p := ⟨bA, _, none⟩) aA.out _).trans (((cell_far (p := ⟨bA, _, none⟩) aA.out _).trans (hHeld.2.2.2.1)))))))))), ((cell_far (p := ⟨bA, _, none⟩) aA.out _).trans (((cell_far (p := ⟨bA, _, none⟩) aA.out _).trans (((cell_far (p := ⟨bA, _, none⟩) aA.out _).trans (((cell_far (p := ⟨bA, _, none⟩) aA.out _).trans (((cell_far (p := ⟨bA, _, none⟩) aA.out _).trans (hHeld.2.2.2.2.1)))))))))), ((cell_far (p := ⟨bA, _, none⟩) aA.out _).trans (((cell_far (p := ⟨bA, _, none⟩) aA.out _).trans (((cell_far (p := ⟨bA, _, none⟩) aA.out _).trans (((cell_far (p := ⟨bA, _, none⟩) aA.out _).trans (((cell_far (p := ⟨bA, _, none⟩) aA.out _).trans (hHeld.2.2.2.2.2))))))))))⟩ (fun hHeld => ?_)
  clear hK K
  refine done_ (by kernel_rfl) ?_
  try go_wp2
  refine bodyPost_ret (results_list (rs := [.cell 2 31, .tmp 3, .cell 4 44]) rfl (by simp) (.cell oA 31 #[.slice (some eB) jB.length aD] (0, 0) _ rfl (by (with_reducible repeat (first | refine blk_drewN ?_ _ | refine blk_drew ?_ | refine blk_alloc ?_ _)); refine blk_far ?_ fA.out _; (with_reducible repeat (first | refine blk_drewN ?_ _ | refine blk_drew ?_ | refine blk_alloc ?_ _)); refine blk_far ?_ fA.out _; (with_reducible repeat (first | refine blk_drewN ?_ _ | refine blk_drew ?_ | refine blk_alloc ?_ _)); refine blk_far ?_ fA.out _; (with_reducible repeat (first | refine blk_drewN ?_ _ | refine blk_drew ?_ | refine blk_alloc ?_ _)); refine blk_far ?_ fA.out _; (with_reducible repeat (first | refine blk_drewN ?_ _ | refine blk_drew ?_ | refine blk_alloc ?_ _)); refine blk_far ?_ fA.out _; (with_reducible repeat (first | refine blk_drewN ?_ _ | refine blk_drew ?_ | refine blk_alloc ?_ _)); refine blk_put (cs := #[.slice none 0 0]) ?_ 0 _ rfl; (with_reducible repeat (first | refine blk_drewN ?_ _ | refine blk_drew ?_ | refine blk_alloc ?_ _)); exact eA.out) Try.underlying31 rfl (by kernel_rfl) (.tmp (.cell bA 44 #[.int .i64 tB, .int .i64 vB, .int .i64 sB, .int .i64 wB, .slice bD uB.length cD] (0, 0) _ rfl (by (with_reducible repeat (first | refine blk_drewN ?_ _ | refine blk_drew ?_ | refine blk_alloc ?_ _)); refine blk_put (cs := #[.int .i64 tB, .int .i64 vB, .int .i64 sB, .int .i64 wB, .slice none 0 0]) ?_ 4 _ rfl; (with_reducible repeat (first | refine blk_drewN ?_ _ | refine blk_drew ?_ | refine blk_alloc ?_ _)); refine blk_put (cs := #[.int .i64 tB, .int .i64 vB, .int .i64 sB, .int .i64 0, .slice none 0 0]) ?_ 3 _ rfl; (with_reducible repeat (first | refine blk_drewN ?_ _ | refine blk_drew ?_ | refine blk_alloc ?_ _)); refine blk_put (cs := #[.int .i64 tB, .int .i64 vB, .int .i64 0, .int .i64 0, .slice none 0 0]) ?_ 2 _ rfl; (with_reducible repeat (first | refine blk_drewN ?_ _ | refine blk_drew ?_ | refine blk_alloc ?_ _)); refine blk_put (cs := #[.int .i64 tB, .int .i64 0, .int .i64 0, .int .i64 0, .slice none 0 0]) ?_ 1 _ rfl; (with_reducible repeat (first | refine blk_drewN ?_ _ | refine blk_drew ?_ | refine blk_alloc ?_ _)); refine blk_put (cs := #[.int .i64 0, .int .i64 0, .int .i64 0, .int .i64 0, .slice none 0 0]) ?_ 0 _ rfl; (with_reducible repeat (first | refine blk_drewN ?_ _ | refine blk_drew ?_ | refine blk_alloc ?_ _)); refine blk_far ?_ qA.out _; (with_reducible repeat (first | refine blk_drewN ?_ _ | refine blk_drew ?_ | refine blk_alloc ?_ _)); exact dA.out) Try.underlying44 rfl (by kernel_rfl) .nil)))) rfl ?_
  exact ⟨_, _, er_, Kd.R_mono (rF_ (Kd.R_far (p := ⟨oA, 0, none⟩) (Kd.R_types (Kd.R_types lA.out eA.out (by decide)) dA.out (by decide)) (fun _ hk => hk.1.2) (.slice (some eB) jB.length aD))) (fun _ hk => trivial), Kd.R_mono (rF_ (Kd.R_far (p := ⟨oA, 0, none⟩) (Kd.R_types (Kd.R_types yA.out eA.out (by decide)) dA.out (by decide)) (fun _ hk => hk.1.2) (.slice (some eB) jB.length aD))) (fun _ hk => trivial), hs5_ (IsS92.ge HI0.out) hB.out mB.out zB.out hC.out⟩
 have qG := dgt_ c6
 have rG : decide (0 < xA.length) = true := decide_eq_true (by omega)
 clear c6
 replace H := bnd_ H
 obtain ⟨⟨fJ, bE, cE⟩, A7, H⟩ := H
 replace H := red_ H
 replace H := ifb_ H
 obtain ⟨rfl, H⟩ | ⟨rfl, H⟩ := H
 rotate_left
 ·simp only [Option.some.injEq, Prod.mk.injEq] at H
  obtain ⟨rfl, rfl, rfl, rfl, rfl, rfl, rfl, rfl, rfl⟩ := H
  go_enter Try.func26, Try.ntmps26
  have dD := Aside0.mk (Nat.le_refl w.heap.size)
  have HB := Aside0.mk (Below.refl w.heap.size w)
  go_upto_region 2 with (first | ((with_reducible refine gate_dst (N := 2) rfl ?_); (try (refine gate_guard (by rfl) ?_; dsimp only)); refine be_ (N := 2) #[.slice none 0 0] 31 ?_; intro oA hg w432_ hbox hb; have eA := Aside0.mk hbox; have tA := Aside0.mk (show w.heap.size ≤ oA from by rw [hg]; exact HB.out.size); have hB := tA; replace HB := Aside0.mk (below_step HB.out hb); clear hbox hb hg) | ((with_reducible refine gate_dst (N := 4) rfl ?_); (try (refine gate_guard (by rfl) ?_; dsimp only)); refine be_ (N := 4) #[.int .i64 0, .int .i64 0, .int .i64 0, .int .i64 0, .slice none 0 0] 44 ?_; intro bA hg w433_ hbox hb; have dA := Aside0.mk hbox; have wA := Aside0.mk (show w.heap.size ≤ bA from by rw [hg]; exact HB.out.size); have mB := wA; have fA := Aside0.mk (show oA ≠ bA from by rw [hg]; exact Nat.ne_of_lt (blk_lt eA.out)); have qA := Aside0.mk (Ne.symm fA.out); replace eA := Aside0.mk (blk_below eA.out hb); replace HB := Aside0.mk (below_step HB.out hb); clear hbox hb hg) | ((with_reducible refine gate_dst (N := 12) rfl ?_); (try (refine gate_guard (by rfl) ?_; dsimp only)); refine be_ (N := 12) #[.slice A0 l0.length c0, .int .i64 0, .int .u64 0] 92 ?_; intro g hg wg_ hbox hb; have HI0 : Aside0 (IsS92 w wg_ g l0 0 0) := ⟨⟨A0, c0, hbox, by rw [hg]; exact HB.out.size, HR0_.out⟩⟩; have gA := Aside0.mk (show g ≠ oA from by rw [hg]; exact Nat.ne_of_gt (blk_lt eA.out)); have pB := Aside0.mk (Ne.symm gA.out); replace eA := Aside0.mk (blk_below eA.out hb); have iA := Aside0.mk (show g ≠ bA from by rw [hg]; exact Nat.ne_of_gt (blk_lt dA.out)); have qB := Aside0.mk (Ne.symm iA.out); replace dA := Aside0.mk (blk_below dA.out hb); replace HB := Aside0.mk (below_step HB.out hb); have HK := Aside0.mk (KeepBut.of_below HB.out g none); have HL := Aside0.mk HB.out.size; clear hbox hb hg))
  try go_wp2_with (first | ((with_reducible refine gate_dst (N := 2) rfl ?_); refine bq_ (N := 2) #[.slice none 0 0] 31 ?_; intro oA hg tJ eA hb; replace HB := Aside0.mk (below_step (hs_ (IsS92.ge HI0.out)) hb); have tA := Aside0.mk ((by rw [hg]; exact (keep_size (w := w) (g := g) (row := none) (kp0_)) : w.heap.size ≤ oA)); have hB := Aside0.mk ((Nat.le_trans dD.out (by rw [hg]; exact (keep_size (w := w) (g := g) (row := none) (kp0_)) : w.heap.size ≤ oA) : w.heap.size ≤ oA)); replace HK := Aside0.mk (KeepBut.trans (kp0_) (KeepBut.of_below hb g none) (.inl rfl)); have gA := Aside0.mk ((by rw [hg]; exact Nat.ne_of_lt (IsS92.lt (show IsS92 w _ g l0 0 0 from iS92_0_)) : g ≠ oA)); have pB := Aside0.mk ((by rw [hg]; exact Nat.ne_of_gt (IsS92.lt (show IsS92 w _ g l0 0 0 from iS92_0_)) : oA ≠ g)); replace HI0 := Aside0.mk (IsS92.below (iS92_0_) hb); clear hb hg) | ((with_reducible refine gate_dst (N := 4) rfl ?_); refine bq_ (N := 4) #[.int .i64 0, .int .i64 0, .int .i64 0, .int .i64 0, .slice none 0 0] 44 ?_; intro bA hg uJ dA hb; replace HB := Aside0.mk (below_step (hs2_ (IsS92.ge HI0.out) hB.out) hb); have wA := Aside0.mk ((by rw [hg]; exact (keep_size (w := w) (g := g) (row := none) (kp1_ tA.out)) : w.heap.size ≤ bA)); have mB := Aside0.mk ((Nat.le_trans dD.out (by rw [hg]; exact (keep_size (w := w) (g := g) (row := none) (kp1_ tA.out)) : w.heap.size ≤ bA) : w.heap.size ≤ bA)); replace HK := Aside0.mk (KeepBut.trans (kp1_ tA.out) (KeepBut.of_below hb g none) (.inl rfl)); have fA := nl_ eA hg; have qA := ng_ eA hg; replace eA := bK_ eA hb; have iA := Aside0.mk ((by rw [hg]; exact Nat.ne_of_lt (IsS92.lt (show IsS92 w _ g l0 0 0 from iS92_1_ gA.out)) : g ≠ bA)); have qB := Aside0.mk ((by rw [hg]; exact Nat.ne_of_gt (IsS92.lt (show IsS92 w _ g l0 0 0 from iS92_1_ gA.out)) : bA ≠ g)); replace HI0 := Aside0.mk (IsS92.below (iS92_1_ gA.out) hb); clear hb hg) | ((with_reducible refine gate_callee (f := 70) rfl ?_); refine gl_ 14 Try.func70 #[.pointer (some ⟨g, 0, none⟩)] rfl ma_ ?_; (with_reducible refine (spec_l1Cur_disk.calls k g l0 0 0 jB iC jC w _ ?side1 ?side2 A2.out).mono ?_); (case side1 => exact iS92_2_ gA.out iA.out); (case side2 => exact hs3_ (IsS92.ge HI0.out) hB.out mB.out); rintro e vJ ⟨eE, rfl, nC, hi, hb, hk⟩; refine ⟨_, rfl, ?_⟩; replace eA := Aside0.mk (KeepBut.blk hk (g' := oA) (o := .cells #[.slice none 0 0] 31 (0, 0)) (kb_ eA.out) pB.out (by simp)); replace dA := Aside0.mk (KeepBut.blk hk (g' := bA) (o := .cells #[.int .i64 0, .int .i64 0, .int .i64 0, .int .i64 0, .slice none 0 0] 44 (0, 0)) (kb_ dA.out) qB.out (by simp)); have lA := Aside0.mk (Kd.R_lower nC (keep_size (w := w) (g := g) (row := none) (kp2_ tA.out wA.out))); replace HK := Aside0.mk (KeepBut.trans (kp2_ tA.out wA.out) hk (.inl rfl)); replace HB := Aside0.mk (hb); replace HI0 := Aside0.mk (hi); (try clear hb); (try clear hb2); (try clear hk); (try clear hi); (try clear nC)) | ((with_reducible refine gate_dst (N := 6) rfl ?_); refine bq_ (N := 6) #[.slice none 0 0] 31 ?_; intro fB hg wJ sA hb; replace lA := rB_ lA hb; replace HB := Aside0.mk (below_step (hs3_ (IsS92.ge HI0.out) hB.out mB.out) hb); have nB := Aside0.mk ((by rw [hg]; exact (keep_size (w := w) (g := g) (row := none) (kp2_ tA.out wA.out)) : w.heap.size ≤ fB)); have zB := Aside0.mk ((Nat.le_trans dD.out (by rw [hg]; exact (keep_size (w := w) (g := g) (row := none) (kp2_ tA.out wA.out)) : w.heap.size ≤ fB) : w.heap.size ≤ fB)); replace HK := Aside0.mk (KeepBut.trans (kp2_ tA.out wA.out) (KeepBut.of_below hb g none) (.inl rfl)); have kB := nl_ eA hg; have lB := ng_ eA hg; replace eA := bK_ eA hb; have uA := nl_ dA hg; have hA := ng_ dA hg; replace dA := bK_ dA hb; have vA := Aside0.mk ((by rw [hg]; exact Nat.ne_of_lt (IsS92.lt (show IsS92 w _ g l0 iC jC from iS92_2_ gA.out iA.out)) : g ≠ fB)); have xB := Aside0.mk ((by rw [hg]; exact Nat.ne_of_gt (IsS92.lt (show IsS92 w _ g l0 iC jC from iS92_2_ gA.out iA.out)) : fB ≠ g)); replace HI0 := Aside0.mk (IsS92.below (iS92_2_ gA.out iA.out) hb); clear hb hg; obtain ⟨iE, xC, vG⟩ := Kd.R_slice lA.out; subst vG; have tH := lB.out; have uH := kB.out; have vH := hA.out; have wH := uA.out; have xH := xB.out; have yH := vA.out; obtain ⟨aF, bF⟩ := cf1_ sA.out) | ((with_reducible refine gate_callee (f := 71) rfl ?_); refine gl_ 16 Try.func71 #[.pointer (some ⟨g, 0, none⟩)] rfl ma_ ?_; (with_reducible refine (spec_l1Cur_batch.calls k g l0 iC jC tB vB sB wB uB bC cC w _ ?side1 ?side2 A3.out).mono ?_); (case side1 => exact iS92_3_ gA.out iA.out vA.out); (case side2 => exact hs4_ (IsS92.ge HI0.out) hB.out mB.out zB.out); rintro e xJ ⟨gE, rfl, nC, hi, hb, hk⟩; refine ⟨_, rfl, ?_⟩; replace eA := Aside0.mk (KeepBut.blk hk (g' := oA) (o := .cells #[.slice none 0 0] 31 (0, 0)) (uf_ eA kB.out) pB.out (by simp)); replace dA := Aside0.mk (KeepBut.blk hk (g' := bA) (o := .cells #[.int .i64 0, .int .i64 0, .int .i64 0, .int .i64 0, .slice none 0 0] 44 (0, 0)) (uf_ dA uA.out) qB.out (by simp)); replace lA := Aside0.mk (Kd.R_mono (Kd.R_keep (IsS92.apart (show IsS92 w _ g l0 iC jC from iS92_3_ gA.out iA.out vA.out) (rF_ (Kd.R_mono (Kd.R_far (p := ⟨fB, 0, none⟩) (Kd.R_types lA.out sA.out (by decide)) (fun _ hk => hk.2) (.slice iE jB.length xC)) (fun _ h_ => h_.1))) (by decide)) hk (fun _ h => h.2)) (fun _ h => h.1)); replace sA := Aside0.mk (KeepBut.blk hk (g' := fB) (o := .cells #[.slice iE jB.length xC] 31 (0, 0)) (up_ sA) xB.out (by simp)); have yA := Aside0.mk (Kd.R_lower nC (keep_size (w := w) (g := g) (row := none) (kp3_ tA.out wA.out nB.out))); replace HK := Aside0.mk (KeepBut.trans (kp3_ tA.out wA.out nB.out) hk (.inl rfl)); replace HB := Aside0.mk (hb); replace HI0 := Aside0.mk (hi); (try clear hb); (try clear hb2); (try clear hk); (try clear hi); (try clear nC)) | ((with_reducible refine gate_dst (N := 7) rfl ?_); refine bq_ (N := 7) #[.int .i64 0, .int .i64 0, .int .i64 0, .int .i64 0, .slice none 0 0] 44 ?_; intro cA hg gJ jA hb; replace lA := rB_ lA hb; replace yA := rB_ yA hb; replace HB := Aside0.mk (below_step (hs4_ (IsS92.ge HI0.out) hB.out mB.out zB.out) hb); have gC := Aside0.mk ((by rw [hg]; exact (keep_size (w := w) (g := g) (row := none) (kp3_ tA.out wA.out nB.out)) : w.heap.size ≤ cA)); have hC := Aside0.mk ((Nat.le_trans dD.out (by rw [hg]; exact (keep_size (w := w) (g := g) (row := none) (kp3_ tA.out wA.out nB.out)) : w.heap.size ≤ cA) : w.heap.size ≤ cA)); replace HK := Aside0.mk (KeepBut.trans (kp3_ tA.out wA.out nB.out) (KeepBut.of_below hb g none) (.inl rfl)); have gB := nl_ eA hg; have rA := ng_ eA hg; replace eA := bK_ eA hb; have pA := nl_ dA hg; have aA := ng_ dA hg; replace dA := bK_ dA hb; have oB := nl_ sA hg; have aC := ng_ sA hg; replace sA := bK_ sA hb; have iB := Aside0.mk ((by rw [hg]; exact Nat.ne_of_lt (IsS92.lt (show IsS92 w _ g l0 bC cC from iS92_3_ gA.out iA.out vA.out)) : g ≠ cA)); have dC := Aside0.mk ((by rw [hg]; exact Nat.ne_of_gt (IsS92.lt (show IsS92 w _ g l0 bC cC from iS92_3_ gA.out iA.out vA.out)) : cA ≠ g)); replace HI0 := Aside0.mk (IsS92.below (iS92_3_ gA.out iA.out vA.out) hb); clear hb hg; have zH := rA.out; have aI := gB.out; have bI := aA.out; have cI := pA.out; have dI := aC.out; have eI := oB.out; have fI := dC.out; have gI := iB.out; obtain ⟨cF, dF, eF, fF, gF, hF, iF, jF, kF, lF⟩ := cf5_ jA.out; obtain ⟨yC, zC, wG⟩ := Kd.R_slice yA.out; subst wG; obtain ⟨mF, nF⟩ := cf1_ sA.out; have rC : 0 ≤ (0 : Int) := (by omega); have sC : 0 < (jB.length : Int) := oa_; obtain ⟨eB, rD, mA, nA⟩ := at_T56 (Kd.R_reads' lA.out).2.2 0 rC sC; cases rD; have qi450 : (0 < jB.length) = True := eq_true (by omega); (try rw [show ((0 : Int)).toNat = 0 from rfl] at mA); (try rw [show 0 * 2 = 0 from rfl] at mA); (try rw [Addr.add_zero'] at mA); (try rw [show ((0 : Int)).toNat = 0 from rfl] at nA); (try rw [show 0 * 2 = 0 from rfl] at nA); (try rw [Addr.add_zero'] at nA); have zA : eB.block ≠ cA := Kd.own_blk (Kd.R_ne lA.out jA.out (by decide)); have aB : eB.block ≠ cA := Kd.own_blk (Kd.R_ne lA.out jA.out (by decide)); have bB : eB.block ≠ cA := Kd.own_blk (Kd.R_ne lA.out jA.out (by decide)); have cB : eB.block ≠ cA := Kd.own_blk (Kd.R_ne lA.out jA.out (by decide)); have dB : eB.block ≠ cA := Kd.own_blk (Kd.R_ne lA.out jA.out (by decide)); replace mA := (cell_far (p := ⟨cA, 0, none⟩) (by first | (rw [add_block]; exact zA) | (show (Addr.add _ _).block ≠ _; rw [add_block]; exact zA) | exact zA) (.int .i64 tB)).trans mA; replace nA := (cell_far (p := ⟨cA, 0, none⟩) (by first | (rw [add_block]; exact zA) | (show (Addr.add _ _).block ≠ _; rw [add_block]; exact zA) | exact zA) (.int .i64 tB)).trans nA; replace mA := (cell_far (p := ⟨cA, 1, none⟩) (by first | (rw [add_block]; exact aB) | (show (Addr.add _ _).block ≠ _; rw [add_block]; exact aB) | exact aB) (.int .i64 vB)).trans mA; replace nA := (cell_far (p := ⟨cA, 1, none⟩) (by first | (rw [add_block]; exact aB) | (show (Addr.add _ _).block ≠ _; rw [add_block]; exact aB) | exact aB) (.int .i64 vB)).trans nA; replace mA := (cell_far (p := ⟨cA, 2, none⟩) (by first | (rw [add_block]; exact bB) | (show (Addr.add _ _).block ≠ _; rw [add_block]; exact bB) | exact bB) (.int .i64 sB)).trans mA; replace nA := (cell_far (p := ⟨cA, 2, none⟩) (by first | (rw [add_block]; exact bB) | (show (Addr.add _ _).block ≠ _; rw [add_block]; exact bB) | exact bB) (.int .i64 sB)).trans nA; replace mA := (cell_far (p := ⟨cA, 3, none⟩) (by first | (rw [add_block]; exact cB) | (show (Addr.add _ _).block ≠ _; rw [add_block]; exact cB) | exact cB) (.int .i64 wB)).trans mA; replace nA := (cell_far (p := ⟨cA, 3, none⟩) (by first | (rw [add_block]; exact cB) | (show (Addr.add _ _).block ≠ _; rw [add_block]; exact cB) | exact cB) (.int .i64 wB)).trans nA; replace mA := (cell_far (p := ⟨cA, 4, none⟩) (by first | (rw [add_block]; exact dB) | (show (Addr.add _ _).block ≠ _; rw [add_block]; exact dB) | exact dB) (.slice yC uB.length zC)).trans mA; replace nA := (cell_far (p := ⟨cA, 4, none⟩) (by first | (rw [add_block]; exact dB) | (show (Addr.add _ _).block ≠ _; rw [add_block]; exact dB) | exact dB) (.slice yC uB.length zC)).trans nA; clear zA; clear aB; clear bB; clear cB; clear dB; replace rC := eq_true rC; replace sC := eq_true sC) | ((with_reducible refine gate_callee (f := 50) rfl ?_); refine gl_ 23 Try.func50 #[.string ((rd_T56 jB 0).f0)] rfl ma_ ?_; (with_reducible refine (spec_l1Read.calls k ((rd_T56 jB 0).f0) xA aE _ A5.out).mono ?_); rintro e yJ ⟨hE, rfl, nC, hb⟩; refine ⟨_, rfl, ?_⟩; replace lA := Aside0.mk (Kd.R_below ((Kd.R_mono (rF_ (Kd.R_types lA.out jA.out (by decide))) (fun _ h_ => h_.1))) hb); have kA := Aside0.mk (Kd.S_lower (Kd.S_newB (Kd.S_newB (Kd.S_new' nC (Kd.R_lt ((Kd.R_mono (rF_ (Kd.R_types yA.out jA.out (by decide))) (fun _ h_ => h_.1))))) (g := bA) (o := .cells #[.int .i64 0, .int .i64 0, .int .i64 0, .int .i64 0, .slice none 0 0] 44 (0, 0)) (uf_ dA pA.out)) (g := cA) (o := .cells #[.int .i64 tB, .int .i64 vB, .int .i64 sB, .int .i64 wB, .slice yC uB.length zC] 44 (0, 0)) (up_ jA)) (keep_size (w := w) (g := g) (row := none) (kp4_ tA.out wA.out nB.out gC.out))); replace yA := Aside0.mk (Kd.R_below ((Kd.R_mono (rF_ (Kd.R_types yA.out jA.out (by decide))) (fun _ h_ => h_.1))) hb); replace eA := Aside0.mk (blk_below (g := oA) (o := .cells #[.slice none 0 0] 31 (0, 0)) (uf_ eA gB.out) hb); replace dA := Aside0.mk (blk_below (g := bA) (o := .cells #[.int .i64 0, .int .i64 0, .int .i64 0, .int .i64 0, .slice none 0 0] 44 (0, 0)) (uf_ dA pA.out) hb); replace sA := Aside0.mk (blk_below (g := fB) (o := .cells #[.slice (some eB) jB.length xC] 31 (0, 0)) (uf_ sA oB.out) hb); replace jA := Aside0.mk (blk_below (g := cA) (o := .cells #[.int .i64 tB, .int .i64 vB, .int .i64 sB, .int .i64 wB, .slice yC uB.length zC] 44 (0, 0)) (up_ jA) hb); replace HK := Aside0.mk (KeepBut.trans (kp4_ tA.out wA.out nB.out gC.out) (KeepBut.of_below hb g none) (.inl rfl)); replace HB := Aside0.mk (below_step (hs5_ (IsS92.ge HI0.out) hB.out mB.out zB.out hC.out) hb); replace HI0 := Aside0.mk (IsS92.below (show IsS92 w (((((gJ.setCell ⟨cA, 0, none⟩ (.int .i64 tB)).setCell ⟨cA, 1, none⟩ (.int .i64 vB)).setCell ⟨cA, 2, none⟩ (.int .i64 sB)).setCell ⟨cA, 3, none⟩ (.int .i64 wB)).setCell ⟨cA, 4, none⟩ (.slice yC uB.length zC)) g l0 bC cC from iS92_4_ gA.out iA.out vA.out iB.out) hb); (try clear hb); (try clear hb2); (try clear hk); (try clear hi); (try clear nC); obtain ⟨hJ, iJ, xG⟩ := Kd.S_slice kA.out; subst xG) | (go_at_call 72; (with_reducible refine (spec_l1Cur_one.calls g l0 bC cC 2 false bE cE w _ ?side1 ?side2 A7.out).mono ?_); (case side1 => exact iS92_4_ gA.out iA.out vA.out iB.out); (case side2 => exact hs5_ (IsS92.ge HI0.out) hB.out mB.out zB.out hC.out); rintro e jJ ⟨rfl, hi, hb, hk⟩; replace eA := Aside0.mk (KeepBut.blk hk (g' := oA) (o := .cells #[.slice none 0 0] 31 (0, 0)) (kb_ eA.out) pB.out (by simp)); replace dA := Aside0.mk (KeepBut.blk hk (g' := bA) (o := .cells #[.int .i64 0, .int .i64 0, .int .i64 0, .int .i64 0, .slice none 0 0] 44 (0, 0)) (kb_ dA.out) qB.out (by simp)); replace lA := Aside0.mk (Kd.R_mono (Kd.R_keep (IsS92.apart (show IsS92 w _ g l0 bC cC from iS92_4_ gA.out iA.out vA.out iB.out) (kr_ lA.out) (by decide)) hk (fun _ h => h.2)) (fun _ h => h.1)); replace sA := Aside0.mk (KeepBut.blk hk (g' := fB) (o := .cells #[.slice (some eB) jB.length xC] 31 (0, 0)) (kb_ sA.out) xB.out (by simp)); replace yA := Aside0.mk (Kd.R_mono (Kd.R_keep (IsS92.apart (show IsS92 w _ g l0 bC cC from iS92_4_ gA.out iA.out vA.out iB.out) (kr_ yA.out) (by decide)) hk (fun _ h => h.2)) (fun _ h => h.1)); replace jA := Aside0.mk (KeepBut.blk hk (g' := cA) (o := .cells #[.int .i64 tB, .int .i64 vB, .int .i64 sB, .int .i64 wB, .slice yC uB.length zC] 44 (0, 0)) (kb_ jA.out) dC.out (by simp)); replace kA := Aside0.mk (Kd.S_mono (Kd.S_keep (IsS92.apartS (show IsS92 w _ g l0 bC cC from iS92_4_ gA.out iA.out vA.out iB.out) (ks_ kA.out) (by decide)) hk (fun _ h => h.2)) (fun _ h => h.1)); replace HK := Aside0.mk (KeepBut.trans (kp4_ tA.out wA.out nB.out gC.out) hk (.inl rfl)); replace HB := Aside0.mk (hb); replace HI0 := Aside0.mk (hi); (try clear hb); (try clear hb2); (try clear hk); (try clear hi)))
  replace lA := qR_ lA
  replace yA := qR_ yA
  replace kA := Aside0.mk (Kd.S_drew kA.out)
  replace eA := qK_ eA
  replace dA := qK_ dA
  replace sA := qK_ sA
  replace jA := qK_ jA
  replace HI0 := Aside0.mk (IsS92.drew HI0.out)
  replace HK := Aside0.mk (keep_drew HK.out)
  replace HB := qH_ HB
  refine start_ (n := 5) (S := fun w' => w'.cell? ⟨fB, 0, none⟩ = some (.slice (some eB) jB.length xC) ∧ w'.cell? ⟨cA, 0, none⟩ = some (.int .i64 tB) ∧ w'.cell? ⟨cA, 1, none⟩ = some (.int .i64 vB) ∧ w'.cell? ⟨cA, 2, none⟩ = some (.int .i64 sB) ∧ w'.cell? ⟨cA, 3, none⟩ = some (.int .i64 wB) ∧ w'.cell? ⟨cA, 4, none⟩ = some (.slice yC uB.length zC)) (ds := []) #[false, false, false, false, false] (by kernel_rfl) rfl rfl ⟨bt_ sA 0, bt_ jA 0, bt_ jA 1, bt_ jA 2, bt_ jA 3, bt_ jA 4⟩ (fun hHeld => ?_)
  generalize jJ.drew = oF at lA yA kA eA dA sA jA HI0 HK HB hHeld ⊢
  refine take_ (i := 0) (N := some 51) (v := ?_) (a' := ?_) #[true, false, false, false, false] rfl rfl (by kernel_rfl) (fun _ _ _ h => h) (Or.inl ⟨by rfl, ?_⟩) hHeld ?_ ?_
  rotate_left
  ·rintro w' ⟨s0, s1, s2, s3, s4, s5⟩
   go_simp
   with_reducible rfl
  rotate_left
  ·simp only [Act.put, List.setIfInBounds_toArray, List.set_cons_zero, List.set_cons_succ, i64_w, i32_w]
   rfl
  refine take_ (i := 1) (N := some 52) (v := ?_) (a' := ?_) #[true, true, false, false, false] rfl rfl (by kernel_rfl) (fun _ _ _ h => h) (Or.inl ⟨by rfl, ?_⟩) hHeld ?_ ?_
  rotate_left
  ·rintro w' ⟨s0, s1, s2, s3, s4, s5⟩
   go_simp
   with_reducible rfl
  rotate_left
  ·simp only [Act.put, List.setIfInBounds_toArray, List.set_cons_zero, List.set_cons_succ, i64_w, i32_w]
   rfl
  refine one_ (i := 2) (N := none) #[true, true, true, false, false] rfl rfl (by kernel_rfl) (by decide) (fun K hK => ?_)
  obtain ⟨hs66, hfs66⟩ := cf1_ eA.out
  have hns66_1 := qA.out
  have hns66_2 := lB.out
  have hns66_3 := rA.out
  have hms66_1 := fA.out
  have hms66_2 := kB.out
  have hms66_3 := gB.out
  refine skip_ (w1 := ?_) (by rfl) rfl ?_ ?_
  rotate_left
  ·go_simp
   rfl
  refine hK.out _ _ ⟨((cell_far (p := ⟨oA, _, none⟩) lB.out _).trans (hHeld.1)), ((cell_far (p := ⟨oA, _, none⟩) rA.out _).trans (hHeld.2.1)), ((cell_far (p := ⟨oA, _, none⟩) rA.out _).trans (hHeld.2.2.1)), ((cell_far (p := ⟨oA, _, none⟩) rA.out _).trans (hHeld.2.2.2.1)), ((cell_far (p := ⟨oA, _, none⟩) rA.out _).trans (hHeld.2.2.2.2.1)), ((cell_far (p := ⟨oA, _, none⟩) rA.out _).trans (hHeld.2.2.2.2.2))⟩ (fun hHeld => ?_)
  clear hK K
  refine pure_ (i := 3) (N := some 3) (v := ?_) (a' := ?_) #[true, true, true, true, false] rfl rfl (by kernel_rfl) (fun _ _ _ h => h) (Or.inl ⟨by rfl, ?_⟩) ?_ ?_
  rotate_left
  ·intro w'
   go_simp
   with_reducible rfl
  rotate_left
  ·simp only [Act.put, List.setIfInBounds_toArray, List.set_cons_zero, List.set_cons_succ, i64_w, i32_w]
   rfl
  refine one_ (i := 4) (N := none) #[true, true, true, true, true] rfl rfl (by kernel_rfl) (by decide) (fun K hK => ?_)
  obtain ⟨hs67, hfs67⟩ := cf1_ dA.out
  have hns67_0 := fA.out
  have hns67_2 := hA.out
  have hns67_3 := aA.out
  have hms67_0 := qA.out
  have hms67_2 := uA.out
  have hms67_3 := pA.out
  have hs68 : oF.cell? ⟨bA, 1, none⟩ = some (.int .i64 0) := bt_ dA 1
  have hfs68 := blk_frozen dA.out 1
  have hns68_0 := fA.out
  have hns68_2 := hA.out
  have hns68_3 := aA.out
  have hms68_0 := qA.out
  have hms68_2 := uA.out
  have hms68_3 := pA.out
  have hs69 : oF.cell? ⟨bA, 2, none⟩ = some (.int .i64 0) := bt_ dA 2
  have hfs69 := blk_frozen dA.out 2
  have hns69_0 := fA.out
  have hns69_2 := hA.out
  have hns69_3 := aA.out
  have hms69_0 := qA.out
  have hms69_2 := uA.out
  have hms69_3 := pA.out
  have hs70 : oF.cell? ⟨bA, 3, none⟩ = some (.int .i64 0) := bt_ dA 3
  have hfs70 := blk_frozen dA.out 3
  have hns70_0 := fA.out
  have hns70_2 := hA.out
  have hns70_3 := aA.out
  have hms70_0 := qA.out
  have hms70_2 := uA.out
  have hms70_3 := pA.out
  have hs71 : oF.cell? ⟨bA, 4, none⟩ = some (.slice none 0 0) := bt_ dA 4
  have hfs71 := blk_frozen dA.out 4
  have hns71_0 := fA.out
  have hns71_2 := hA.out
  have hns71_3 := aA.out
  have hms71_0 := qA.out
  have hms71_2 := uA.out
  have hms71_3 := pA.out
  refine skip_ (w1 := ?_) (by rfl) rfl ?_ ?_
  rotate_left
  ·go_simp
   rfl
  refine hK.out _ _ ⟨((cell_far (p := ⟨bA, _, none⟩) hA.out _).trans (((cell_far (p := ⟨bA, _, none⟩) hA.out _).trans (((cell_far (p := ⟨bA, _, none⟩) hA.out _).trans (((cell_far (p := ⟨bA, _, none⟩) hA.out _).trans (((cell_far (p := ⟨bA, _, none⟩) hA.out _).trans (hHeld.1)))))))))), ((cell_far (p := ⟨bA, _, none⟩) aA.out _).trans (((cell_far (p := ⟨bA, _, none⟩) aA.out _).trans (((cell_far (p := ⟨bA, _, none⟩) aA.out _).trans (((cell_far (p := ⟨bA, _, none⟩) aA.out _).trans (((cell_far (p := ⟨bA, _, none⟩) aA.out _).trans (hHeld.2.1)))))))))), ((cell_far (p := ⟨bA, _, none⟩) aA.out _).trans (((cell_far (p := ⟨bA, _, none⟩) aA.out _).trans (((cell_far (p := ⟨bA, _, none⟩) aA.out _).trans (((cell_far (p := ⟨bA, _, none⟩) aA.out _).trans (((cell_far (p := ⟨bA, _, none⟩) aA.out _).trans (hHeld.2.2.1)))))))))), ((cell_far (p := ⟨bA, _, none⟩) aA.out _).trans (((cell_far (p := ⟨bA, _, none⟩) aA.out _).trans (((cell_far (p := ⟨bA, _, none⟩) aA.out _).trans (((cell_far (p := ⟨bA, _, none⟩) aA.out _).trans (((cell_far (p := ⟨bA, _, none⟩) aA.out _).trans (hHeld.2.2.2.1)))))))))), ((cell_far (p := ⟨bA, _, none⟩) aA.out _).trans (((cell_far (p := ⟨bA, _, none⟩) aA.out _).trans (((cell_far (p := ⟨bA, _, none⟩) aA.out _).trans (((cell_far (p := ⟨bA, _, none⟩) aA.out _).trans (((cell_far (p := ⟨bA, _, none⟩) aA.out _).trans (hHeld.2.2.2.2.1)))))))))), ((cell_far (p := ⟨bA, _, none⟩) aA.out _).trans (((cell_far (p := ⟨bA, _, none⟩) aA.out _).trans (((cell_far (p := ⟨bA, _, none⟩) aA.out _).trans (((cell_far (p := ⟨bA, _, none⟩) aA.out _).trans (((cell_far (p := ⟨bA, _, none⟩) aA.out _).trans (hHeld.2.2.2.2.2))))))))))⟩ (fun hHeld => ?_)
  clear hK K
  refine done_ (by kernel_rfl) ?_
  try go_wp2
  refine bodyPost_ret (results_list (rs := [.cell 2 31, .tmp 3, .cell 4 44]) rfl (by simp) (.cell oA 31 #[.slice (some eB) jB.length xC] (0, 0) _ rfl (by (with_reducible repeat (first | refine blk_drewN ?_ _ | refine blk_drew ?_ | refine blk_alloc ?_ _)); refine blk_far ?_ fA.out _; (with_reducible repeat (first | refine blk_drewN ?_ _ | refine blk_drew ?_ | refine blk_alloc ?_ _)); refine blk_far ?_ fA.out _; (with_reducible repeat (first | refine blk_drewN ?_ _ | refine blk_drew ?_ | refine blk_alloc ?_ _)); refine blk_far ?_ fA.out _; (with_reducible repeat (first | refine blk_drewN ?_ _ | refine blk_drew ?_ | refine blk_alloc ?_ _)); refine blk_far ?_ fA.out _; (with_reducible repeat (first | refine blk_drewN ?_ _ | refine blk_drew ?_ | refine blk_alloc ?_ _)); refine blk_far ?_ fA.out _; (with_reducible repeat (first | refine blk_drewN ?_ _ | refine blk_drew ?_ | refine blk_alloc ?_ _)); refine blk_put (cs := #[.slice none 0 0]) ?_ 0 _ rfl; (with_reducible repeat (first | refine blk_drewN ?_ _ | refine blk_drew ?_ | refine blk_alloc ?_ _)); exact eA.out) Try.underlying31 rfl (by kernel_rfl) (.tmp (.cell bA 44 #[.int .i64 tB, .int .i64 vB, .int .i64 sB, .int .i64 wB, .slice yC uB.length zC] (0, 0) _ rfl (by (with_reducible repeat (first | refine blk_drewN ?_ _ | refine blk_drew ?_ | refine blk_alloc ?_ _)); refine blk_put (cs := #[.int .i64 tB, .int .i64 vB, .int .i64 sB, .int .i64 wB, .slice none 0 0]) ?_ 4 _ rfl; (with_reducible repeat (first | refine blk_drewN ?_ _ | refine blk_drew ?_ | refine blk_alloc ?_ _)); refine blk_put (cs := #[.int .i64 tB, .int .i64 vB, .int .i64 sB, .int .i64 0, .slice none 0 0]) ?_ 3 _ rfl; (with_reducible repeat (first | refine blk_drewN ?_ _ | refine blk_drew ?_ | refine blk_alloc ?_ _)); refine blk_put (cs := #[.int .i64 tB, .int .i64 vB, .int .i64 0, .int .i64 0, .slice none 0 0]) ?_ 2 _ rfl; (with_reducible repeat (first | refine blk_drewN ?_ _ | refine blk_drew ?_ | refine blk_alloc ?_ _)); refine blk_put (cs := #[.int .i64 tB, .int .i64 0, .int .i64 0, .int .i64 0, .slice none 0 0]) ?_ 1 _ rfl; (with_reducible repeat (first | refine blk_drewN ?_ _ | refine blk_drew ?_ | refine blk_alloc ?_ _)); refine blk_put (cs := #[.int .i64 0, .int .i64 0, .int .i64 0, .int .i64 0, .slice none 0 0]) ?_ 0 _ rfl; (with_reducible repeat (first | refine blk_drewN ?_ _ | refine blk_drew ?_ | refine blk_alloc ?_ _)); refine blk_far ?_ qA.out _; (with_reducible repeat (first | refine blk_drewN ?_ _ | refine blk_drew ?_ | refine blk_alloc ?_ _)); exact dA.out) Try.underlying44 rfl (by kernel_rfl) .nil)))) rfl ?_
  exact ⟨_, _, er_, Kd.R_mono (rF_ (Kd.R_far (p := ⟨oA, 0, none⟩) (Kd.R_types (Kd.R_types lA.out eA.out (by decide)) dA.out (by decide)) (fun _ hk => hk.1.2) (.slice (some eB) jB.length xC))) (fun _ hk => trivial), Kd.R_mono (rF_ (Kd.R_far (p := ⟨oA, 0, none⟩) (Kd.R_types (Kd.R_types yA.out eA.out (by decide)) dA.out (by decide)) (fun _ hk => hk.1.2) (.slice (some eB) jB.length xC))) (fun _ hk => trivial), hs5_ (IsS92.ge HI0.out) hB.out mB.out zB.out hC.out⟩
 obtain ⟨ji9, hji9⟩ : ∃ j_ : Int, (wrap64 ((xA.length : Int) - 1)) = j_ := ⟨_, rfl⟩
 first | rw [hji9] at H | simp only [hji9] at H
 (try rw [hji9] at A2)
 (try rw [hji9] at A3)
 (try rw [hji9] at A5)
 (try rw [hji9] at A7)
 have hji9w : (IntKind.i64.wrap ((xA.length : Int) - 1)) = ji9 := (i64_w _).trans hji9
 replace H := ifs_ H
 obtain ⟨hI, H⟩ := H
 have iI := decide_eq_true hI
 clear hI
 replace H := ifs_ H
 obtain ⟨jI, H⟩ := H
 have kI := decide_eq_true jI
 clear jI
 simp only [Option.some.injEq, Prod.mk.injEq] at H
 obtain ⟨rfl, rfl, rfl, rfl, rfl, rfl, rfl, rfl, rfl⟩ := H
 go_enter Try.func26, Try.ntmps26
 have dD := Aside0.mk (Nat.le_refl w.heap.size)
 have HB := Aside0.mk (Below.refl w.heap.size w)
 go_upto_region 2 with (first | ((with_reducible refine gate_dst (N := 2) rfl ?_); (try (refine gate_guard (by rfl) ?_; dsimp only)); refine be_ (N := 2) #[.slice none 0 0] 31 ?_; intro oA hg w432_ hbox hb; have eA := Aside0.mk hbox; have tA := Aside0.mk (show w.heap.size ≤ oA from by rw [hg]; exact HB.out.size); have hB := tA; replace HB := Aside0.mk (below_step HB.out hb); clear hbox hb hg) | ((with_reducible refine gate_dst (N := 4) rfl ?_); (try (refine gate_guard (by rfl) ?_; dsimp only)); refine be_ (N := 4) #[.int .i64 0, .int .i64 0, .int .i64 0, .int .i64 0, .slice none 0 0] 44 ?_; intro bA hg w433_ hbox hb; have dA := Aside0.mk hbox; have wA := Aside0.mk (show w.heap.size ≤ bA from by rw [hg]; exact HB.out.size); have mB := wA; have fA := Aside0.mk (show oA ≠ bA from by rw [hg]; exact Nat.ne_of_lt (blk_lt eA.out)); have qA := Aside0.mk (Ne.symm fA.out); replace eA := Aside0.mk (blk_below eA.out hb); replace HB := Aside0.mk (below_step HB.out hb); clear hbox hb hg) | ((with_reducible refine gate_dst (N := 12) rfl ?_); (try (refine gate_guard (by rfl) ?_; dsimp only)); refine be_ (N := 12) #[.slice A0 l0.length c0, .int .i64 0, .int .u64 0] 92 ?_; intro g hg wg_ hbox hb; have HI0 : Aside0 (IsS92 w wg_ g l0 0 0) := ⟨⟨A0, c0, hbox, by rw [hg]; exact HB.out.size, HR0_.out⟩⟩; have gA := Aside0.mk (show g ≠ oA from by rw [hg]; exact Nat.ne_of_gt (blk_lt eA.out)); have pB := Aside0.mk (Ne.symm gA.out); replace eA := Aside0.mk (blk_below eA.out hb); have iA := Aside0.mk (show g ≠ bA from by rw [hg]; exact Nat.ne_of_gt (blk_lt dA.out)); have qB := Aside0.mk (Ne.symm iA.out); replace dA := Aside0.mk (blk_below dA.out hb); replace HB := Aside0.mk (below_step HB.out hb); have HK := Aside0.mk (KeepBut.of_below HB.out g none); have HL := Aside0.mk HB.out.size; clear hbox hb hg))
 try go_wp2_with (first | ((with_reducible refine gate_dst (N := 2) rfl ?_); refine bq_ (N := 2) #[.slice none 0 0] 31 ?_; intro oA hg zJ eA hb; replace HB := Aside0.mk (below_step (hs_ (IsS92.ge HI0.out)) hb); have tA := Aside0.mk ((by rw [hg]; exact (keep_size (w := w) (g := g) (row := none) (kp0_)) : w.heap.size ≤ oA)); have hB := Aside0.mk ((Nat.le_trans dD.out (by rw [hg]; exact (keep_size (w := w) (g := g) (row := none) (kp0_)) : w.heap.size ≤ oA) : w.heap.size ≤ oA)); replace HK := Aside0.mk (KeepBut.trans (kp0_) (KeepBut.of_below hb g none) (.inl rfl)); have gA := Aside0.mk ((by rw [hg]; exact Nat.ne_of_lt (IsS92.lt (show IsS92 w _ g l0 0 0 from iS92_0_)) : g ≠ oA)); have pB := Aside0.mk ((by rw [hg]; exact Nat.ne_of_gt (IsS92.lt (show IsS92 w _ g l0 0 0 from iS92_0_)) : oA ≠ g)); replace HI0 := Aside0.mk (IsS92.below (iS92_0_) hb); clear hb hg) | ((with_reducible refine gate_dst (N := 4) rfl ?_); refine bq_ (N := 4) #[.int .i64 0, .int .i64 0, .int .i64 0, .int .i64 0, .slice none 0 0] 44 ?_; intro bA hg aK dA hb; replace HB := Aside0.mk (below_step (hs2_ (IsS92.ge HI0.out) hB.out) hb); have wA := Aside0.mk ((by rw [hg]; exact (keep_size (w := w) (g := g) (row := none) (kp1_ tA.out)) : w.heap.size ≤ bA)); have mB := Aside0.mk ((Nat.le_trans dD.out (by rw [hg]; exact (keep_size (w := w) (g := g) (row := none) (kp1_ tA.out)) : w.heap.size ≤ bA) : w.heap.size ≤ bA)); replace HK := Aside0.mk (KeepBut.trans (kp1_ tA.out) (KeepBut.of_below hb g none) (.inl rfl)); have fA := nl_ eA hg; have qA := ng_ eA hg; replace eA := bK_ eA hb; have iA := Aside0.mk ((by rw [hg]; exact Nat.ne_of_lt (IsS92.lt (show IsS92 w _ g l0 0 0 from iS92_1_ gA.out)) : g ≠ bA)); have qB := Aside0.mk ((by rw [hg]; exact Nat.ne_of_gt (IsS92.lt (show IsS92 w _ g l0 0 0 from iS92_1_ gA.out)) : bA ≠ g)); replace HI0 := Aside0.mk (IsS92.below (iS92_1_ gA.out) hb); clear hb hg) | ((with_reducible refine gate_callee (f := 70) rfl ?_); refine gl_ 14 Try.func70 #[.pointer (some ⟨g, 0, none⟩)] rfl ma_ ?_; (with_reducible refine (spec_l1Cur_disk.calls k g l0 0 0 jB iC jC w _ ?side1 ?side2 A2.out).mono ?_); (case side1 => exact iS92_2_ gA.out iA.out); (case side2 => exact hs3_ (IsS92.ge HI0.out) hB.out mB.out); rintro e bK ⟨eE, rfl, nC, hi, hb, hk⟩; refine ⟨_, rfl, ?_⟩; replace eA := Aside0.mk (KeepBut.blk hk (g' := oA) (o := .cells #[.slice none 0 0] 31 (0, 0)) (kb_ eA.out) pB.out (by simp)); replace dA := Aside0.mk (KeepBut.blk hk (g' := bA) (o := .cells #[.int .i64 0, .int .i64 0, .int .i64 0, .int .i64 0, .slice none 0 0] 44 (0, 0)) (kb_ dA.out) qB.out (by simp)); have lA := Aside0.mk (Kd.R_lower nC (keep_size (w := w) (g := g) (row := none) (kp2_ tA.out wA.out))); replace HK := Aside0.mk (KeepBut.trans (kp2_ tA.out wA.out) hk (.inl rfl)); replace HB := Aside0.mk (hb); replace HI0 := Aside0.mk (hi); (try clear hb); (try clear hb2); (try clear hk); (try clear hi); (try clear nC)) | ((with_reducible refine gate_dst (N := 6) rfl ?_); refine bq_ (N := 6) #[.slice none 0 0] 31 ?_; intro fB hg cK sA hb; replace lA := rB_ lA hb; replace HB := Aside0.mk (below_step (hs3_ (IsS92.ge HI0.out) hB.out mB.out) hb); have nB := Aside0.mk ((by rw [hg]; exact (keep_size (w := w) (g := g) (row := none) (kp2_ tA.out wA.out)) : w.heap.size ≤ fB)); have zB := Aside0.mk ((Nat.le_trans dD.out (by rw [hg]; exact (keep_size (w := w) (g := g) (row := none) (kp2_ tA.out wA.out)) : w.heap.size ≤ fB) : w.heap.size ≤ fB)); replace HK := Aside0.mk (KeepBut.trans (kp2_ tA.out wA.out) (KeepBut.of_below hb g none) (.inl rfl)); have kB := nl_ eA hg; have lB := ng_ eA hg; replace eA := bK_ eA hb; have uA := nl_ dA hg; have hA := ng_ dA hg; replace dA := bK_ dA hb; have vA := Aside0.mk ((by rw [hg]; exact Nat.ne_of_lt (IsS92.lt (show IsS92 w _ g l0 iC jC from iS92_2_ gA.out iA.out)) : g ≠ fB)); have xB := Aside0.mk ((by rw [hg]; exact Nat.ne_of_gt (IsS92.lt (show IsS92 w _ g l0 iC jC from iS92_2_ gA.out iA.out)) : fB ≠ g)); replace HI0 := Aside0.mk (IsS92.below (iS92_2_ gA.out iA.out) hb); clear hb hg; obtain ⟨jE, tC, yG⟩ := Kd.R_slice lA.out; subst yG; have lI := lB.out; have mI := kB.out; have nI := hA.out; have oI := uA.out; have pI := xB.out; have qI := vA.out; obtain ⟨pF, qF⟩ := cf1_ sA.out) | ((with_reducible refine gate_callee (f := 71) rfl ?_); refine gl_ 16 Try.func71 #[.pointer (some ⟨g, 0, none⟩)] rfl ma_ ?_; (with_reducible refine (spec_l1Cur_batch.calls k g l0 iC jC tB vB sB wB uB bC cC w _ ?side1 ?side2 A3.out).mono ?_); (case side1 => exact iS92_3_ gA.out iA.out vA.out); (case side2 => exact hs4_ (IsS92.ge HI0.out) hB.out mB.out zB.out); rintro e dK ⟨gE, rfl, nC, hi, hb, hk⟩; refine ⟨_, rfl, ?_⟩; replace eA := Aside0.mk (KeepBut.blk hk (g' := oA) (o := .cells #[.slice none 0 0] 31 (0, 0)) (uf_ eA kB.out) pB.out (by simp)); replace dA := Aside0.mk (KeepBut.blk hk (g' := bA) (o := .cells #[.int .i64 0, .int .i64 0, .int .i64 0, .int .i64 0, .slice none 0 0] 44 (0, 0)) (uf_ dA uA.out) qB.out (by simp)); replace lA := Aside0.mk (Kd.R_mono (Kd.R_keep (IsS92.apart (show IsS92 w _ g l0 iC jC from iS92_3_ gA.out iA.out vA.out) (rF_ (Kd.R_mono (Kd.R_far (p := ⟨fB, 0, none⟩) (Kd.R_types lA.out sA.out (by decide)) (fun _ hk => hk.2) (.slice jE jB.length tC)) (fun _ h_ => h_.1))) (by decide)) hk (fun _ h => h.2)) (fun _ h => h.1)); replace sA := Aside0.mk (KeepBut.blk hk (g' := fB) (o := .cells #[.slice jE jB.length tC] 31 (0, 0)) (up_ sA) xB.out (by simp)); have yA := Aside0.mk (Kd.R_lower nC (keep_size (w := w) (g := g) (row := none) (kp3_ tA.out wA.out nB.out))); replace HK := Aside0.mk (KeepBut.trans (kp3_ tA.out wA.out nB.out) hk (.inl rfl)); replace HB := Aside0.mk (hb); replace HI0 := Aside0.mk (hi); (try clear hb); (try clear hb2); (try clear hk); (try clear hi); (try clear nC)) | ((with_reducible refine gate_dst (N := 7) rfl ?_); refine bq_ (N := 7) #[.int .i64 0, .int .i64 0, .int .i64 0, .int .i64 0, .slice none 0 0] 44 ?_; intro cA hg kJ jA hb; replace lA := rB_ lA hb; replace yA := rB_ yA hb; replace HB := Aside0.mk (below_step (hs4_ (IsS92.ge HI0.out) hB.out mB.out zB.out) hb); have gC := Aside0.mk ((by rw [hg]; exact (keep_size (w := w) (g := g) (row := none) (kp3_ tA.out wA.out nB.out)) : w.heap.size ≤ cA)); have hC := Aside0.mk ((Nat.le_trans dD.out (by rw [hg]; exact (keep_size (w := w) (g := g) (row := none) (kp3_ tA.out wA.out nB.out)) : w.heap.size ≤ cA) : w.heap.size ≤ cA)); replace HK := Aside0.mk (KeepBut.trans (kp3_ tA.out wA.out nB.out) (KeepBut.of_below hb g none) (.inl rfl)); have gB := nl_ eA hg; have rA := ng_ eA hg; replace eA := bK_ eA hb; have pA := nl_ dA hg; have aA := ng_ dA hg; replace dA := bK_ dA hb; have oB := nl_ sA hg; have aC := ng_ sA hg; replace sA := bK_ sA hb; have iB := Aside0.mk ((by rw [hg]; exact Nat.ne_of_lt (IsS92.lt (show IsS92 w _ g l0 bC cC from iS92_3_ gA.out iA.out vA.out)) : g ≠ cA)); have dC := Aside0.mk ((by rw [hg]; exact Nat.ne_of_gt (IsS92.lt (show IsS92 w _ g l0 bC cC from iS92_3_ gA.out iA.out vA.out)) : cA ≠ g)); replace HI0 := Aside0.mk (IsS92.below (iS92_3_ gA.out iA.out vA.out) hb); clear hb hg; have rI := rA.out; have sI := gB.out; have tI := aA.out; have uI := pA.out; have vI := aC.out; have wI := oB.out; have xI := dC.out; have yI := iB.out; obtain ⟨rF, sF, tF, uF, vF, wF, xF, yF, zF, aG⟩ := cf5_ jA.out; obtain ⟨kC, lC, zG⟩ := Kd.R_slice yA.out; subst zG; obtain ⟨bG, cG⟩ := cf1_ sA.out; have rC : 0 ≤ (0 : Int) := (by omega); have sC : 0 < (jB.length : Int) := oa_; obtain ⟨eB, rD, mA, nA⟩ := at_T56 (Kd.R_reads' lA.out).2.2 0 rC sC; cases rD; have qi450 : (0 < jB.length) = True := eq_true (by omega); (try rw [show ((0 : Int)).toNat = 0 from rfl] at mA); (try rw [show 0 * 2 = 0 from rfl] at mA); (try rw [Addr.add_zero'] at mA); (try rw [show ((0 : Int)).toNat = 0 from rfl] at nA); (try rw [show 0 * 2 = 0 from rfl] at nA); (try rw [Addr.add_zero'] at nA); have zA : eB.block ≠ cA := Kd.own_blk (Kd.R_ne lA.out jA.out (by decide)); have aB : eB.block ≠ cA := Kd.own_blk (Kd.R_ne lA.out jA.out (by decide)); have bB : eB.block ≠ cA := Kd.own_blk (Kd.R_ne lA.out jA.out (by decide)); have cB : eB.block ≠ cA := Kd.own_blk (Kd.R_ne lA.out jA.out (by decide)); have dB : eB.block ≠ cA := Kd.own_blk (Kd.R_ne lA.out jA.out (by decide)); replace mA := (cell_far (p := ⟨cA, 0, none⟩) (by first | (rw [add_block]; exact zA) | (show (Addr.add _ _).block ≠ _; rw [add_block]; exact zA) | exact zA) (.int .i64 tB)).trans mA; replace nA := (cell_far (p := ⟨cA, 0, none⟩) (by first | (rw [add_block]; exact zA) | (show (Addr.add _ _).block ≠ _; rw [add_block]; exact zA) | exact zA) (.int .i64 tB)).trans nA; replace mA := (cell_far (p := ⟨cA, 1, none⟩) (by first | (rw [add_block]; exact aB) | (show (Addr.add _ _).block ≠ _; rw [add_block]; exact aB) | exact aB) (.int .i64 vB)).trans mA; replace nA := (cell_far (p := ⟨cA, 1, none⟩) (by first | (rw [add_block]; exact aB) | (show (Addr.add _ _).block ≠ _; rw [add_block]; exact aB) | exact aB) (.int .i64 vB)).trans nA; replace mA := (cell_far (p := ⟨cA, 2, none⟩) (by first | (rw [add_block]; exact bB) | (show (Addr.add _ _).block ≠ _; rw [add_block]; exact bB) | exact bB) (.int .i64 sB)).trans mA; replace nA := (cell_far (p := ⟨cA, 2, none⟩) (by first | (rw [add_block]; exact bB) | (show (Addr.add _ _).block ≠ _; rw [add_block]; exact bB) | exact bB) (.int .i64 sB)).trans nA; replace mA := (cell_far (p := ⟨cA, 3, none⟩) (by first | (rw [add_block]; exact cB) | (show (Addr.add _ _).block ≠ _; rw [add_block]; exact cB) | exact cB) (.int .i64 wB)).trans mA; replace nA := (cell_far (p := ⟨cA, 3, none⟩) (by first | (rw [add_block]; exact cB) | (show (Addr.add _ _).block ≠ _; rw [add_block]; exact cB) | exact cB) (.int .i64 wB)).trans nA; replace mA := (cell_far (p := ⟨cA, 4, none⟩) (by first | (rw [add_block]; exact dB) | (show (Addr.add _ _).block ≠ _; rw [add_block]; exact dB) | exact dB) (.slice kC uB.length lC)).trans mA; replace nA := (cell_far (p := ⟨cA, 4, none⟩) (by first | (rw [add_block]; exact dB) | (show (Addr.add _ _).block ≠ _; rw [add_block]; exact dB) | exact dB) (.slice kC uB.length lC)).trans nA; clear zA; clear aB; clear bB; clear cB; clear dB; replace rC := eq_true rC; replace sC := eq_true sC) | ((with_reducible refine gate_callee (f := 50) rfl ?_); refine gl_ 23 Try.func50 #[.string ((rd_T56 jB 0).f0)] rfl ma_ ?_; (with_reducible refine (spec_l1Read.calls k ((rd_T56 jB 0).f0) xA aE _ A5.out).mono ?_); rintro e eK ⟨hE, rfl, nC, hb⟩; refine ⟨_, rfl, ?_⟩; replace lA := Aside0.mk (Kd.R_below ((Kd.R_mono (rF_ (Kd.R_types lA.out jA.out (by decide))) (fun _ h_ => h_.1))) hb); have kA := Aside0.mk (Kd.S_lower (Kd.S_newB (Kd.S_newB (Kd.S_new' nC (Kd.R_lt ((Kd.R_mono (rF_ (Kd.R_types yA.out jA.out (by decide))) (fun _ h_ => h_.1))))) (g := bA) (o := .cells #[.int .i64 0, .int .i64 0, .int .i64 0, .int .i64 0, .slice none 0 0] 44 (0, 0)) (uf_ dA pA.out)) (g := cA) (o := .cells #[.int .i64 tB, .int .i64 vB, .int .i64 sB, .int .i64 wB, .slice kC uB.length lC] 44 (0, 0)) (up_ jA)) (keep_size (w := w) (g := g) (row := none) (kp4_ tA.out wA.out nB.out gC.out))); replace yA := Aside0.mk (Kd.R_below ((Kd.R_mono (rF_ (Kd.R_types yA.out jA.out (by decide))) (fun _ h_ => h_.1))) hb); replace eA := Aside0.mk (blk_below (g := oA) (o := .cells #[.slice none 0 0] 31 (0, 0)) (uf_ eA gB.out) hb); replace dA := Aside0.mk (blk_below (g := bA) (o := .cells #[.int .i64 0, .int .i64 0, .int .i64 0, .int .i64 0, .slice none 0 0] 44 (0, 0)) (uf_ dA pA.out) hb); replace sA := Aside0.mk (blk_below (g := fB) (o := .cells #[.slice (some eB) jB.length tC] 31 (0, 0)) (uf_ sA oB.out) hb); replace jA := Aside0.mk (blk_below (g := cA) (o := .cells #[.int .i64 tB, .int .i64 vB, .int .i64 sB, .int .i64 wB, .slice kC uB.length lC] 44 (0, 0)) (up_ jA) hb); replace HK := Aside0.mk (KeepBut.trans (kp4_ tA.out wA.out nB.out gC.out) (KeepBut.of_below hb g none) (.inl rfl)); replace HB := Aside0.mk (below_step (hs5_ (IsS92.ge HI0.out) hB.out mB.out zB.out hC.out) hb); replace HI0 := Aside0.mk (IsS92.below (show IsS92 w (((((kJ.setCell ⟨cA, 0, none⟩ (.int .i64 tB)).setCell ⟨cA, 1, none⟩ (.int .i64 vB)).setCell ⟨cA, 2, none⟩ (.int .i64 sB)).setCell ⟨cA, 3, none⟩ (.int .i64 wB)).setCell ⟨cA, 4, none⟩ (.slice kC uB.length lC)) g l0 bC cC from iS92_4_ gA.out iA.out vA.out iB.out) hb); (try clear hb); (try clear hb2); (try clear hk); (try clear hi); (try clear nC); obtain ⟨lJ, dE, aH⟩ := Kd.S_slice kA.out; subst aH) | (go_at_call 72; (with_reducible refine (spec_l1Cur_one.calls g l0 bC cC 2 true bE cE w _ ?side1 ?side2 A7.out).mono ?_); (case side1 => exact iS92_4_ gA.out iA.out vA.out iB.out); (case side2 => exact hs5_ (IsS92.ge HI0.out) hB.out mB.out zB.out hC.out); rintro e mJ ⟨rfl, hi, hb, hk⟩; replace eA := Aside0.mk (KeepBut.blk hk (g' := oA) (o := .cells #[.slice none 0 0] 31 (0, 0)) (kb_ eA.out) pB.out (by simp)); replace dA := Aside0.mk (KeepBut.blk hk (g' := bA) (o := .cells #[.int .i64 0, .int .i64 0, .int .i64 0, .int .i64 0, .slice none 0 0] 44 (0, 0)) (kb_ dA.out) qB.out (by simp)); replace lA := Aside0.mk (Kd.R_mono (Kd.R_keep (IsS92.apart (show IsS92 w _ g l0 bC cC from iS92_4_ gA.out iA.out vA.out iB.out) (kr_ lA.out) (by decide)) hk (fun _ h => h.2)) (fun _ h => h.1)); replace sA := Aside0.mk (KeepBut.blk hk (g' := fB) (o := .cells #[.slice (some eB) jB.length tC] 31 (0, 0)) (kb_ sA.out) xB.out (by simp)); replace yA := Aside0.mk (Kd.R_mono (Kd.R_keep (IsS92.apart (show IsS92 w _ g l0 bC cC from iS92_4_ gA.out iA.out vA.out iB.out) (kr_ yA.out) (by decide)) hk (fun _ h => h.2)) (fun _ h => h.1)); replace jA := Aside0.mk (KeepBut.blk hk (g' := cA) (o := .cells #[.int .i64 tB, .int .i64 vB, .int .i64 sB, .int .i64 wB, .slice kC uB.length lC] 44 (0, 0)) (kb_ jA.out) dC.out (by simp)); replace kA := Aside0.mk (Kd.S_mono (Kd.S_keep (IsS92.apartS (show IsS92 w _ g l0 bC cC from iS92_4_ gA.out iA.out vA.out iB.out) (ks_ kA.out) (by decide)) hk (fun _ h => h.2)) (fun _ h => h.1)); replace HK := Aside0.mk (KeepBut.trans (kp4_ tA.out wA.out nB.out gC.out) hk (.inl rfl)); replace HB := Aside0.mk (hb); replace HI0 := Aside0.mk (hi); (try clear hb); (try clear hb2); (try clear hk); (try clear hi)))
 replace lA := qR_ lA
 replace yA := qR_ yA
 replace kA := Aside0.mk (Kd.S_drew kA.out)
 replace eA := qK_ eA
 replace dA := qK_ dA
 replace sA := qK_ sA
 replace jA := qK_ jA
 replace HI0 := Aside0.mk (IsS92.drew HI0.out)
 replace HK := Aside0.mk (keep_drew HK.out)
 replace HB := qH_ HB
 have uD : 0 ≤ ((ji9) : Int) := oa_
 have vD : (ji9) < (xA.length : Int) := oa_
 obtain ⟨rB, uC, vC, bH, eD, fD, gD, hD, oC, iD, jD⟩ := at_T44 (Kd.S_reads' kA.out).2.2 (ji9) uD vD
 cases bH
 obtain ⟨ce458, hce458, hMe458, sD⟩ := Kd.S_get kA.out z44 (ji9) uD (by first | exact vD | exact oa_ | (have e_ := (Kd.S_reads' kA.out).1; omega))
 obtain ⟨ve458_4, rfl, ge458_4⟩ := k44_openM hMe458
 have hv458_4 := sD 4 _ rfl
 rw [add_field _ _ 4 (by omega)] at hv458_4
 replace hv458_4 := Option.some.inj (hv458_4.symm.trans oC)
 rw [hv458_4] at ge458_4
 have eC := Aside0.mk (show Kd.R Kd.string 9 _ _ _ _ ((rd_T44 xA (ji9)).f4) from ge458_4)
 clear hv458_4 ge458_4
 clear sD hce458
 have wD := Aside0.mk jD
 have dG := Aside0.mk iD
 clear jD iD
 replace uD := eq_true uD
 replace vD := eq_true vD
 have xD : 0 ≤ ((ji9) : Int) := oa_
 have yD : (ji9) < (xA.length : Int) := oa_
 obtain ⟨kE, cH, dH, eH, kD, lD, mD, nD, pC, oD, pD⟩ := at_T44 (Kd.S_reads' kA.out).2.2 (ji9) xD yD
 obtain rfl : rB = kE := (by injection eH)
 obtain ⟨ce459, hce459, hMe459, tD⟩ := Kd.S_get kA.out z44 (ji9) xD (by first | exact yD | exact oa_ | (have e_ := (Kd.S_reads' kA.out).1; omega))
 obtain ⟨ve459_4, rfl, ge459_4⟩ := k44_openM hMe459
 have hv459_4 := tD 4 _ rfl
 rw [add_field _ _ 4 (by omega)] at hv459_4
 replace hv459_4 := Option.some.inj (hv459_4.symm.trans pC)
 rw [hv459_4] at ge459_4
 have fC := Aside0.mk (show Kd.R Kd.string 9 _ _ _ _ ((rd_T44 xA (ji9)).f4) from ge459_4)
 clear hv459_4 ge459_4
 clear tD hce459
 have zD := Aside0.mk pD
 have eG := Aside0.mk oD
 clear pD oD
 replace xD := eq_true xD
 replace yD := eq_true yD
 have ea_ := Option.some.inj (oC.symm.trans pC)
 injection ea_ with ea_ en_ ec_
 subst ea_
 subst ec_
 clear en_
 refine start_ (n := 18) (S := fun w' => w'.cell? (rB.add (((ji9)).toNat * 5)) = some (.int .i64 ((rd_T44 xA (ji9)).f0)) ∧ w'.cell? ⟨(rB.add (((ji9)).toNat * 5)).block, (rB.add (((ji9)).toNat * 5)).off + 1, none⟩ = some (.int .i64 ((rd_T44 xA (ji9)).f1)) ∧ w'.cell? ⟨(rB.add (((ji9)).toNat * 5)).block, (rB.add (((ji9)).toNat * 5)).off + 2, none⟩ = some (.int .i64 ((rd_T44 xA (ji9)).f2)) ∧ w'.cell? ⟨(rB.add (((ji9)).toNat * 5)).block, (rB.add (((ji9)).toNat * 5)).off + 3, none⟩ = some (.int .i64 ((rd_T44 xA (ji9)).f3)) ∧ w'.cell? ⟨(rB.add (((ji9)).toNat * 5)).block, (rB.add (((ji9)).toNat * 5)).off + 4, none⟩ = some (.slice uC ((rd_T44 xA (ji9)).f4).length vC) ∧ w'.cell? (rB.add (((ji9)).toNat * 5)) = some (.int .i64 ((rd_T44 xA (ji9)).f0)) ∧ w'.cell? ⟨(rB.add (((ji9)).toNat * 5)).block, (rB.add (((ji9)).toNat * 5)).off + 1, none⟩ = some (.int .i64 ((rd_T44 xA (ji9)).f1)) ∧ w'.cell? ⟨(rB.add (((ji9)).toNat * 5)).block, (rB.add (((ji9)).toNat * 5)).off + 2, none⟩ = some (.int .i64 ((rd_T44 xA (ji9)).f2)) ∧ w'.cell? ⟨(rB.add (((ji9)).toNat * 5)).block, (rB.add (((ji9)).toNat * 5)).off + 3, none⟩ = some (.int .i64 ((rd_T44 xA (ji9)).f3)) ∧ w'.cell? ⟨(rB.add (((ji9)).toNat * 5)).block, (rB.add (((ji9)).toNat * 5)).off + 4, none⟩ = some (.slice uC ((rd_T44 xA (ji9)).f4).length vC)) (ds := []) (List.replicate 18 false).toArray (by kernel_rfl) rfl rfl ⟨eD, fD, gD, hD, oC, kD, lD, mD, nD, pC⟩ (fun hHeld => ?_); refine with_tabW spec_DrawWriteBatch.tab6 spec_DrawWriteBatch.bits6 (fun HT_ HW_ => ?_)
 generalize mJ.drew = qD at lA yA kA eA dA sA jA HI0 HK HB eC fC wD zD eD fD gD hD oC kD lD mD nD pC hHeld ⊢
 refine pv_ 0 33 ?_
 refine pv_ 1 34 ?_
 refine pv_ 2 35 ?_
 refine pv_ 3 36 ?_
 refine pv_ 4 37 ?_
 refine pv_ 5 38 ?_
 refine pv_ 7 40 ?_
 refine pv_ 8 41 ?_
 refine pv_ 9 42 ?_
 refine pv_ 10 43 ?_
 refine pv_ 11 44 ?_
 refine pv_ 12 45 ?_
 refine tk_ 6 39 ?_
 refine tk_ 13 46 ?_
 refine pv_ 14 47 ?_
 refine pv_ 15 48 ?_
 refine pv_ 16 49 ?_
 refine one_ (i := 17) (N := none) #[true, true, true, true, true, true, true, true, true, true, true, true, true, true, true, true, true, true] rfl rfl (one_of HT_.out (by kernel_rfl)) (by decide) (fun K hK => ?_)
 obtain ⟨hs34, hfs34⟩ := cf1_ jA.out
 have hns34_0 := gB.out
 have hns34_1 := pA.out
 have hns34_2 := oB.out
 have hms34_0 := rA.out
 have hms34_1 := aA.out
 have hms34_2 := aC.out
 refine skip_ (w1 := ?_) (by rfl) rfl ?_ ?_
 rotate_left
 ·go_simp
  rfl
 refine hK.out _ _ ⟨((cell_far (p := ⟨cA, _, none⟩) (by first | exact Kd.own_blk (Kd.S_away kA.out (fun _ hk => hk.2)) | (rw [add_block]; exact Kd.own_blk (Kd.S_away kA.out (fun _ hk => hk.2))) | (show (Addr.add _ _).block ≠ _; rw [add_block]; exact Kd.own_blk (Kd.S_away kA.out (fun _ hk => hk.2))) | (dsimp only; exact Kd.own_blk (Kd.S_away kA.out (fun _ hk => hk.2)))) _).trans (hHeld.1)), ((cell_far (p := ⟨cA, _, none⟩) (by first | exact Kd.own_blk (Kd.S_away kA.out (fun _ hk => hk.2)) | (rw [add_block]; exact Kd.own_blk (Kd.S_away kA.out (fun _ hk => hk.2))) | (show (Addr.add _ _).block ≠ _; rw [add_block]; exact Kd.own_blk (Kd.S_away kA.out (fun _ hk => hk.2))) | (dsimp only; exact Kd.own_blk (Kd.S_away kA.out (fun _ hk => hk.2)))) _).trans (hHeld.2.1)), ((cell_far (p := ⟨cA, _, none⟩) (by first | exact Kd.own_blk (Kd.S_away kA.out (fun _ hk => hk.2)) | (rw [add_block]; exact Kd.own_blk (Kd.S_away kA.out (fun _ hk => hk.2))) | (show (Addr.add _ _).block ≠ _; rw [add_block]; exact Kd.own_blk (Kd.S_away kA.out (fun _ hk => hk.2))) | (dsimp only; exact Kd.own_blk (Kd.S_away kA.out (fun _ hk => hk.2)))) _).trans (hHeld.2.2.1)), ((cell_far (p := ⟨cA, _, none⟩) (by first | exact Kd.own_blk (Kd.S_away kA.out (fun _ hk => hk.2)) | (rw [add_block]; exact Kd.own_blk (Kd.S_away kA.out (fun _ hk => hk.2))) | (show (Addr.add _ _).block ≠ _; rw [add_block]; exact Kd.own_blk (Kd.S_away kA.out (fun _ hk => hk.2))) | (dsimp only; exact Kd.own_blk (Kd.S_away kA.out (fun _ hk => hk.2)))) _).trans (hHeld.2.2.2.1)), ((cell_far (p := ⟨cA, _, none⟩) (by first | exact Kd.own_blk (Kd.S_away kA.out (fun _ hk => hk.2)) | (rw [add_block]; exact Kd.own_blk (Kd.S_away kA.out (fun _ hk => hk.2))) | (show (Addr.add _ _).block ≠ _; rw [add_block]; exact Kd.own_blk (Kd.S_away kA.out (fun _ hk => hk.2))) | (dsimp only; exact Kd.own_blk (Kd.S_away kA.out (fun _ hk => hk.2)))) _).trans (hHeld.2.2.2.2.1)), ((cell_far (p := ⟨cA, _, none⟩) (by first | exact Kd.own_blk (Kd.S_away kA.out (fun _ hk => hk.2)) | (rw [add_block]; exact Kd.own_blk (Kd.S_away kA.out (fun _ hk => hk.2))) | (show (Addr.add _ _).block ≠ _; rw [add_block]; exact Kd.own_blk (Kd.S_away kA.out (fun _ hk => hk.2))) | (dsimp only; exact Kd.own_blk (Kd.S_away kA.out (fun _ hk => hk.2)))) _).trans (hHeld.2.2.2.2.2.1)), ((cell_far (p := ⟨cA, _, none⟩) (by first | exact Kd.own_blk (Kd.S_away kA.out (fun _ hk => hk.2)) | (rw [add_block]; exact Kd.own_blk (Kd.S_away kA.out (fun _ hk => hk.2))) | (show (Addr.add _ _).block ≠ _; rw [add_block]; exact Kd.own_blk (Kd.S_away kA.out (fun _ hk => hk.2))) | (dsimp only; exact Kd.own_blk (Kd.S_away kA.out (fun _ hk => hk.2)))) _).trans (hHeld.2.2.2.2.2.2.1)), ((cell_far (p := ⟨cA, _, none⟩) (by first | exact Kd.own_blk (Kd.S_away kA.out (fun _ hk => hk.2)) | (rw [add_block]; exact Kd.own_blk (Kd.S_away kA.out (fun _ hk => hk.2))) | (show (Addr.add _ _).block ≠ _; rw [add_block]; exact Kd.own_blk (Kd.S_away kA.out (fun _ hk => hk.2))) | (dsimp only; exact Kd.own_blk (Kd.S_away kA.out (fun _ hk => hk.2)))) _).trans (hHeld.2.2.2.2.2.2.2.1)), ((cell_far (p := ⟨cA, _, none⟩) (by first | exact Kd.own_blk (Kd.S_away kA.out (fun _ hk => hk.2)) | (rw [add_block]; exact Kd.own_blk (Kd.S_away kA.out (fun _ hk => hk.2))) | (show (Addr.add _ _).block ≠ _; rw [add_block]; exact Kd.own_blk (Kd.S_away kA.out (fun _ hk => hk.2))) | (dsimp only; exact Kd.own_blk (Kd.S_away kA.out (fun _ hk => hk.2)))) _).trans (hHeld.2.2.2.2.2.2.2.2.1)), ((cell_far (p := ⟨cA, _, none⟩) (by first | exact Kd.own_blk (Kd.S_away kA.out (fun _ hk => hk.2)) | (rw [add_block]; exact Kd.own_blk (Kd.S_away kA.out (fun _ hk => hk.2))) | (show (Addr.add _ _).block ≠ _; rw [add_block]; exact Kd.own_blk (Kd.S_away kA.out (fun _ hk => hk.2))) | (dsimp only; exact Kd.own_blk (Kd.S_away kA.out (fun _ hk => hk.2)))) _).trans (hHeld.2.2.2.2.2.2.2.2.2))⟩ (fun hHeld => ?_)
 clear hK K
 refine done_ (done_of HT_.out (by kernel_rfl)) ?_
 obtain ⟨fG, gG, hG, iG, jG, kG, lG, mG, nG, oG⟩ := cf5_ jA.out
 try go_wp2
 have n0_ : Aside0 (Kd.R k56 56 ((qD.setCell ⟨cA, 0, none⟩ (.int .i64 (wrap64 (((rd_T44 xA (ji9)).f0) + (((rd_T44 xA (ji9)).f4).length : Int))))).setCell ⟨cA, 1, none⟩ (.int .i64 2)) w.heap.size (fun _ => True) (.slice (some eB) jB.length tC) jB) := ⟨Kd.R_mono (rF_ (Kd.R_types lA.out jA.out (by decide))) (fun _ hk => trivial)⟩
 have n1_ : Aside0 (Kd.R Kd.string 9 ((qD.setCell ⟨cA, 0, none⟩ (.int .i64 (wrap64 (((rd_T44 xA (ji9)).f0) + (((rd_T44 xA (ji9)).f4).length : Int))))).setCell ⟨cA, 1, none⟩ (.int .i64 2)) w.heap.size (fun _ => True) (.slice kC uB.length lC) uB) := ⟨Kd.R_mono (rF_ (Kd.R_types yA.out jA.out (by decide))) (fun _ hk => trivial)⟩
 have n2_ : Aside0 (Kd.S k44 44 ((qD.setCell ⟨cA, 0, none⟩ (.int .i64 (wrap64 (((rd_T44 xA (ji9)).f0) + (((rd_T44 xA (ji9)).f4).length : Int))))).setCell ⟨cA, 1, none⟩ (.int .i64 2)) w.heap.size (fun k_ => some k_ ≠ (.slice kC uB.length lC : Value).ownBlock ∧ k_ ≠ bA ∧ k_ ≠ cA) (.slice (some rB) xA.length dE) xA) := ⟨Kd.S_mono (sF_ (Kd.S_mono kA.out (fun k_ hk => (⟨hk, hk.2⟩ : _ ∧ k_ ≠ cA)))) (fun _ hk => ⟨hk.1.1.1.2, ⟨hk.1.1.2, hk.1.2⟩⟩)⟩
 have n3_ : Aside0 (Kd.R Kd.string 9 ((qD.setCell ⟨cA, 0, none⟩ (.int .i64 (wrap64 (((rd_T44 xA (ji9)).f0) + (((rd_T44 xA (ji9)).f4).length : Int))))).setCell ⟨cA, 1, none⟩ (.int .i64 2)) w.heap.size (fun k_ => some k_ ≠ (.slice kC uB.length lC : Value).ownBlock ∧ some k_ ≠ (.slice (some rB) xA.length dE : Value).ownBlock ∧ k_ ≠ bA ∧ k_ ≠ cA) (.slice uC ((rd_T44 xA (ji9)).f4).length vC) ((rd_T44 xA (ji9)).f4)) := ⟨Kd.R_mono (rF_ (Kd.R_types eC.out jA.out (by decide))) (fun _ hk => ⟨hk.1.1.1.1.2, ⟨hk.1.2, ⟨hk.1.1.1.2, hk.1.1.2⟩⟩⟩)⟩
 have n4_ : Aside0 (Kd.R Kd.string 9 ((qD.setCell ⟨cA, 0, none⟩ (.int .i64 (wrap64 (((rd_T44 xA (ji9)).f0) + (((rd_T44 xA (ji9)).f4).length : Int))))).setCell ⟨cA, 1, none⟩ (.int .i64 2)) w.heap.size (fun k_ => some k_ ≠ (.slice kC uB.length lC : Value).ownBlock ∧ some k_ ≠ (.slice (some rB) xA.length dE : Value).ownBlock ∧ k_ ≠ bA ∧ k_ ≠ cA) (.slice uC ((rd_T44 xA (ji9)).f4).length vC) ((rd_T44 xA (ji9)).f4)) := ⟨Kd.R_mono (rF_ (Kd.R_types fC.out jA.out (by decide))) (fun _ hk => ⟨hk.1.1.1.1.2, ⟨hk.1.2, ⟨hk.1.1.1.2, hk.1.1.2⟩⟩⟩)⟩
 have n5_ : Aside0 (((qD.setCell ⟨cA, 0, none⟩ (.int .i64 (wrap64 (((rd_T44 xA (ji9)).f0) + (((rd_T44 xA (ji9)).f4).length : Int))))).setCell ⟨cA, 1, none⟩ (.int .i64 2)).heap[oA]? = some (.cells #[.slice none 0 0] 31 (0, 0))) := ⟨uf_ eA gB.out⟩
 have n6_ : Aside0 (((qD.setCell ⟨cA, 0, none⟩ (.int .i64 (wrap64 (((rd_T44 xA (ji9)).f0) + (((rd_T44 xA (ji9)).f4).length : Int))))).setCell ⟨cA, 1, none⟩ (.int .i64 2)).heap[bA]? = some (.cells #[.int .i64 0, .int .i64 0, .int .i64 0, .int .i64 0, .slice none 0 0] 44 (0, 0))) := ⟨uf_ dA pA.out⟩
 have n7_ : Aside0 (((qD.setCell ⟨cA, 0, none⟩ (.int .i64 (wrap64 (((rd_T44 xA (ji9)).f0) + (((rd_T44 xA (ji9)).f4).length : Int))))).setCell ⟨cA, 1, none⟩ (.int .i64 2)).heap[fB]? = some (.cells #[.slice (some eB) jB.length tC] 31 (0, 0))) := ⟨uf_ sA oB.out⟩
 have n8_ : Aside0 (((qD.setCell ⟨cA, 0, none⟩ (.int .i64 (wrap64 (((rd_T44 xA (ji9)).f0) + (((rd_T44 xA (ji9)).f4).length : Int))))).setCell ⟨cA, 1, none⟩ (.int .i64 2)).heap[cA]? = some (.cells #[.int .i64 (wrap64 (((rd_T44 xA (ji9)).f0) + (((rd_T44 xA (ji9)).f4).length : Int))), .int .i64 2, .int .i64 sB, .int .i64 wB, .slice kC uB.length lC] 44 (0, 0))) := ⟨up_ jA⟩
 have n9_ : Aside0 (IsS92 w ((qD.setCell ⟨cA, 0, none⟩ (.int .i64 (wrap64 (((rd_T44 xA (ji9)).f0) + (((rd_T44 xA (ji9)).f4).length : Int))))).setCell ⟨cA, 1, none⟩ (.int .i64 2)) g l0 bE cE) := ⟨iS92_4_ gA.out iA.out vA.out iB.out⟩
 have n10_ : Aside0 (KeepBut w ((qD.setCell ⟨cA, 0, none⟩ (.int .i64 (wrap64 (((rd_T44 xA (ji9)).f0) + (((rd_T44 xA (ji9)).f4).length : Int))))).setCell ⟨cA, 1, none⟩ (.int .i64 2)) g none) := ⟨kp4_ tA.out wA.out nB.out gC.out⟩
 have n11_ : Aside0 (Below w.heap.size w ((qD.setCell ⟨cA, 0, none⟩ (.int .i64 (wrap64 (((rd_T44 xA (ji9)).f0) + (((rd_T44 xA (ji9)).f4).length : Int))))).setCell ⟨cA, 1, none⟩ (.int .i64 2))) := ⟨hs5_ (IsS92.ge HI0.out) hB.out mB.out zB.out hC.out⟩
 (try clear lA)
 (try clear yA)
 (try clear kA)
 (try clear eC)
 (try clear fC)
 (try clear eA)
 (try clear dA)
 (try clear sA)
 (try clear jA)
 (try clear HI0)
 (try clear HK)
 (try clear HB)
 generalize ((qD.setCell ⟨cA, 0, none⟩ (.int .i64 (wrap64 (((rd_T44 xA (ji9)).f0) + (((rd_T44 xA (ji9)).f4).length : Int))))).setCell ⟨cA, 1, none⟩ (.int .i64 2)) = nJ at n0_ n1_ n2_ n3_ n4_ n5_ n6_ n7_ n8_ n9_ n10_ n11_ ⊢
 have lA := n0_
 have yA := n1_
 have kA := n2_
 have eC := n3_
 have fC := n4_
 have eA := n5_
 have dA := n6_
 have sA := n7_
 have jA := n8_
 have HI0 := n9_
 have HK := n10_
 have HB := n11_
 clear n0_ n1_ n2_ n3_ n4_ n5_ n6_ n7_ n8_ n9_ n10_ n11_
 replace lA := qR_ lA
 replace yA := qR_ yA
 replace kA := Aside0.mk (Kd.S_drew kA.out)
 replace eC := qR_ eC
 replace fC := qR_ fC
 replace eA := qK_ eA
 replace dA := qK_ dA
 replace sA := qK_ sA
 replace jA := qK_ jA
 replace HI0 := Aside0.mk (IsS92.drew HI0.out)
 replace HK := Aside0.mk (keep_drew HK.out)
 replace HB := qH_ HB
 refine start_ (n := 5) (S := fun w' => w'.cell? ⟨fB, 0, none⟩ = some (.slice (some eB) jB.length tC) ∧ w'.cell? ⟨cA, 0, none⟩ = some (.int .i64 (wrap64 (((rd_T44 xA (ji9)).f0) + (((rd_T44 xA (ji9)).f4).length : Int)))) ∧ w'.cell? ⟨cA, 1, none⟩ = some (.int .i64 2) ∧ w'.cell? ⟨cA, 2, none⟩ = some (.int .i64 sB) ∧ w'.cell? ⟨cA, 3, none⟩ = some (.int .i64 wB) ∧ w'.cell? ⟨cA, 4, none⟩ = some (.slice kC uB.length lC)) (ds := []) #[false, false, false, false, false] (by kernel_rfl) rfl rfl ⟨bt_ sA 0, bt_ jA 0, bt_ jA 1, bt_ jA 2, bt_ jA 3, bt_ jA 4⟩ (fun hHeld => ?_)
 generalize nJ.drew = pG at lA yA kA eC fC eA dA sA jA HI0 HK HB hHeld ⊢
 refine take_ (i := 0) (N := some 51) (v := ?_) (a' := ?_) #[true, false, false, false, false] rfl rfl (by kernel_rfl) (fun _ _ _ h => h) (Or.inl ⟨by rfl, ?_⟩) hHeld ?_ ?_
 rotate_left
 ·rintro w' ⟨s0, s1, s2, s3, s4, s5⟩
  go_simp
  with_reducible rfl
 rotate_left
 ·simp only [Act.put, List.setIfInBounds_toArray, List.set_cons_zero, List.set_cons_succ, i64_w, i32_w]
  rfl
 refine take_ (i := 1) (N := some 52) (v := ?_) (a' := ?_) #[true, true, false, false, false] rfl rfl (by kernel_rfl) (fun _ _ _ h => h) (Or.inl ⟨by rfl, ?_⟩) hHeld ?_ ?_
 rotate_left
 ·rintro w' ⟨s0, s1, s2, s3, s4, s5⟩
  go_simp
  with_reducible rfl
 rotate_left
 ·simp only [Act.put, List.setIfInBounds_toArray, List.set_cons_zero, List.set_cons_succ, i64_w, i32_w]
  rfl
 refine one_ (i := 2) (N := none) #[true, true, true, false, false] rfl rfl (by kernel_rfl) (by decide) (fun K hK => ?_)
 obtain ⟨hs38, hfs38⟩ := cf1_ eA.out
 have hns38_1 := qA.out
 have hns38_2 := lB.out
 have hns38_3 := rA.out
 have hms38_1 := fA.out
 have hms38_2 := kB.out
 have hms38_3 := gB.out
 refine skip_ (w1 := ?_) (by rfl) rfl ?_ ?_
 rotate_left
 ·go_simp
  rfl
 refine hK.out _ _ ⟨((cell_far (p := ⟨oA, _, none⟩) lB.out _).trans (hHeld.1)), ((cell_far (p := ⟨oA, _, none⟩) rA.out _).trans (hHeld.2.1)), ((cell_far (p := ⟨oA, _, none⟩) rA.out _).trans (hHeld.2.2.1)), ((cell_far (p := ⟨oA, _, none⟩) rA.out _).trans (hHeld.2.2.2.1)), ((cell_far (p := ⟨oA, _, none⟩) rA.out _).trans (hHeld.2.2.2.2.1)), ((cell_far (p := ⟨oA, _, none⟩) rA.out _).trans (hHeld.2.2.2.2.2))⟩ (fun hHeld => ?_)
 clear hK K
 refine pure_ (i := 3) (N := some 3) (v := ?_) (a' := ?_) #[true, true, true, true, false] rfl rfl (by kernel_rfl) (fun _ _ _ h => h) (Or.inl ⟨by rfl, ?_⟩) ?_ ?_
 rotate_left
 ·intro w'
  go_simp
  with_reducible rfl
 rotate_left
 ·simp only [Act.put, List.setIfInBounds_toArray, List.set_cons_zero, List.set_cons_succ, i64_w, i32_w]
  rfl
 refine one_ (i := 4) (N := none) #[true, true, true, true, true] rfl rfl (by kernel_rfl) (by decide) (fun K hK => ?_)
 obtain ⟨hs39, hfs39⟩ := cf1_ dA.out
 have hns39_0 := fA.out
 have hns39_2 := hA.out
 have hns39_3 := aA.out
 have hms39_0 := qA.out
 have hms39_2 := uA.out
 have hms39_3 := pA.out
 have hs40 : pG.cell? ⟨bA, 1, none⟩ = some (.int .i64 0) := bt_ dA 1
 have hfs40 := blk_frozen dA.out 1
 have hns40_0 := fA.out
 have hns40_2 := hA.out
 have hns40_3 := aA.out
 have hms40_0 := qA.out
 have hms40_2 := uA.out
 have hms40_3 := pA.out
 have hs41 : pG.cell? ⟨bA, 2, none⟩ = some (.int .i64 0) := bt_ dA 2
 have hfs41 := blk_frozen dA.out 2
 have hns41_0 := fA.out
 have hns41_2 := hA.out
 have hns41_3 := aA.out
 have hms41_0 := qA.out
 have hms41_2 := uA.out
 have hms41_3 := pA.out
 have hs42 : pG.cell? ⟨bA, 3, none⟩ = some (.int .i64 0) := bt_ dA 3
 have hfs42 := blk_frozen dA.out 3
 have hns42_0 := fA.out
 have hns42_2 := hA.out
 have hns42_3 := aA.out
 have hms42_0 := qA.out
 have hms42_2 := uA.out
 have hms42_3 := pA.out
 have hs43 : pG.cell? ⟨bA, 4, none⟩ = some (.slice none 0 0) := bt_ dA 4
 have hfs43 := blk_frozen dA.out 4
 have hns43_0 := fA.out
 have hns43_2 := hA.out
 have hns43_3 := aA.out
 have hms43_0 := qA.out
 have hms43_2 := uA.out
 have hms43_3 := pA.out
 refine skip_ (w1 := ?_) (by rfl) rfl ?_ ?_
 rotate_left
 ·go_simp
  rfl
 refine hK.out _ _ ⟨((cell_far (p := ⟨bA, _, none⟩) hA.out _).trans (((cell_far (p := ⟨bA, _, none⟩) hA.out _).trans (((cell_far (p := ⟨bA, _, none⟩) hA.out _).trans (((cell_far (p := ⟨bA, _, none⟩) hA.out _).trans (((cell_far (p := ⟨bA, _, none⟩) hA.out _).trans (hHeld.1)))))))))), ((cell_far (p := ⟨bA, _, none⟩) aA.out _).trans (((cell_far (p := ⟨bA, _, none⟩) aA.out _).trans (((cell_far (p := ⟨bA, _, none⟩) aA.out _).trans (((cell_far (p := ⟨bA, _, none⟩) aA.out _).trans (((cell_far (p := ⟨bA, _, none⟩) aA.out _).trans (hHeld.2.1)))))))))), ((cell_far (p := ⟨bA, _, none⟩) aA.out _).trans (((cell_far (p := ⟨bA, _, none⟩) aA.out _).trans (((cell_far (p := ⟨bA, _, none⟩) aA.out _).trans (((cell_far (p := ⟨bA, _, none⟩) aA.out _).trans (((cell_far (p := ⟨bA, _, none⟩) aA.out _).trans (hHeld.2.2.1)))))))))), ((cell_far (p := ⟨bA, _, none⟩) aA.out _).trans (((cell_far (p := ⟨bA, _, none⟩) aA.out _).trans (((cell_far (p := ⟨bA, _, none⟩) aA.out _).trans (((cell_far (p := ⟨bA, _, none⟩) aA.out _).trans (((cell_far (p := ⟨bA, _, none⟩) aA.out _).trans (hHeld.2.2.2.1)))))))))), ((cell_far (p := ⟨bA, _, none⟩) aA.out _).trans (((cell_far (p := ⟨bA, _, none⟩) aA.out _).trans (((cell_far (p := ⟨bA, _, none⟩) aA.out _).trans (((cell_far (p := ⟨bA, _, none⟩) aA.out _).trans (((cell_far (p := ⟨bA, _, none⟩) aA.out _).trans (hHeld.2.2.2.2.1)))))))))), ((cell_far (p := ⟨bA, _, none⟩) aA.out _).trans (((cell_far (p := ⟨bA, _, none⟩) aA.out _).trans (((cell_far (p := ⟨bA, _, none⟩) aA.out _).trans (((cell_far (p := ⟨bA, _, none⟩) aA.out _).trans (((cell_far (p := ⟨bA, _, none⟩) aA.out _).trans (hHeld.2.2.2.2.2))))))))))⟩ (fun hHeld => ?_)
 clear hK K
 refine done_ (by kernel_rfl) ?_
 try go_wp2
 refine bodyPost_ret (results_list (rs := [.cell 2 31, .tmp 3, .cell 4 44]) rfl (by simp) (.cell oA 31 #[.slice (some eB) jB.length tC] (0, 0) _ rfl (by (with_reducible repeat (first | refine blk_drewN ?_ _ | refine blk_drew ?_ | refine blk_alloc ?_ _)); refine blk_far ?_ fA.out _; (with_reducible repeat (first | refine blk_drewN ?_ _ | refine blk_drew ?_ | refine blk_alloc ?_ _)); refine blk_far ?_ fA.out _; (with_reducible repeat (first | refine blk_drewN ?_ _ | refine blk_drew ?_ | refine blk_alloc ?_ _)); refine blk_far ?_ fA.out _; (with_reducible repeat (first | refine blk_drewN ?_ _ | refine blk_drew ?_ | refine blk_alloc ?_ _)); refine blk_far ?_ fA.out _; (with_reducible repeat (first | refine blk_drewN ?_ _ | refine blk_drew ?_ | refine blk_alloc ?_ _)); refine blk_far ?_ fA.out _; (with_reducible repeat (first | refine blk_drewN ?_ _ | refine blk_drew ?_ | refine blk_alloc ?_ _)); refine blk_put (cs := #[.slice none 0 0]) ?_ 0 _ rfl; (with_reducible repeat (first | refine blk_drewN ?_ _ | refine blk_drew ?_ | refine blk_alloc ?_ _)); exact eA.out) Try.underlying31 rfl (by kernel_rfl) (.tmp (.cell bA 44 #[.int .i64 (wrap64 (((rd_T44 xA (ji9)).f0) + (((rd_T44 xA (ji9)).f4).length : Int))), .int .i64 2, .int .i64 sB, .int .i64 wB, .slice kC uB.length lC] (0, 0) _ rfl (by (with_reducible repeat (first | refine blk_drewN ?_ _ | refine blk_drew ?_ | refine blk_alloc ?_ _)); refine blk_put (cs := #[.int .i64 (wrap64 (((rd_T44 xA (ji9)).f0) + (((rd_T44 xA (ji9)).f4).length : Int))), .int .i64 2, .int .i64 sB, .int .i64 wB, .slice none 0 0]) ?_ 4 _ rfl; (with_reducible repeat (first | refine blk_drewN ?_ _ | refine blk_drew ?_ | refine blk_alloc ?_ _)); refine blk_put (cs := #[.int .i64 (wrap64 (((rd_T44 xA (ji9)).f0) + (((rd_T44 xA (ji9)).f4).length : Int))), .int .i64 2, .int .i64 sB, .int .i64 0, .slice none 0 0]) ?_ 3 _ rfl; (with_reducible repeat (first | refine blk_drewN ?_ _ | refine blk_drew ?_ | refine blk_alloc ?_ _)); refine blk_put (cs := #[.int .i64 (wrap64 (((rd_T44 xA (ji9)).f0) + (((rd_T44 xA (ji9)).f4).length : Int))), .int .i64 2, .int .i64 0, .int .i64 0, .slice none 0 0]) ?_ 2 _ rfl; (with_reducible repeat (first | refine blk_drewN ?_ _ | refine blk_drew ?_ | refine blk_alloc ?_ _)); refine blk_put (cs := #[.int .i64 (wrap64 (((rd_T44 xA (ji9)).f0) + (((rd_T44 xA (ji9)).f4).length : Int))), .int .i64 0, .int .i64 0, .int .i64 0, .slice none 0 0]) ?_ 1 _ rfl; (with_reducible repeat (first | refine blk_drewN ?_ _ | refine blk_drew ?_ | refine blk_alloc ?_ _)); refine blk_put (cs := #[.int .i64 0, .int .i64 0, .int .i64 0, .int .i64 0, .slice none 0 0]) ?_ 0 _ rfl; (with_reducible repeat (first | refine blk_drewN ?_ _ | refine blk_drew ?_ | refine blk_alloc ?_ _)); refine blk_far ?_ qA.out _; (with_reducible repeat (first | refine blk_drewN ?_ _ | refine blk_drew ?_ | refine blk_alloc ?_ _)); exact dA.out) Try.underlying44 rfl (by kernel_rfl) .nil)))) rfl ?_
 exact ⟨_, _, by first | rfl | (simp [errW_none, errW_some] <;> rfl) | (simp only [← hji9]; first | rfl | (simp [errW_none, errW_some] <;> rfl)) | (simp [*, errW_none, errW_some] <;> rfl), Kd.R_mono (rF_ (Kd.R_far (p := ⟨oA, 0, none⟩) (Kd.R_types (Kd.R_types lA.out eA.out (by decide)) dA.out (by decide)) (fun _ hk => hk.1.2) (.slice (some eB) jB.length tC))) (fun _ hk => trivial), Kd.R_mono (rF_ (Kd.R_far (p := ⟨oA, 0, none⟩) (Kd.R_types (Kd.R_types yA.out eA.out (by decide)) dA.out (by decide)) (fun _ hk => hk.1.2) (.slice (some eB) jB.length tC))) (fun _ hk => trivial), hs5_ (IsS92.ge HI0.out) hB.out mB.out zB.out hC.out⟩
end Go.Proofs.Ytpdpipfkllfhmaa.QFnDisks
