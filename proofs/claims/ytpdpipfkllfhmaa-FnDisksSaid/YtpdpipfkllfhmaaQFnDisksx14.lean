/- Functions that one statement reaches: of each a plain function, and the proof that calls come to it. Conditions: those that each contract names. Written by a program of this repository. -/
import Derived.Test.YtpdpipfkllfhmaaVFnDisksa
import Derived.Test.YtpdpipfkllfhmaaQFnDisksx3
import Derived.Test.YtpdpipfkllfhmaaQFnDisksx6
import Derived.Test.YtpdpipfkllfhmaaQFnDisksx8
import Derived.Test.YtpdpipfkllfhmaaQFnDisksx11
import Derived.Test.YtpdpipfkllfhmaaQFnDisksx12
import Derived.Test.YtpdpipfkllfhmaaQFnDisksx13
namespace Go.Proofs.Ytpdpipfkllfhmaa.QFnDisks
open Go.RowKit Go.Proofs.YtpdpipfkllfhmaaW.PrintWords Go.Proofs.YtpdpipfkllfhmaaW.PrintLast Go.Proofs.YtpdpipfkllfhmaaW.PrintMore
attribute [local go_sem] max2_int min2_int max_two min_two max_three min_three max_four min_four Go.Proofs.YtpdpipfkllfhmaaW.PrintMore2.isSome_setCell   -- for this text's walks alone
set_option linter.unusedVariables false
set_option linter.unusedSimpArgs false

/-! ### spec_l1Cur_disk: function 70 -/
mutual
def spec_l1Cur_disk.l0 : Nat → Int → Int → List Int → Int → Int → List (S56) → Option ((List (S56)) × Int × Int)
 | 0, _, _, _, _, _, _ => none
 | k + 1, x5, x6, x1000, x1001, x1002, x379000 => if x6 > 0 then ((spec_l1Cur_batch.f k x1000 x1001 x1002).bind fun bt382 => ((spec_GoodBatch.f k bt382.1 bt382.2.1 bt382.2.2.1 bt382.2.2.2.1 bt382.2.2.2.2.1).bind fun t392 => (if t392 = true then ((spec_WriteBatch.f k x379000 0 x5 1 bt382.2.2.1 bt382.2.2.2.1 bt382.2.2.2.2.1).bind fun bt393 => (if bt393.2 = true then (spec_l1Cur_disk.j1 k (wrap64 (x5 + (bt382.2.2.2.2.1.length : Int))) x6 x1000 bt382.2.2.2.2.2.1 bt382.2.2.2.2.2.2 bt393.1) else (spec_l1Cur_disk.j1 k x5 x6 x1000 bt382.2.2.2.2.2.1 bt382.2.2.2.2.2.2 x379000))) else (spec_l1Cur_disk.l0 k x5 (wrap64 (x6 - 1)) x1000 bt382.2.2.2.2.2.1 bt382.2.2.2.2.2.2 x379000)))) else ((spec_l1Cur_pick.f x1000 x1001 x1002 (x379000.length : Int)).bind fun bt406 => ((spec_l1Cur_of.f x1000 bt406.2.1 bt406.2.2 (([(⟨#[]⟩ : ByteArray), (⟨#[]⟩ : ByteArray), (⟨#[116, 111, 114, 110]⟩ : ByteArray), (⟨#[0, 14, 0]⟩ : ByteArray)] : List ByteArray))).bind fun bt412 => ((spec_AppendTo.f k x379000 bt406.1 bt412.1).bind fun bt415 => (if bt415.2 = true then (spec_l1Cur_disk.j2 k x1000 bt412.2.1 bt412.2.2 bt415.1) else (spec_l1Cur_disk.j2 k x1000 bt412.2.1 bt412.2.2 x379000)))))
def spec_l1Cur_disk.j1 : Nat → Int → Int → List Int → Int → Int → List (S56) → Option ((List (S56)) × Int × Int)
 | 0, _, _, _, _, _, _ => none
 | k + 1, x5, x6, x1000, x1001, x1002, x379000 => (spec_SyncFile.f k x379000 0).bind fun bt398 => (if bt398.2 = true then ((spec_l1Cur_one.f x1000 x1001 x1002 3).bind fun bt403 => (if bt403.1 = true then (spec_l1Cur_disk.l0 k x5 (wrap64 (x6 - 1)) x1000 bt403.2.1 bt403.2.2 bt398.1) else (spec_l1Cur_disk.l0 k x5 (wrap64 (x6 - 1)) x1000 bt403.2.1 bt403.2.2 x379000))) else (spec_l1Cur_disk.l0 k x5 (wrap64 (x6 - 1)) x1000 x1001 x1002 x379000))
def spec_l1Cur_disk.j2 : Nat → List Int → Int → Int → List (S56) → Option ((List (S56)) × Int × Int)
 | 0, _, _, _, _ => none
 | k + 1, x1000, x1001, x1002, x379000 => (spec_l1Cur_one.f x1000 x1001 x1002 20).bind fun bt420 => (if bt420.1 = true then (if 0 < (x379000.length : Int) then ((spec_l1Cur_among.f x1000 bt420.2.1 bt420.2.2 (([(-1), 0, (((rd_T56 x379000 0).f0).size : Int), wrap64 ((((rd_T56 x379000 0).f0).size : Int) + 1)] : List Int))).bind fun bt428 => (some ((x379000.set (0 : Int).toNat (⟨(rd_T56 x379000 0).f0, bt428.1⟩ : S56)), bt428.2.1, bt428.2.2))) else (none)) else (some (x379000, bt420.2.1, bt420.2.2)))
end
def spec_l1Cur_disk.f (k : Nat) (s0_0 : List Int) (s0_1 : Int) (s0_2 : Int) : Option ((List (S56)) × Int × Int) := (spec_l1Cur_pick.f s0_0 s0_1 s0_2 3).bind fun bt371 => ((spec_NewDisk.f (wrap64 (1 + bt371.1))).bind fun bt374 => ((spec_l1Cur_pick.f s0_0 bt371.2.1 bt371.2.2 8).bind fun bt379 => (spec_l1Cur_disk.l0 k 0 bt379.1 s0_0 bt379.2.1 bt379.2.2 bt374.1)))
theorem spec_l1Cur_disk.mono_l : ∀ k, (∀ y0 y1 y2 y3 y4 y5, LeO (spec_l1Cur_disk.l0 k y0 y1 y2 y3 y4 y5) (spec_l1Cur_disk.l0 (k + 1) y0 y1 y2 y3 y4 y5)) ∧ (∀ y0 y1 y2 y3 y4 y5, LeO (spec_l1Cur_disk.j1 k y0 y1 y2 y3 y4 y5) (spec_l1Cur_disk.j1 (k + 1) y0 y1 y2 y3 y4 y5)) ∧ (∀ y0 y1 y2 y3, LeO (spec_l1Cur_disk.j2 k y0 y1 y2 y3) (spec_l1Cur_disk.j2 (k + 1) y0 y1 y2 y3))
 | 0 => ⟨fun _ _ _ _ _ _ r h => by simp [spec_l1Cur_disk.l0] at h, fun _ _ _ _ _ _ r h => by simp [spec_l1Cur_disk.j1] at h, fun _ _ _ _ r h => by simp [spec_l1Cur_disk.j2] at h⟩
 | k + 1 => by
  obtain ⟨ih0, ih1, ih2⟩ := spec_l1Cur_disk.mono_l k
  refine ⟨?_, ?_, ?_⟩
  all_goals intros; first | unfold spec_l1Cur_disk.l0 | unfold spec_l1Cur_disk.j1 | unfold spec_l1Cur_disk.j2
  all_goals repeat' first | (with_reducible first | apply ih0 | apply ih1 | apply ih2 | apply spec_AppendTo.mono | apply spec_GoodBatch.mono | apply spec_SyncFile.mono | apply spec_WriteBatch.mono | apply spec_l1Cur_batch.mono | exact LeO.refl _ | exact LeO.none _ | refine LeO.ite ?_ ?_ | refine LeO.bind ?_ (fun _ => ?_))
theorem spec_l1Cur_disk.mono : ∀ a0 a1 a2 k, LeO (spec_l1Cur_disk.f k a0 a1 a2) (spec_l1Cur_disk.f (k + 1) a0 a1 a2) := by
 intro a0 a1 a2 k
 obtain ⟨ih0, ih1, ih2⟩ := spec_l1Cur_disk.mono_l k
 unfold spec_l1Cur_disk.f
 repeat' first
   | (with_reducible first | apply ih0 | apply ih1 | apply ih2 | apply spec_AppendTo.mono | apply spec_GoodBatch.mono | apply spec_SyncFile.mono | apply spec_WriteBatch.mono | apply spec_l1Cur_batch.mono | exact LeO.refl _ | exact LeO.none _ | refine LeO.ite ?_ ?_ | refine LeO.bind ?_ (fun _ => ?_))
def spec_l1Cur_disk.T17 : Bool × List (List Nat × List Nat) := (true, [([], []), ([], []), ([], []), ([2], [2]), ([3], [3]), ([1, 4], [1, 4]), ([], []), ([], []), ([6, 7, 5], [6, 7]), ([0, 5, 8, 8], [0, 5, 8]), ([9], [9]), ([10], [10]), ([10], [10]), ([], []), ([13, 11, 9, 0, 1, 2, 3, 4, 5, 6, 7, 8, 9, 10, 11, 13], [11, 13]), ([12, 14, 0, 1, 2, 3, 4, 5, 6, 7, 8, 9, 10, 11, 12, 13, 14], [12])])
def spec_l1Cur_disk.B17 : List Nat := [0, 0, 0, 4, 12, 30, 0, 0, 254, 511, 1023, 2047, 2047, 0, 12287, 32767]
theorem spec_l1Cur_disk.tab17 : rtab .any (opsOf Try.f70 17) = spec_l1Cur_disk.T17 := by kernel_rfl
theorem spec_l1Cur_disk.bits17 : waitsOk spec_l1Cur_disk.T17.2 spec_l1Cur_disk.B17 = true := by kernel_rfl
def spec_l1Cur_disk.T21 : Bool × List (List Nat × List Nat) := (true, [([], []), ([0], [0]), ([], []), ([], []), ([3], [3]), ([4], [4]), ([5], [5]), ([6], [6]), ([7], [7]), ([], []), ([9], [9]), ([10], [10]), ([11], [11]), ([12], [12]), ([13], [13]), ([14], [14]), ([8, 15], [8, 15]), ([2, 16], [2, 16]), ([1, 0, 1, 2, 3, 4, 5, 6, 7, 8, 9, 10, 11, 12, 13, 14, 15, 16, 17], [1]), ([18, 0, 1, 2, 3, 4, 5, 6, 7, 8, 9, 10, 11, 12, 13, 14, 15, 16, 17], [18]), ([19, 17, 17, 0, 1, 2, 3, 4, 5, 6, 7, 8, 9, 10, 11, 12, 13, 14, 15, 16, 17], [17, 19])])
def spec_l1Cur_disk.B21 : List Nat := [0, 1, 0, 0, 8, 24, 56, 120, 248, 0, 512, 1536, 3584, 7680, 15872, 32256, 65528, 131068, 262143, 524287, 1048575]
theorem spec_l1Cur_disk.tab21 : rtab .any (opsOf Try.f70 21) = spec_l1Cur_disk.T21 := by kernel_rfl
theorem spec_l1Cur_disk.bits21 : waitsOk spec_l1Cur_disk.T21.2 spec_l1Cur_disk.B21 = true := by kernel_rfl
set_option maxHeartbeats 80000000 in
set_option maxRecDepth 100000 in
theorem spec_l1Cur_disk.calls (k : Nat) (g : Nat) (s0_0 : List Int) (s0_1 : Int) (s0_2 : Int) (r1 : List (S56)) (r2 : Int) (r3 : Int) (w0 w : World) (hI : IsS92 w0 w g s0_0 s0_1 s0_2) (hB : Below w0.heap.size w0 w) (h : spec_l1Cur_disk.f k s0_0 s0_1 s0_2 = some (r1, r2, r3)) :
  Calls Try.prog 70 #[.pointer (some ⟨g, 0, none⟩)] w fun e w' => ∃ v0_ : Value, e = .returned (.agg #[v0_]) ∧ Kd.R k56 56 w' w.heap.size (fun _ => True) v0_ r1 ∧ IsS92 w0 w' g s0_0 r2 r3 ∧ Below w0.heap.size w0 w' ∧ KeepBut w w' g none := by
 have hu31 := Try.underlying31
 have hu44 := Try.underlying44
 have HI0 := Aside0.mk hI
 have HK := Aside0.mk (KeepBut.refl w g none)
 have HL := Aside0.mk hB.size
 clear hI
 have dF := Aside0.mk hB.size
 have HB := Aside0.mk hB
 clear hB
 have H : ((spec_l1Cur_pick.f s0_0 s0_1 s0_2 3).bind fun qF => ((spec_NewDisk.f (wrap64 (1 + qF.1))).bind fun qI => ((spec_l1Cur_pick.f s0_0 qF.2.1 qF.2.2 8).bind fun rF => (spec_l1Cur_disk.l0 k 0 rF.1 s0_0 rF.2.1 rF.2.2 qI.1)))) = some (r1, r2, r3) := h
 clear h
 replace H := bnd_ H
 obtain ⟨⟨aI, sF, tF⟩, A2, H⟩ := H
 replace H := red_ H
 replace H := bnd_ H
 obtain ⟨⟨uF, pL⟩, A3, H⟩ := H
 replace H := red_ H
 replace H := bnd_ H
 obtain ⟨⟨rI, sI, tI⟩, A4, H⟩ := H
 replace H := red_ H
 have H' := Aside0.mk H
 clear H
 go_enter Try.func70, Try.ntmps70
 go_wp2_with (first | ((with_reducible refine gate_dst (N := 2) rfl ?_); refine bq_ (N := 2) #[.slice none 0 0] 31 ?_; intro oA hg w5 fA hb; replace HB := Aside0.mk (below_step (hs_ (IsS92.ge HI0.out)) hb); have iA := Aside0.mk ((by rw [hg]; exact (keep_size (w := w) (g := g) (row := none) (kp0_)) : w.heap.size ≤ oA)); have pA := Aside0.mk ((Nat.le_trans dF.out (by rw [hg]; exact (keep_size (w := w) (g := g) (row := none) (kp0_)) : w.heap.size ≤ oA) : w0.heap.size ≤ oA)); replace HK := Aside0.mk (KeepBut.trans (kp0_) (KeepBut.of_below hb g none) (.inl rfl)); have dA := Aside0.mk ((by rw [hg]; exact Nat.ne_of_lt (IsS92.lt (show IsS92 w0 _ g s0_0 s0_1 s0_2 from iS92_0_)) : g ≠ oA)); have nB := Aside0.mk ((by rw [hg]; exact Nat.ne_of_gt (IsS92.lt (show IsS92 w0 _ g s0_0 s0_1 s0_2 from iS92_0_)) : oA ≠ g)); replace HI0 := Aside0.mk (IsS92.below (iS92_0_) hb); clear hb hg) | ((with_reducible refine gate_callee (f := 74) rfl ?_); refine gl_ 16 Try.func74 #[.pointer (some ⟨g, 0, none⟩), .int .i64 3] rfl ma_ ?_; (with_reducible refine (spec_l1Cur_pick.calls g s0_0 s0_1 s0_2 3 aI sF tF w0 _ ?side1 ?side2 A2.out).mono ?_); (case side1 => exact iS92_1_ dA.out); (case side2 => exact hs2_ (IsS92.ge HI0.out) pA.out); rintro e w6 ⟨rfl, hi, hb, hk⟩; refine ⟨_, rfl, ?_⟩; replace fA := Aside0.mk (KeepBut.blk hk (g' := oA) (o := .cells #[.slice none 0 0] 31 (0, 0)) (kb_ fA.out) nB.out (by simp)); replace HK := Aside0.mk (KeepBut.trans (kp1_ iA.out) hk (.inl rfl)); replace HB := Aside0.mk (hb); replace HI0 := Aside0.mk (hi); (try clear hb); (try clear hb2); (try clear hk); (try clear hi)) | ((with_reducible refine gate_callee (f := 40) rfl ?_); refine gl_ 18 Try.func40 #[.int .i64 (wrap64 (1 + aI))] rfl ma_ ?_; (with_reducible refine (spec_NewDisk.calls (wrap64 (1 + aI)) uF pL _ A3.out).mono ?_); rintro e w7 ⟨qR, rfl, nD, hb⟩; refine ⟨_, rfl, ?_⟩; have kE := Aside0.mk (Kd.R_lower nD (keep_size (w := w) (g := g) (row := none) (kp1_ iA.out))); replace fA := bK_ fA hb; replace HK := Aside0.mk (KeepBut.trans (kp1_ iA.out) (KeepBut.of_below hb g none) (.inl rfl)); replace HB := Aside0.mk (below_step (hs2_ (IsS92.ge HI0.out) pA.out) hb); replace HI0 := Aside0.mk (IsS92.below (iS92_1_ dA.out) hb); (try clear hb); (try clear hb2); (try clear hk); (try clear hi); (try clear nD)) | ((with_reducible refine gate_dst (N := 3) rfl ?_); refine bq_ (N := 3) #[.slice none 0 0] 31 ?_; intro kA hg w8 eA hb; replace kE := rB_ kE hb; replace HB := Aside0.mk (below_step (hs2_ (IsS92.ge HI0.out) pA.out) hb); have jA := Aside0.mk ((by rw [hg]; exact (keep_size (w := w) (g := g) (row := none) (kp1_ iA.out)) : w.heap.size ≤ kA)); have rA := Aside0.mk ((Nat.le_trans dF.out (by rw [hg]; exact (keep_size (w := w) (g := g) (row := none) (kp1_ iA.out)) : w.heap.size ≤ kA) : w0.heap.size ≤ kA)); replace HK := Aside0.mk (KeepBut.trans (kp1_ iA.out) (KeepBut.of_below hb g none) (.inl rfl)); have jB := nl_ fA hg; have tB := ng_ fA hg; replace fA := bK_ fA hb; have cA := Aside0.mk ((by rw [hg]; exact Nat.ne_of_lt (IsS92.lt (show IsS92 w0 _ g s0_0 sF tF from iS92_1_ dA.out)) : g ≠ kA)); have gB := Aside0.mk ((by rw [hg]; exact Nat.ne_of_gt (IsS92.lt (show IsS92 w0 _ g s0_0 sF tF from iS92_1_ dA.out)) : kA ≠ g)); replace HI0 := Aside0.mk (IsS92.below (iS92_1_ dA.out) hb); clear hb hg; obtain ⟨qL, rL, rR⟩ := Kd.R_slice kE.out; subst rR; have eO := tB.out; have fO := jB.out; have gO := gB.out; have hO := cA.out; obtain ⟨eF, fF⟩ := cf1_ eA.out) | ((with_reducible refine gate_callee (f := 74) rfl ?_); refine gl_ 22 Try.func74 #[.pointer (some ⟨g, 0, none⟩), .int .i64 8] rfl ma_ ?_; (with_reducible refine (spec_l1Cur_pick.calls g s0_0 sF tF 8 rI sI tI w0 _ ?side1 ?side2 A4.out).mono ?_); (case side1 => exact iS92_2_ dA.out cA.out); (case side2 => exact hs3_ (IsS92.ge HI0.out) pA.out rA.out); rintro e iS ⟨rfl, hi, hb, hk⟩; refine ⟨_, rfl, ?_⟩; replace fA := Aside0.mk (KeepBut.blk hk (g' := oA) (o := .cells #[.slice none 0 0] 31 (0, 0)) (uf_ fA jB.out) nB.out (by simp)); replace kE := Aside0.mk (Kd.R_mono (Kd.R_keep (IsS92.apart (show IsS92 w0 _ g s0_0 sF tF from iS92_2_ dA.out cA.out) (rF_ (Kd.R_mono (Kd.R_far (p := ⟨kA, 0, none⟩) (Kd.R_types kE.out eA.out (by decide)) (fun _ hk => hk.2) (.slice qL uF.length rL)) (fun _ h_ => h_.1))) (by decide)) hk (fun _ h => h.2)) (fun _ h => h.1)); replace eA := Aside0.mk (KeepBut.blk hk (g' := kA) (o := .cells #[.slice qL uF.length rL] 31 (0, 0)) (up_ eA) gB.out (by simp)); replace HK := Aside0.mk (KeepBut.trans (kp2_ iA.out jA.out) hk (.inl rfl)); replace HB := Aside0.mk (hb); replace HI0 := Aside0.mk (hi); (try clear hb); (try clear hb2); (try clear hk); (try clear hi)))
 go_loopg [5, 6] k (fun kq v5 v6 w' => ∃ (vD : Int) (sE : Int) (cB : Int) (dB : Int) (bA : List (S56)) (mB : Value), v5 = .int .i64 vD ∧ v6 = .int .i64 sE ∧ Aside0 (spec_l1Cur_disk.l0 kq vD sE s0_0 cB dB bA = some (r1, r2, r3)) ∧ Aside0 (kq ≤ k) ∧ Aside0 (Kd.R k56 56 w' w.heap.size (fun _ => True) mB bA) ∧ Aside0 (w'.heap[oA]? = some (.cells #[(.slice none 0 0)] 31 (0, 0))) ∧ Aside0 (w'.heap[kA]? = some (.cells #[mB] 31 (0, 0))) ∧ Aside0 (IsS92 w0 w' g s0_0 cB dB) ∧ Aside0 (KeepBut w w' g none) ∧ Aside0 (Below w0.heap.size w0 w'))
 case atStart => exact ⟨(0), (rI), (sI), (tI), (uF), (.slice qL uF.length rL), sr_, sr_, H', ⟨Nat.le_refl _⟩, ⟨kr_ kE.out⟩, ⟨kb_ fA.out⟩, ⟨kb_ eA.out⟩, ⟨iS92_2_ dA.out cA.out⟩, ⟨kp2_ iA.out jA.out⟩, ⟨hs3_ (IsS92.ge HI0.out) pA.out rA.out⟩⟩
 case round =>
  clear H'
  try clear eF
  try clear fF
  obtain ⟨vD, sE, cB, dB, bA, mB, rfl, rfl, HA, pF, aA, fA, eA, HI0, HK, HB⟩ := hrel
  cases gk with
  | zero => exact absurd HA.out (by simp [spec_l1Cur_disk.l0])
  | succ k1 =>
   have H := HA.out
   clear HA
   simp only [spec_l1Cur_disk.l0] at H
   replace H := ite_ H
   obtain ⟨pI, H⟩ | ⟨pI, H⟩ := H
   ·have jH := dgt_ pI
    clear pI
    replace H := bnd_ H
    obtain ⟨⟨eE, fE, jD, kD, mC, zB, aC⟩, iO, H⟩ := H
    replace H := red_ H
    replace H := bnd_ H
    obtain ⟨sR, jO, H⟩ := H
    replace H := ifb_ H
    obtain ⟨rfl, H⟩ | ⟨rfl, H⟩ := H
    rotate_left
    ·have H' := Aside0.mk H
     clear H
     go_wp2_with (first | ((with_reducible refine gate_callee (f := 71) rfl ?_); refine gl_ 28 Try.func71 #[.pointer (some ⟨g, 0, none⟩)] rfl ma_ ?_; (with_reducible refine (spec_l1Cur_batch.calls k1 g s0_0 cB dB eE fE jD kD mC zB aC w0 _ ?side1 ?side2 iO.out).mono ?_); (case side1 => exact iS92_2_ dA.out cA.out); (case side2 => exact hs3_ (IsS92.ge HI0.out) pA.out rA.out); rintro e tR ⟨sL, rfl, nD, hi, hb, hk⟩; refine ⟨_, rfl, ?_⟩; replace aA := Aside0.mk (Kd.R_mono (Kd.R_keep (IsS92.apart (show IsS92 w0 _ g s0_0 cB dB from iS92_2_ dA.out cA.out) (kr_ aA.out) (by decide)) hk (fun _ h => h.2)) (fun _ h => h.1)); replace fA := Aside0.mk (KeepBut.blk hk (g' := oA) (o := .cells #[.slice none 0 0] 31 (0, 0)) (kb_ fA.out) nB.out (by simp)); replace eA := Aside0.mk (KeepBut.blk hk (g' := kA) (o := .cells #[mB] 31 (0, 0)) (kb_ eA.out) gB.out (by simp)); have sB := Aside0.mk (Kd.R_lower nD (keep_size (w := w) (g := g) (row := none) (kp2_ iA.out jA.out))); replace HK := Aside0.mk (KeepBut.trans (kp2_ iA.out jA.out) hk (.inl rfl)); replace HB := Aside0.mk (hb); replace HI0 := Aside0.mk (hi); (try clear hb); (try clear hb2); (try clear hk); (try clear hi); (try clear nD)) | ((with_reducible refine gate_dst (N := 7) rfl ?_); refine bq_ (N := 7) #[.int .i64 0, .int .i64 0, .int .i64 0, .int .i64 0, .slice none 0 0] 44 ?_; intro oB hg tL zA hb; replace aA := rB_ aA hb; replace sB := rB_ sB hb; replace HB := Aside0.mk (below_step (hs3_ (IsS92.ge HI0.out) pA.out rA.out) hb); have kB := Aside0.mk ((by rw [hg]; exact (keep_size (w := w) (g := g) (row := none) (kp2_ iA.out jA.out)) : w.heap.size ≤ oB)); have bC := Aside0.mk ((Nat.le_trans dF.out (by rw [hg]; exact (keep_size (w := w) (g := g) (row := none) (kp2_ iA.out jA.out)) : w.heap.size ≤ oB) : w0.heap.size ≤ oB)); replace HK := Aside0.mk (KeepBut.trans (kp2_ iA.out jA.out) (KeepBut.of_below hb g none) (.inl rfl)); have cC := nl_ fA hg; have bD := ng_ fA hg; replace fA := bK_ fA hb; have rB := nl_ eA hg; have vB := ng_ eA hg; replace eA := bK_ eA hb; have vA := Aside0.mk ((by rw [hg]; exact Nat.ne_of_lt (IsS92.lt (show IsS92 w0 _ g s0_0 zB aC from iS92_2_ dA.out cA.out)) : g ≠ oB)); have cD := Aside0.mk ((by rw [hg]; exact Nat.ne_of_gt (IsS92.lt (show IsS92 w0 _ g s0_0 zB aC from iS92_2_ dA.out cA.out)) : oB ≠ g)); replace HI0 := Aside0.mk (IsS92.below (iS92_2_ dA.out cA.out) hb); clear hb hg; have uL := bD.out; have vL := cC.out; have wL := vB.out; have xL := rB.out; have yL := cD.out; have zL := vA.out; obtain ⟨uI, vI, wI, xI, yI, zI, aJ, bJ, cJ, dJ⟩ := cf5_ zA.out; obtain ⟨vF, gF, eJ⟩ := Kd.R_slice sB.out; subst eJ) | ((with_reducible refine gate_callee (f := 59) rfl ?_); refine gl_ 30 Try.func59 #[.agg #[.int .i64 eE, .int .i64 fE, .int .i64 jD, .int .i64 kD, .slice vF mC.length gF]] rfl ma_ ?_; (with_reducible refine (spec_GoodBatch.calls k1 eE fE jD kD _ _ mC false _ ?side1 ?side2 jO.out).mono ?_); (case side1 => refine (Kd.R_reads' (e := 9) (base := w.heap.size) (ok := fun k_ => True) (n := mC.length) (c := gF) ?_).2.2; exact ((Kd.R_mono (rF_ (Kd.R_types sB.out zA.out (by decide))) (fun _ h_ => h_.1)))); (case side2 => exact (Kd.R_reads' sB.out).2.1); rintro e uR ⟨rfl, hb⟩; refine ⟨_, rfl, ?_⟩; replace aA := Aside0.mk (Kd.R_below ((Kd.R_mono (rF_ (Kd.R_types aA.out zA.out (by decide))) (fun _ h_ => h_.1))) hb); replace sB := Aside0.mk (Kd.R_below ((Kd.R_mono (rF_ (Kd.R_types sB.out zA.out (by decide))) (fun _ h_ => h_.1))) hb); replace fA := Aside0.mk (blk_below (g := oA) (o := .cells #[.slice none 0 0] 31 (0, 0)) (uf_ fA cC.out) hb); replace eA := Aside0.mk (blk_below (g := kA) (o := .cells #[mB] 31 (0, 0)) (uf_ eA rB.out) hb); replace zA := Aside0.mk (blk_below (g := oB) (o := .cells #[.int .i64 eE, .int .i64 fE, .int .i64 jD, .int .i64 kD, .slice vF mC.length gF] 44 (0, 0)) (up_ zA) hb); replace HK := Aside0.mk (KeepBut.trans (kp3_ iA.out jA.out kB.out) (KeepBut.of_below hb g none) (.inl rfl)); replace HB := Aside0.mk (below_step (hs4_ (IsS92.ge HI0.out) pA.out rA.out bC.out) hb); replace HI0 := Aside0.mk (IsS92.below (show IsS92 w0 (((((tL.setCell ⟨oB, 0, none⟩ (.int .i64 eE)).setCell ⟨oB, 1, none⟩ (.int .i64 fE)).setCell ⟨oB, 2, none⟩ (.int .i64 jD)).setCell ⟨oB, 3, none⟩ (.int .i64 kD)).setCell ⟨oB, 4, none⟩ (.slice vF mC.length gF)) g s0_0 zB aC from iS92_3_ dA.out cA.out vA.out) hb); (try clear hb); (try clear hb2); (try clear hk); (try clear hi)))
     go_roundg k1
     case measure => have := pF.out; omega
     case rel => exact ⟨(vD), (wrap64 (sE - 1)), (zB), (aC), (bA), (mB), sr_, sr_, H', ⟨by have := pF.out; omega⟩, ⟨kr_ aA.out⟩, ⟨kb_ fA.out⟩, ⟨kb_ eA.out⟩, ⟨iS92_3_ dA.out cA.out vA.out⟩, ⟨kp3_ iA.out jA.out kB.out⟩, ⟨hs4_ (IsS92.ge HI0.out) pA.out rA.out bC.out⟩⟩
    replace H := bnd_ H
    obtain ⟨⟨xD, aM⟩, vR, H⟩ := H
    replace H := red_ H
    have bI := Aside0.mk H
    clear H
    go_upto_if 41 with (first | ((with_reducible refine gate_callee (f := 71) rfl ?_); refine gl_ 28 Try.func71 #[.pointer (some ⟨g, 0, none⟩)] rfl ma_ ?_; (with_reducible refine (spec_l1Cur_batch.calls k1 g s0_0 cB dB eE fE jD kD mC zB aC w0 _ ?side1 ?side2 iO.out).mono ?_); (case side1 => exact iS92_2_ dA.out cA.out); (case side2 => exact hs3_ (IsS92.ge HI0.out) pA.out rA.out); rintro e jS ⟨sL, rfl, nD, hi, hb, hk⟩; refine ⟨_, rfl, ?_⟩; replace aA := Aside0.mk (Kd.R_mono (Kd.R_keep (IsS92.apart (show IsS92 w0 _ g s0_0 cB dB from iS92_2_ dA.out cA.out) (kr_ aA.out) (by decide)) hk (fun _ h => h.2)) (fun _ h => h.1)); replace fA := Aside0.mk (KeepBut.blk hk (g' := oA) (o := .cells #[.slice none 0 0] 31 (0, 0)) (kb_ fA.out) nB.out (by simp)); replace eA := Aside0.mk (KeepBut.blk hk (g' := kA) (o := .cells #[mB] 31 (0, 0)) (kb_ eA.out) gB.out (by simp)); have sB := Aside0.mk (Kd.R_lower nD (keep_size (w := w) (g := g) (row := none) (kp2_ iA.out jA.out))); replace HK := Aside0.mk (KeepBut.trans (kp2_ iA.out jA.out) hk (.inl rfl)); replace HB := Aside0.mk (hb); replace HI0 := Aside0.mk (hi); (try clear hb); (try clear hb2); (try clear hk); (try clear hi); (try clear nD)) | ((with_reducible refine gate_dst (N := 7) rfl ?_); refine bq_ (N := 7) #[.int .i64 0, .int .i64 0, .int .i64 0, .int .i64 0, .slice none 0 0] 44 ?_; intro oB hg wR zA hb; replace aA := rB_ aA hb; replace sB := rB_ sB hb; replace HB := Aside0.mk (below_step (hs3_ (IsS92.ge HI0.out) pA.out rA.out) hb); have kB := Aside0.mk ((by rw [hg]; exact (keep_size (w := w) (g := g) (row := none) (kp2_ iA.out jA.out)) : w.heap.size ≤ oB)); have bC := Aside0.mk ((Nat.le_trans dF.out (by rw [hg]; exact (keep_size (w := w) (g := g) (row := none) (kp2_ iA.out jA.out)) : w.heap.size ≤ oB) : w0.heap.size ≤ oB)); replace HK := Aside0.mk (KeepBut.trans (kp2_ iA.out jA.out) (KeepBut.of_below hb g none) (.inl rfl)); have cC := nl_ fA hg; have bD := ng_ fA hg; replace fA := bK_ fA hb; have rB := nl_ eA hg; have vB := ng_ eA hg; replace eA := bK_ eA hb; have vA := Aside0.mk ((by rw [hg]; exact Nat.ne_of_lt (IsS92.lt (show IsS92 w0 _ g s0_0 zB aC from iS92_2_ dA.out cA.out)) : g ≠ oB)); have cD := Aside0.mk ((by rw [hg]; exact Nat.ne_of_gt (IsS92.lt (show IsS92 w0 _ g s0_0 zB aC from iS92_2_ dA.out cA.out)) : oB ≠ g)); replace HI0 := Aside0.mk (IsS92.below (iS92_2_ dA.out cA.out) hb); clear hb hg; have kO := bD.out; have lO := cC.out; have mO := vB.out; have nO := rB.out; have oO := cD.out; have pO := vA.out; obtain ⟨fG, gG, hG, iG, jG, kG, lG, mG, nG, oG⟩ := cf5_ zA.out; obtain ⟨pE, aE, bM⟩ := Kd.R_slice sB.out; subst bM) | ((with_reducible refine gate_callee (f := 59) rfl ?_); refine gl_ 30 Try.func59 #[.agg #[.int .i64 eE, .int .i64 fE, .int .i64 jD, .int .i64 kD, .slice pE mC.length aE]] rfl ma_ ?_; (with_reducible refine (spec_GoodBatch.calls k1 eE fE jD kD _ _ mC true _ ?side1 ?side2 jO.out).mono ?_); (case side1 => refine (Kd.R_reads' (e := 9) (base := w.heap.size) (ok := fun k_ => True) (n := mC.length) (c := aE) ?_).2.2; exact ((Kd.R_mono (rF_ (Kd.R_types sB.out zA.out (by decide))) (fun _ h_ => h_.1)))); (case side2 => exact (Kd.R_reads' sB.out).2.1); rintro e xR ⟨rfl, hb⟩; refine ⟨_, rfl, ?_⟩; replace aA := Aside0.mk (Kd.R_below ((Kd.R_mono (rF_ (Kd.R_types aA.out zA.out (by decide))) (fun _ h_ => h_.1))) hb); replace sB := Aside0.mk (Kd.R_below ((Kd.R_mono (rF_ (Kd.R_types sB.out zA.out (by decide))) (fun _ h_ => h_.1))) hb); replace fA := Aside0.mk (blk_below (g := oA) (o := .cells #[.slice none 0 0] 31 (0, 0)) (uf_ fA cC.out) hb); replace eA := Aside0.mk (blk_below (g := kA) (o := .cells #[mB] 31 (0, 0)) (uf_ eA rB.out) hb); replace zA := Aside0.mk (blk_below (g := oB) (o := .cells #[.int .i64 eE, .int .i64 fE, .int .i64 jD, .int .i64 kD, .slice pE mC.length aE] 44 (0, 0)) (up_ zA) hb); replace HK := Aside0.mk (KeepBut.trans (kp3_ iA.out jA.out kB.out) (KeepBut.of_below hb g none) (.inl rfl)); replace HB := Aside0.mk (below_step (hs4_ (IsS92.ge HI0.out) pA.out rA.out bC.out) hb); replace HI0 := Aside0.mk (IsS92.below (show IsS92 w0 (((((wR.setCell ⟨oB, 0, none⟩ (.int .i64 eE)).setCell ⟨oB, 1, none⟩ (.int .i64 fE)).setCell ⟨oB, 2, none⟩ (.int .i64 jD)).setCell ⟨oB, 3, none⟩ (.int .i64 kD)).setCell ⟨oB, 4, none⟩ (.slice pE mC.length aE)) g s0_0 zB aC from iS92_3_ dA.out cA.out vA.out) hb); (try clear hb); (try clear hb2); (try clear hk); (try clear hi); obtain ⟨pG, qG, rG, sG, tG, uG, vG, wG, xG, yG⟩ := cf5_ zA.out; have qO := tB.out; have rO := jB.out; have sO := gB.out; have tO := cA.out; obtain ⟨zG, aH⟩ := cf1_ eA.out; obtain ⟨bH, wF, cM⟩ := Kd.R_slice aA.out; subst cM) | ((with_reducible refine gate_callee (f := 18) rfl ?_); refine gl_ 38 Try.func18 #[.agg #[.slice bH bA.length wF], .int .i64 0, .agg #[.int .i64 vD, .int .i64 1, .int .i64 jD, .int .i64 kD, .slice pE mC.length aE]] rfl ma_ ?_; (with_reducible refine (spec_WriteBatch.calls k1 _ _ bA 0 vD 1 jD kD _ _ mC xD aM _ ?side1 ?side2 ?side3 ?side4 vR.out).mono ?_); (case side1 => refine (Kd.R_reads' (e := 56) (base := w.heap.size) (ok := fun k_ => True) (n := bA.length) (c := wF) ?_).2.2; exact ((Kd.R_mono (rF_ (Kd.R_types aA.out zA.out (by decide))) (fun _ h_ => h_.1)))); (case side2 => exact (Kd.R_reads' aA.out).2.1); (case side3 => refine (Kd.R_reads' (e := 9) (base := w.heap.size) (ok := fun k_ => True) (n := mC.length) (c := aE) ?_).2.2; exact ((Kd.R_mono (rF_ (Kd.R_types sB.out zA.out (by decide))) (fun _ h_ => h_.1)))); (case side4 => exact (Kd.R_reads' sB.out).2.1); rintro e kS ⟨yR, rfl, nD, hb⟩; refine ⟨_, rfl, ?_⟩; replace sB := Aside0.mk (Kd.R_below ((Kd.R_mono (rF_ (Kd.R_types sB.out zA.out (by decide))) (fun _ h_ => h_.1))) hb); have hF := Aside0.mk (Kd.R_lower (Kd.R_new' nD (Kd.R_lt ((Kd.R_mono (rF_ (Kd.R_types aA.out zA.out (by decide))) (fun _ h_ => h_.1))))) (keep_size (w := w) (g := g) (row := none) (kp3_ iA.out jA.out kB.out))); replace aA := Aside0.mk (Kd.R_elder' ((Kd.R_mono (rF_ (Kd.R_types aA.out zA.out (by decide))) (fun _ h_ => h_.1))) (Kd.R_base nD) hb); replace fA := Aside0.mk (blk_below (g := oA) (o := .cells #[.slice none 0 0] 31 (0, 0)) (uf_ fA cC.out) hb); replace eA := Aside0.mk (blk_below (g := kA) (o := .cells #[.slice bH bA.length wF] 31 (0, 0)) (uf_ eA rB.out) hb); replace zA := Aside0.mk (blk_below (g := oB) (o := .cells #[.int .i64 vD, .int .i64 1, .int .i64 jD, .int .i64 kD, .slice pE mC.length aE] 44 (0, 0)) (up_ zA) hb); replace HK := Aside0.mk (KeepBut.trans (kp3_ iA.out jA.out kB.out) (KeepBut.of_below hb g none) (.inl rfl)); replace HB := Aside0.mk (below_step (hs4_ (IsS92.ge HI0.out) pA.out rA.out bC.out) hb); replace HI0 := Aside0.mk (IsS92.below (show IsS92 w0 ((xR.setCell ⟨oB, 0, none⟩ (.int .i64 vD)).setCell ⟨oB, 1, none⟩ (.int .i64 1)) g s0_0 zB aC from iS92_3_ dA.out cA.out vA.out) hb); (try clear hb); (try clear hb2); (try clear hk); (try clear hi); (try clear nD)) | ((with_reducible refine gate_dst (N := 8) rfl ?_); refine bq_ (N := 8) #[.slice none 0 0] 31 ?_; intro yC hg lS lB hb; replace aA := rB_ aA hb; replace sB := rB_ sB hb; replace hF := rB_ hF hb; replace HB := Aside0.mk (below_step (hs4_ (IsS92.ge HI0.out) pA.out rA.out bC.out) hb); have uB := Aside0.mk ((by rw [hg]; exact (keep_size (w := w) (g := g) (row := none) (kp3_ iA.out jA.out kB.out)) : w.heap.size ≤ yC)); have qC := Aside0.mk ((Nat.le_trans dF.out (by rw [hg]; exact (keep_size (w := w) (g := g) (row := none) (kp3_ iA.out jA.out kB.out)) : w.heap.size ≤ yC) : w0.heap.size ≤ yC)); replace HK := Aside0.mk (KeepBut.trans (kp3_ iA.out jA.out kB.out) (KeepBut.of_below hb g none) (.inl rfl)); have dD := nl_ fA hg; have lE := ng_ fA hg; replace fA := bK_ fA hb; have dC := nl_ eA hg; have jC := ng_ eA hg; replace eA := bK_ eA hb; have eD := nl_ zA hg; have mE := ng_ zA hg; replace zA := bK_ zA hb; have eB := Aside0.mk ((by rw [hg]; exact Nat.ne_of_lt (IsS92.lt (show IsS92 w0 _ g s0_0 zB aC from iS92_3_ dA.out cA.out vA.out)) : g ≠ yC)); have zD := Aside0.mk ((by rw [hg]; exact Nat.ne_of_gt (IsS92.lt (show IsS92 w0 _ g s0_0 zB aC from iS92_3_ dA.out cA.out vA.out)) : yC ≠ g)); replace HI0 := Aside0.mk (IsS92.below (iS92_3_ dA.out cA.out vA.out) hb); clear hb hg; obtain ⟨gE, hE, dM⟩ := Kd.R_slice hF.out; subst dM; have uO := lE.out; have vO := dD.out; have wO := jC.out; have xO := dC.out; have yO := mE.out; have zO := eD.out; have aP := zD.out; have bP := eB.out; obtain ⟨cH, dH⟩ := cf1_ lB.out))
    (try simp only [Act.put, List.setIfInBounds_toArray, List.set_cons_zero, List.set_cons_succ])
    go_cut [5] (fun v5 wc => ∃ (kq : Nat) (nE : Int) (fB : List (S56)) (mB : Value), v5 = .int .i64 nE ∧ Aside0 (spec_l1Cur_disk.j1 kq nE sE s0_0 zB aC fB = some (r1, r2, r3)) ∧ Aside0 (kq ≤ k1) ∧ Aside0 (Kd.R k56 56 wc w.heap.size (fun _ => True) mB fB) ∧ Aside0 (Kd.R Kd.string 9 wc w.heap.size (fun _ => True) (.slice pE mC.length aE) mC) ∧ Aside0 (wc.heap[oA]? = some (.cells #[(.slice none 0 0)] 31 (0, 0))) ∧ Aside0 (wc.heap[kA]? = some (.cells #[mB] 31 (0, 0))) ∧ Aside0 (wc.heap[oB]? = some (.cells #[.int .i64 vD, .int .i64 1, .int .i64 jD, .int .i64 kD, (.slice pE mC.length aE)] 44 (0, 0))) ∧ Aside0 (wc.heap[yC]? = some (.cells #[(.slice gE xD.length hE)] 31 (0, 0))) ∧ Aside0 (IsS92 w0 wc g s0_0 zB aC) ∧ Aside0 (KeepBut w wc g none) ∧ Aside0 (Below w0.heap.size w0 wc))
    case first =>
     have H := bI.out
     clear bI
     replace H := ifb_ H
     obtain ⟨rfl, H⟩ | ⟨rfl, H⟩ := H
     rotate_left
     ·have H' := Aside0.mk H
      clear H
      go_wp2
      go_meet
      case rel => exact ⟨_, (vD), (bA), (.slice bH bA.length wF), sr_, H', ⟨by have := pF.out; first | omega | exact Nat.le_refl _⟩, ⟨rF_ (Kd.R_mono (Kd.R_far (p := ⟨yC, 0, none⟩) (Kd.R_types aA.out lB.out (by decide)) (fun _ hk => hk.2) (.slice gE xD.length hE)) (fun _ _ => trivial))⟩, ⟨rF_ (Kd.R_mono (Kd.R_far (p := ⟨yC, 0, none⟩) (Kd.R_types sB.out lB.out (by decide)) (fun _ hk => hk.2) (.slice gE xD.length hE)) (fun _ hk => trivial))⟩, ⟨uf_ fA dD.out⟩, ⟨uf_ eA dC.out⟩, ⟨uf_ zA eD.out⟩, ⟨up_ lB⟩, ⟨iS92_4_ dA.out cA.out vA.out eB.out⟩, ⟨kp4_ iA.out jA.out kB.out uB.out⟩, ⟨hs5_ (IsS92.ge HI0.out) pA.out rA.out bC.out qC.out⟩⟩
     have H' := Aside0.mk H
     clear H
     have cP := lE.out
     have dP := dD.out
     have eP := jC.out
     have fP := dC.out
     have gP := mE.out
     have hP := eD.out
     have iP := zD.out
     have jP := eB.out
     obtain ⟨nK, oK⟩ := cf1_ lB.out
     have kP := tB.out
     have lP := jB.out
     have mP := rB.out
     have nP := vB.out
     have oP := gB.out
     have pP := cA.out
     obtain ⟨pK, qK⟩ := cf1_ eA.out
     have qP := bD.out
     have rP := cC.out
     have sP := cD.out
     have tP := vA.out
     obtain ⟨rK, sK, tK, uK, vK, wK, xK, yK, zK, aL⟩ := cf5_ zA.out
     go_wp2
     go_meet
     case rel => exact ⟨_, (wrap64 (vD + (mC.length : Int))), (xD), (.slice gE xD.length hE), sr_, H', ⟨by have := pF.out; first | omega | exact Nat.le_refl _⟩, ⟨rF_ (Kd.R_mono (Kd.R_far (p := ⟨kA, 0, none⟩) (Kd.R_far (p := ⟨yC, 0, none⟩) (Kd.R_types (Kd.R_types hF.out lB.out (by decide)) eA.out (by decide)) (fun _ hk => hk.1.2) (.slice gE xD.length hE)) (fun _ hk => hk.2) (.slice gE xD.length hE)) (fun _ _ => trivial))⟩, ⟨rF_ (Kd.R_mono (Kd.R_far (p := ⟨kA, 0, none⟩) (Kd.R_far (p := ⟨yC, 0, none⟩) (Kd.R_types (Kd.R_types sB.out lB.out (by decide)) eA.out (by decide)) (fun _ hk => hk.1.2) (.slice gE xD.length hE)) (fun _ hk => hk.2) (.slice gE xD.length hE)) (fun _ hk => by first | trivial | exact hk.1.1 | exact hk.1.1.2))⟩, ⟨ug_ fA jB.out dD.out⟩, ⟨by (with_reducible repeat (first | refine blk_drewN ?_ _ | refine blk_drew ?_ | refine blk_alloc ?_ _)); refine blk_put (cs := #[.slice bH bA.length wF]) ?_ 0 _ rfl; (with_reducible repeat (first | refine blk_drewN ?_ _ | refine blk_drew ?_ | refine blk_alloc ?_ _)); refine blk_far ?_ dC.out _; (with_reducible repeat (first | refine blk_drewN ?_ _ | refine blk_drew ?_ | refine blk_alloc ?_ _)); exact eA.out⟩, ⟨ug_ zA vB.out eD.out⟩, ⟨by (with_reducible repeat (first | refine blk_drewN ?_ _ | refine blk_drew ?_ | refine blk_alloc ?_ _)); refine blk_far ?_ jC.out _; (with_reducible repeat (first | refine blk_drewN ?_ _ | refine blk_drew ?_ | refine blk_alloc ?_ _)); refine blk_put (cs := #[.slice none 0 0]) ?_ 0 _ rfl; (with_reducible repeat (first | refine blk_drewN ?_ _ | refine blk_drew ?_ | refine blk_alloc ?_ _)); exact lB.out⟩, ⟨iS92_4_ dA.out cA.out vA.out eB.out⟩, ⟨kp4_ iA.out jA.out kB.out uB.out⟩, ⟨hs5_ (IsS92.ge HI0.out) pA.out rA.out bC.out qC.out⟩⟩
    case rest =>
     clear bI
     try clear pI
     try clear jH
     try clear eF
     try clear fG
     try clear gG
     try clear hG
     try clear iG
     try clear jG
     try clear pG
     try clear qG
     try clear rG
     try clear sG
     try clear tG
     try clear zG
     try clear cH
     try clear fF
     try clear kG
     try clear lG
     try clear mG
     try clear nG
     try clear oG
     try clear uG
     try clear vG
     try clear wG
     try clear xG
     try clear yG
     try clear aH
     try clear dH
     obtain ⟨kq, nE, fB, mB, rfl, HA, kF, aA, iB, fA, eA, zA, lB, HI0, HK, HB⟩ := hcut
     cases kq with
     | zero => exact absurd HA.out (by simp [spec_l1Cur_disk.j1])
     | succ kj18 =>
      have H := HA.out
      clear HA
      simp only [spec_l1Cur_disk.j1] at H
      replace H := bnd_ H
      obtain ⟨⟨pD, zR⟩, eM, H⟩ := H
      replace H := red_ H
      replace H := ifb_ H
      obtain ⟨rfl, H⟩ | ⟨rfl, H⟩ := H
      rotate_left
      ·have H' := Aside0.mk H
       clear H
       have uP := tB.out
       have vP := jB.out
       have wP := rB.out
       have xP := vB.out
       have yP := dC.out
       have zP := jC.out
       have aQ := gB.out
       have bQ := cA.out
       obtain ⟨bL, cL⟩ := cf1_ eA.out
       obtain ⟨fJ, gJ, fM⟩ := Kd.R_slice aA.out
       subst fM
       go_wp2_with (first | ((with_reducible refine gate_callee (f := 37) rfl ?_); refine gl_ 50 Try.func37 #[.agg #[.slice fJ fB.length gJ], .int .i64 0] rfl ma_ ?_; (with_reducible refine (spec_SyncFile.calls kj18 _ _ fB 0 pD false _ ?side1 ?side2 eM.out).mono ?_); (case side1 => exact cs_ ((Kd.R_reads' aA.out).2.2)); (case side2 => exact (Kd.R_reads' aA.out).2.1); rintro e mS ⟨hJ, rfl, nD, hb⟩; refine ⟨_, rfl, ?_⟩; replace iB := rB_ iB hb; have hC := Aside0.mk (Kd.R_lower ((Kd.R_new' nD (Kd.R_lt (kr_ aA.out)))) (keep_size (w := w) (g := g) (row := none) (kp4_ iA.out jA.out kB.out uB.out))); replace aA := Aside0.mk (Kd.R_elder' (kr_ aA.out) (Kd.R_base nD) hb); replace fA := bK_ fA hb; replace eA := bK_ eA hb; replace zA := bK_ zA hb; replace lB := bK_ lB hb; replace HK := Aside0.mk (KeepBut.trans (kp4_ iA.out jA.out kB.out uB.out) (KeepBut.of_below hb g none) (.inl rfl)); replace HB := Aside0.mk (below_step (hs5_ (IsS92.ge HI0.out) pA.out rA.out bC.out qC.out) hb); replace HI0 := Aside0.mk (IsS92.below (iS92_4_ dA.out cA.out vA.out eB.out) hb); (try clear hb); (try clear hb2); (try clear hk); (try clear hi); (try clear nD)) | ((with_reducible refine gate_dst (N := 10) rfl ?_); refine bq_ (N := 10) #[.slice none 0 0] 31 ?_; intro qB hg nS gC hb; replace aA := rB_ aA hb; replace iB := rB_ iB hb; replace hC := rB_ hC hb; replace HB := Aside0.mk (below_step (hs5_ (IsS92.ge HI0.out) pA.out rA.out bC.out qC.out) hb); have bE := Aside0.mk ((by rw [hg]; exact (keep_size (w := w) (g := g) (row := none) (kp4_ iA.out jA.out kB.out uB.out)) : w.heap.size ≤ qB)); have cE := Aside0.mk ((Nat.le_trans dF.out (by rw [hg]; exact (keep_size (w := w) (g := g) (row := none) (kp4_ iA.out jA.out kB.out uB.out)) : w.heap.size ≤ qB) : w0.heap.size ≤ qB)); replace HK := Aside0.mk (KeepBut.trans (kp4_ iA.out jA.out kB.out uB.out) (KeepBut.of_below hb g none) (.inl rfl)); have wB := nl_ fA hg; have rC := ng_ fA hg; replace fA := bK_ fA hb; have xB := nl_ eA hg; have sC := ng_ eA hg; replace eA := bK_ eA hb; have eC := nl_ zA hg; have tC := ng_ zA hg; replace zA := bK_ zA hb; have fC := nl_ lB hg; have uC := ng_ lB hg; replace lB := bK_ lB hb; have pB := Aside0.mk ((by rw [hg]; exact Nat.ne_of_lt (IsS92.lt (show IsS92 w0 _ g s0_0 zB aC from iS92_4_ dA.out cA.out vA.out eB.out)) : g ≠ qB)); have xC := Aside0.mk ((by rw [hg]; exact Nat.ne_of_gt (IsS92.lt (show IsS92 w0 _ g s0_0 zB aC from iS92_4_ dA.out cA.out vA.out eB.out)) : qB ≠ g)); replace HI0 := Aside0.mk (IsS92.below (iS92_4_ dA.out cA.out vA.out eB.out) hb); clear hb hg; obtain ⟨iJ, jJ, kJ⟩ := Kd.R_slice hC.out; subst kJ; have gM := rC.out; have hM := wB.out; have iM := sC.out; have jM := xB.out; have kM := tC.out; have lM := eC.out; have mM := uC.out; have nM := fC.out; have oM := xC.out; have pM := pB.out; obtain ⟨lJ, mJ⟩ := cf1_ gC.out))
       go_roundg kj18
       case measure => have := pF.out; have := kF.out; omega
       case rel => exact ⟨(nE), (wrap64 (sE - 1)), (zB), (aC), (fB), (.slice fJ fB.length gJ), sr_, sr_, H', ⟨by have := pF.out; have := kF.out; omega⟩, ⟨rF_ (Kd.R_mono (Kd.R_far (p := ⟨qB, 0, none⟩) (Kd.R_types aA.out gC.out (by decide)) (fun _ hk => hk.2) (.slice iJ pD.length jJ)) (fun _ hk => trivial))⟩, ⟨uf_ fA wB.out⟩, ⟨uf_ eA xB.out⟩, ⟨iS92_5_ dA.out cA.out vA.out eB.out pB.out⟩, ⟨kp5_ iA.out jA.out kB.out uB.out bE.out⟩, ⟨hs6_ (IsS92.ge HI0.out) pA.out rA.out bC.out qC.out cE.out⟩⟩
      replace H := bnd_ H
      obtain ⟨⟨aS, eH, fH⟩, cQ, H⟩ := H
      replace H := red_ H
      replace H := ifb_ H
      obtain ⟨rfl, H⟩ | ⟨rfl, H⟩ := H
      rotate_left
      ·have H' := Aside0.mk H
       clear H
       have dQ := tB.out
       have eQ := jB.out
       have fQ := rB.out
       have gQ := vB.out
       have hQ := dC.out
       have iQ := jC.out
       have jQ := gB.out
       have kQ := cA.out
       obtain ⟨dL, eL⟩ := cf1_ eA.out
       obtain ⟨cI, dI, qM⟩ := Kd.R_slice aA.out
       subst qM
       go_wp2_with (first | ((with_reducible refine gate_callee (f := 37) rfl ?_); refine gl_ 50 Try.func37 #[.agg #[.slice cI fB.length dI], .int .i64 0] rfl ma_ ?_; (with_reducible refine (spec_SyncFile.calls kj18 _ _ fB 0 pD true _ ?side1 ?side2 eM.out).mono ?_); (case side1 => exact cs_ ((Kd.R_reads' aA.out).2.2)); (case side2 => exact (Kd.R_reads' aA.out).2.1); rintro e oS ⟨hJ, rfl, nD, hb⟩; refine ⟨_, rfl, ?_⟩; replace iB := rB_ iB hb; have hC := Aside0.mk (Kd.R_lower ((Kd.R_new' nD (Kd.R_lt (kr_ aA.out)))) (keep_size (w := w) (g := g) (row := none) (kp4_ iA.out jA.out kB.out uB.out))); replace aA := Aside0.mk (Kd.R_elder' (kr_ aA.out) (Kd.R_base nD) hb); replace fA := bK_ fA hb; replace eA := bK_ eA hb; replace zA := bK_ zA hb; replace lB := bK_ lB hb; replace HK := Aside0.mk (KeepBut.trans (kp4_ iA.out jA.out kB.out uB.out) (KeepBut.of_below hb g none) (.inl rfl)); replace HB := Aside0.mk (below_step (hs5_ (IsS92.ge HI0.out) pA.out rA.out bC.out qC.out) hb); replace HI0 := Aside0.mk (IsS92.below (iS92_4_ dA.out cA.out vA.out eB.out) hb); (try clear hb); (try clear hb2); (try clear hk); (try clear hi); (try clear nD)) | ((with_reducible refine gate_dst (N := 10) rfl ?_); refine bq_ (N := 10) #[.slice none 0 0] 31 ?_; intro qB hg pS gC hb; replace aA := rB_ aA hb; replace iB := rB_ iB hb; replace hC := rB_ hC hb; replace HB := Aside0.mk (below_step (hs5_ (IsS92.ge HI0.out) pA.out rA.out bC.out qC.out) hb); have bE := Aside0.mk ((by rw [hg]; exact (keep_size (w := w) (g := g) (row := none) (kp4_ iA.out jA.out kB.out uB.out)) : w.heap.size ≤ qB)); have cE := Aside0.mk ((Nat.le_trans dF.out (by rw [hg]; exact (keep_size (w := w) (g := g) (row := none) (kp4_ iA.out jA.out kB.out uB.out)) : w.heap.size ≤ qB) : w0.heap.size ≤ qB)); replace HK := Aside0.mk (KeepBut.trans (kp4_ iA.out jA.out kB.out uB.out) (KeepBut.of_below hb g none) (.inl rfl)); have wB := nl_ fA hg; have rC := ng_ fA hg; replace fA := bK_ fA hb; have xB := nl_ eA hg; have sC := ng_ eA hg; replace eA := bK_ eA hb; have eC := nl_ zA hg; have tC := ng_ zA hg; replace zA := bK_ zA hb; have fC := nl_ lB hg; have uC := ng_ lB hg; replace lB := bK_ lB hb; have pB := Aside0.mk ((by rw [hg]; exact Nat.ne_of_lt (IsS92.lt (show IsS92 w0 _ g s0_0 zB aC from iS92_4_ dA.out cA.out vA.out eB.out)) : g ≠ qB)); have xC := Aside0.mk ((by rw [hg]; exact Nat.ne_of_gt (IsS92.lt (show IsS92 w0 _ g s0_0 zB aC from iS92_4_ dA.out cA.out vA.out eB.out)) : qB ≠ g)); replace HI0 := Aside0.mk (IsS92.below (iS92_4_ dA.out cA.out vA.out eB.out) hb); clear hb hg; obtain ⟨gH, hH, rM⟩ := Kd.R_slice hC.out; subst rM; have lQ := rC.out; have mQ := wB.out; have nQ := sC.out; have oQ := xB.out; have pQ := tC.out; have qQ := eC.out; have rQ := uC.out; have sQ := fC.out; have tQ := xC.out; have uQ := pB.out; obtain ⟨fL, gL⟩ := cf1_ gC.out) | (go_at_call 72; (with_reducible refine (spec_l1Cur_one.calls g s0_0 zB aC 3 false eH fH w0 _ ?side1 ?side2 cQ.out).mono ?_); (case side1 => exact iS92_5_ dA.out cA.out vA.out eB.out pB.out); (case side2 => exact hs6_ (IsS92.ge HI0.out) pA.out rA.out bC.out qC.out cE.out); rintro e qS ⟨rfl, hi, hb, hk⟩; replace aA := Aside0.mk (Kd.R_mono (Kd.R_keep (IsS92.apart (show IsS92 w0 _ g s0_0 zB aC from iS92_5_ dA.out cA.out vA.out eB.out pB.out) (rF_ (Kd.R_mono (Kd.R_far (p := ⟨qB, 0, none⟩) (Kd.R_types aA.out gC.out (by decide)) (fun _ hk => hk.2) (.slice gH pD.length hH)) (fun _ h_ => h_.1))) (by decide)) hk (fun _ h => h.2)) (fun _ h => h.1)); replace iB := Aside0.mk (Kd.R_mono (Kd.R_keep (IsS92.apart (show IsS92 w0 _ g s0_0 zB aC from iS92_5_ dA.out cA.out vA.out eB.out pB.out) (rF_ (Kd.R_mono (Kd.R_far (p := ⟨qB, 0, none⟩) (Kd.R_types iB.out gC.out (by decide)) (fun _ hk => hk.2) (.slice gH pD.length hH)) (fun _ h_ => h_.1))) (by decide)) hk (fun _ h => h.2)) (fun _ h => h.1)); replace fA := Aside0.mk (KeepBut.blk hk (g' := oA) (o := .cells #[.slice none 0 0] 31 (0, 0)) (uf_ fA wB.out) nB.out (by simp)); replace eA := Aside0.mk (KeepBut.blk hk (g' := kA) (o := .cells #[.slice cI fB.length dI] 31 (0, 0)) (uf_ eA xB.out) gB.out (by simp)); replace zA := Aside0.mk (KeepBut.blk hk (g' := oB) (o := .cells #[.int .i64 vD, .int .i64 1, .int .i64 jD, .int .i64 kD, .slice pE mC.length aE] 44 (0, 0)) (uf_ zA eC.out) cD.out (by simp)); replace lB := Aside0.mk (KeepBut.blk hk (g' := yC) (o := .cells #[.slice gE xD.length hE] 31 (0, 0)) (uf_ lB fC.out) zD.out (by simp)); replace hC := Aside0.mk (Kd.R_mono (Kd.R_keep (IsS92.apart (show IsS92 w0 _ g s0_0 zB aC from iS92_5_ dA.out cA.out vA.out eB.out pB.out) (rF_ (Kd.R_mono (Kd.R_far (p := ⟨qB, 0, none⟩) (Kd.R_types hC.out gC.out (by decide)) (fun _ hk => hk.2) (.slice gH pD.length hH)) (fun _ h_ => h_.1))) (by decide)) hk (fun _ h => h.2)) (fun _ h => h.1)); replace gC := Aside0.mk (KeepBut.blk hk (g' := qB) (o := .cells #[.slice gH pD.length hH] 31 (0, 0)) (up_ gC) xC.out (by simp)); replace HK := Aside0.mk (KeepBut.trans (kp5_ iA.out jA.out kB.out uB.out bE.out) hk (.inl rfl)); replace HB := Aside0.mk (hb); replace HI0 := Aside0.mk (hi); (try clear hb); (try clear hb2); (try clear hk); (try clear hi)))
       go_roundg kj18
       case measure => have := pF.out; have := kF.out; omega
       case rel => exact ⟨(nE), (wrap64 (sE - 1)), (eH), (fH), (fB), (.slice cI fB.length dI), sr_, sr_, H', ⟨by have := pF.out; have := kF.out; omega⟩, ⟨rF_ (Kd.R_mono aA.out (fun _ hk => trivial))⟩, ⟨kb_ fA.out⟩, ⟨kb_ eA.out⟩, ⟨iS92_5_ dA.out cA.out vA.out eB.out pB.out⟩, ⟨kp5_ iA.out jA.out kB.out uB.out bE.out⟩, ⟨hs6_ (IsS92.ge HI0.out) pA.out rA.out bC.out qC.out cE.out⟩⟩
      have H' := Aside0.mk H
      clear H
      have vQ := tB.out
      have wQ := jB.out
      have xQ := rB.out
      have yQ := vB.out
      have zQ := dC.out
      have aR := jC.out
      have bR := gB.out
      have cR := cA.out
      obtain ⟨hL, iL⟩ := cf1_ eA.out
      obtain ⟨nJ, oJ, sM⟩ := Kd.R_slice aA.out
      subst sM
      go_wp2_with (first | ((with_reducible refine gate_callee (f := 37) rfl ?_); refine gl_ 50 Try.func37 #[.agg #[.slice nJ fB.length oJ], .int .i64 0] rfl ma_ ?_; (with_reducible refine (spec_SyncFile.calls kj18 _ _ fB 0 pD true _ ?side1 ?side2 eM.out).mono ?_); (case side1 => exact cs_ ((Kd.R_reads' aA.out).2.2)); (case side2 => exact (Kd.R_reads' aA.out).2.1); rintro e rS ⟨hJ, rfl, nD, hb⟩; refine ⟨_, rfl, ?_⟩; replace iB := rB_ iB hb; have hC := Aside0.mk (Kd.R_lower ((Kd.R_new' nD (Kd.R_lt (kr_ aA.out)))) (keep_size (w := w) (g := g) (row := none) (kp4_ iA.out jA.out kB.out uB.out))); replace aA := Aside0.mk (Kd.R_elder' (kr_ aA.out) (Kd.R_base nD) hb); replace fA := bK_ fA hb; replace eA := bK_ eA hb; replace zA := bK_ zA hb; replace lB := bK_ lB hb; replace HK := Aside0.mk (KeepBut.trans (kp4_ iA.out jA.out kB.out uB.out) (KeepBut.of_below hb g none) (.inl rfl)); replace HB := Aside0.mk (below_step (hs5_ (IsS92.ge HI0.out) pA.out rA.out bC.out qC.out) hb); replace HI0 := Aside0.mk (IsS92.below (iS92_4_ dA.out cA.out vA.out eB.out) hb); (try clear hb); (try clear hb2); (try clear hk); (try clear hi); (try clear nD)) | ((with_reducible refine gate_dst (N := 10) rfl ?_); refine bq_ (N := 10) #[.slice none 0 0] 31 ?_; intro qB hg sS gC hb; replace aA := rB_ aA hb; replace iB := rB_ iB hb; replace hC := rB_ hC hb; replace HB := Aside0.mk (below_step (hs5_ (IsS92.ge HI0.out) pA.out rA.out bC.out qC.out) hb); have bE := Aside0.mk ((by rw [hg]; exact (keep_size (w := w) (g := g) (row := none) (kp4_ iA.out jA.out kB.out uB.out)) : w.heap.size ≤ qB)); have cE := Aside0.mk ((Nat.le_trans dF.out (by rw [hg]; exact (keep_size (w := w) (g := g) (row := none) (kp4_ iA.out jA.out kB.out uB.out)) : w.heap.size ≤ qB) : w0.heap.size ≤ qB)); replace HK := Aside0.mk (KeepBut.trans (kp4_ iA.out jA.out kB.out uB.out) (KeepBut.of_below hb g none) (.inl rfl)); have wB := nl_ fA hg; have rC := ng_ fA hg; replace fA := bK_ fA hb; have xB := nl_ eA hg; have sC := ng_ eA hg; replace eA := bK_ eA hb; have eC := nl_ zA hg; have tC := ng_ zA hg; replace zA := bK_ zA hb; have fC := nl_ lB hg; have uC := ng_ lB hg; replace lB := bK_ lB hb; have pB := Aside0.mk ((by rw [hg]; exact Nat.ne_of_lt (IsS92.lt (show IsS92 w0 _ g s0_0 zB aC from iS92_4_ dA.out cA.out vA.out eB.out)) : g ≠ qB)); have xC := Aside0.mk ((by rw [hg]; exact Nat.ne_of_gt (IsS92.lt (show IsS92 w0 _ g s0_0 zB aC from iS92_4_ dA.out cA.out vA.out eB.out)) : qB ≠ g)); replace HI0 := Aside0.mk (IsS92.below (iS92_4_ dA.out cA.out vA.out eB.out) hb); clear hb hg; obtain ⟨lF, mF, tM⟩ := Kd.R_slice hC.out; subst tM; have dR := rC.out; have eR := wB.out; have fR := sC.out; have gR := xB.out; have hR := tC.out; have iR := eC.out; have jR := uC.out; have kR := fC.out; have lR := xC.out; have mR := pB.out; obtain ⟨jL, kL⟩ := cf1_ gC.out) | (go_at_call 72; (with_reducible refine (spec_l1Cur_one.calls g s0_0 zB aC 3 true eH fH w0 _ ?side1 ?side2 cQ.out).mono ?_); (case side1 => exact iS92_5_ dA.out cA.out vA.out eB.out pB.out); (case side2 => exact hs6_ (IsS92.ge HI0.out) pA.out rA.out bC.out qC.out cE.out); rintro e tS ⟨rfl, hi, hb, hk⟩; replace aA := Aside0.mk (Kd.R_mono (Kd.R_keep (IsS92.apart (show IsS92 w0 _ g s0_0 zB aC from iS92_5_ dA.out cA.out vA.out eB.out pB.out) (rF_ (Kd.R_mono (Kd.R_far (p := ⟨qB, 0, none⟩) (Kd.R_types aA.out gC.out (by decide)) (fun _ hk => hk.2) (.slice lF pD.length mF)) (fun _ h_ => h_.1))) (by decide)) hk (fun _ h => h.2)) (fun _ h => h.1)); replace iB := Aside0.mk (Kd.R_mono (Kd.R_keep (IsS92.apart (show IsS92 w0 _ g s0_0 zB aC from iS92_5_ dA.out cA.out vA.out eB.out pB.out) (rF_ (Kd.R_mono (Kd.R_far (p := ⟨qB, 0, none⟩) (Kd.R_types iB.out gC.out (by decide)) (fun _ hk => hk.2) (.slice lF pD.length mF)) (fun _ h_ => h_.1))) (by decide)) hk (fun _ h => h.2)) (fun _ h => h.1)); replace fA := Aside0.mk (KeepBut.blk hk (g' := oA) (o := .cells #[.slice none 0 0] 31 (0, 0)) (uf_ fA wB.out) nB.out (by simp)); replace eA := Aside0.mk (KeepBut.blk hk (g' := kA) (o := .cells #[.slice nJ fB.length oJ] 31 (0, 0)) (uf_ eA xB.out) gB.out (by simp)); replace zA := Aside0.mk (KeepBut.blk hk (g' := oB) (o := .cells #[.int .i64 vD, .int .i64 1, .int .i64 jD, .int .i64 kD, .slice pE mC.length aE] 44 (0, 0)) (uf_ zA eC.out) cD.out (by simp)); replace lB := Aside0.mk (KeepBut.blk hk (g' := yC) (o := .cells #[.slice gE xD.length hE] 31 (0, 0)) (uf_ lB fC.out) zD.out (by simp)); replace hC := Aside0.mk (Kd.R_mono (Kd.R_keep (IsS92.apart (show IsS92 w0 _ g s0_0 zB aC from iS92_5_ dA.out cA.out vA.out eB.out pB.out) (rF_ (Kd.R_mono (Kd.R_far (p := ⟨qB, 0, none⟩) (Kd.R_types hC.out gC.out (by decide)) (fun _ hk => hk.2) (.slice lF pD.length mF)) (fun _ h_ => h_.1))) (by decide)) hk (fun _ h => h.2)) (fun _ h => h.1)); replace gC := Aside0.mk (KeepBut.blk hk (g' := qB) (o := .cells #[.slice lF pD.length mF] 31 (0, 0)) (up_ gC) xC.out (by simp)); replace HK := Aside0.mk (KeepBut.trans (kp5_ iA.out jA.out kB.out uB.out bE.out) hk (.inl rfl)); replace HB := Aside0.mk (hb); replace HI0 := Aside0.mk (hi); (try clear hb); (try clear hb2); (try clear hk); (try clear hi); obtain ⟨lL, mL⟩ := cf1_ gC.out; obtain ⟨nL, oL⟩ := cf1_ eA.out))
      go_roundg kj18
      case measure => have := pF.out; have := kF.out; omega
      case rel => exact ⟨(nE), (wrap64 (sE - 1)), (eH), (fH), (pD), (.slice lF pD.length mF), sr_, sr_, H', ⟨by have := pF.out; have := kF.out; omega⟩, ⟨rF_ (Kd.R_mono (Kd.R_far (p := ⟨kA, 0, none⟩) (Kd.R_types hC.out eA.out (by decide)) (fun _ hk => hk.2) (.slice lF pD.length mF)) (fun _ hk => trivial))⟩, ⟨uf_ fA jB.out⟩, ⟨up_ eA⟩, ⟨iS92_5_ dA.out cA.out vA.out eB.out pB.out⟩, ⟨kp5_ iA.out jA.out kB.out uB.out bE.out⟩, ⟨hs6_ (IsS92.ge HI0.out) pA.out rA.out bC.out qC.out cE.out⟩⟩
   have jH := dgf_ pI
   clear pI
   replace H := bnd_ H
   obtain ⟨⟨zC, kC, lC⟩, iH, H⟩ := H
   replace H := red_ H
   obtain ⟨iC, tE⟩ : ∃ y_ : List ByteArray, y_ = (([(⟨#[]⟩ : ByteArray), (⟨#[]⟩ : ByteArray), (⟨#[116, 111, 114, 110]⟩ : ByteArray), (⟨#[0, 14, 0]⟩ : ByteArray)] : List ByteArray)) := ⟨_, rfl⟩
   replace H : ((spec_l1Cur_of.f s0_0 kC lC iC).bind fun uE => ((spec_AppendTo.f k1 bA zC uE.1).bind fun kH => (if kH.2 = true then (spec_l1Cur_disk.j2 k1 s0_0 uE.2.1 uE.2.2 kH.1) else (spec_l1Cur_disk.j2 k1 s0_0 uE.2.1 uE.2.2 bA)))) = some (r1, r2, r3) := by first | (rw [tE]; with_reducible exact H) | (have H2_ := (Option.bind_some _ _).symm.trans H; rw [tE]; with_reducible exact H2_) | (have H2_ := (Option.bind_some _ _).symm.trans H; with_reducible exact H2_) | with_reducible exact H | (rw [tE]; exact H) | exact H
   have wD := Aside0.mk tE
   clear tE
   replace H := bnd_ H
   obtain ⟨⟨iE, vC, wC⟩, pJ, H⟩ := H
   replace H := red_ H
   replace H := bnd_ H
   obtain ⟨⟨lD, vE⟩, qJ, H⟩ := H
   replace H := red_ H
   have xF := Aside0.mk H
   clear H
   obtain ⟨mA, nA, rJ⟩ := Kd.R_slice aA.out
   subst rJ
   try go_wp2
   replace aA := qR_ aA
   replace fA := qK_ fA
   replace eA := qK_ eA
   replace HI0 := Aside0.mk (IsS92.drew HI0.out)
   replace HK := Aside0.mk (keep_drew HK.out)
   replace HB := qH_ HB
   refine start_ (n := 16) (S := fun w' => w'.cell? ⟨kA, 0, none⟩ = some (.slice mA bA.length nA)) (ds := []) (List.replicate 16 false).toArray (by kernel_rfl) rfl rfl (bt_ eA 0) (fun hHeld => ?_); refine with_tabW spec_l1Cur_disk.tab17 spec_l1Cur_disk.bits17 (fun HT_ HW_ => ?_)
   generalize wr.drew = bS at aA fA eA HI0 HK HB hHeld ⊢
   refine pv_ 1 61 ?_
   refine pv_ 2 62 ?_
   refine pv_ 6 66 ?_
   refine take_ (i := 0) (N := some 60) (v := ?_) (a' := ?_) #[true, true, true, false, false, false, true, false, false, false, false, false, false, false, false, false] rfl rfl (take_ofW HT_.out HW_.out (by kernel_rfl)) (fun _ _ _ h => h) (Or.inl ⟨by rfl, ?_⟩) hHeld ?_ ?_
   rotate_left
   ·intro w' s0
    go_simp
    with_reducible rfl
   rotate_left
   ·simp only [Act.put, List.setIfInBounds_toArray, List.set_cons_zero, List.set_cons_succ, i64_w, i32_w]
    rfl
   refine take_ (i := 3) (N := some 63) (v := ?_) (a' := ?_) #[true, true, true, true, false, false, true, false, false, false, false, false, false, false, false, false] rfl rfl (take_ofW HT_.out HW_.out (by kernel_rfl)) (fun _ _ _ h => h) (Or.inl ⟨by rfl, ?_⟩) hHeld ?_ ?_
   rotate_left
   ·intro w' s0
    go_simp
    with_reducible rfl
   rotate_left
   ·simp only [Act.put, List.setIfInBounds_toArray, List.set_cons_zero, List.set_cons_succ, i64_w, i32_w]
    rfl
   refine pv_ 4 64 ?_
   refine join_ (σ := Value × Value × Nat) 2 #[true, true, true, true, true, true, true, true, true, true, true, true, true, true, false, false] (fun s_ => [(65, .int .i64 zC), (67, s_.1), (68, .string iE), (69, .tuple #[.agg #[s_.2.1], .bool vE]), (12, .pointer (some ⟨s_.2.2, 0, none⟩)), (59, .tuple #[.agg #[s_.2.1], .bool vE]), (70, .agg #[s_.2.1]), (71, .bool vE)]) (fun s_ w' => (w'.cell? ⟨kA, 0, none⟩ = some (.slice mA bA.length nA)) ∧ (Kd.R Kd.string 9 w' w.heap.size (fun _ => True) s_.1 iC) ∧ (Kd.R k56 56 w' w.heap.size (fun k_ => some k_ ≠ (.slice mA bA.length nA : Value).ownBlock) s_.2.1 lD) ∧ (Kd.R k56 56 w' w.heap.size (fun k_ => some k_ ≠ (s_.2.1 : Value).ownBlock) (.slice mA bA.length nA) bA) ∧ (w'.heap[oA]? = some (.cells #[.slice none 0 0] 31 (0, 0))) ∧ (w'.heap[kA]? = some (.cells #[.slice mA bA.length nA] 31 (0, 0))) ∧ (w'.heap[s_.2.2]? = some (.cells #[.slice none 0 0] 31 (0, 0))) ∧ (w.heap.size ≤ s_.2.2) ∧ (w0.heap.size ≤ s_.2.2) ∧ (g ≠ s_.2.2) ∧ (s_.2.2 ≠ g) ∧ (oA ≠ s_.2.2) ∧ (s_.2.2 ≠ oA) ∧ (kA ≠ s_.2.2) ∧ (s_.2.2 ≠ kA) ∧ (IsS92 w0 w' g s0_0 vC wC) ∧ (KeepBut w w' g none) ∧ (Below w0.heap.size w0 w')) ?_ ?_
   rotate_left
   ·intro hJ5_7_8_9_13
    refine join_ (σ := Value × Value) 3 #[true, true, true, true, true, true, true, true, true, true, true, true, true, false, false, false] (fun s_ => [(65, .int .i64 zC), (67, s_.1), (68, .string iE), (69, .tuple #[.agg #[s_.2], .bool vE]), (59, .tuple #[.agg #[s_.2], .bool vE]), (70, .agg #[s_.2]), (71, .bool vE)]) (fun s_ w' => (w'.cell? ⟨kA, 0, none⟩ = some (.slice mA bA.length nA)) ∧ (Kd.R Kd.string 9 w' w.heap.size (fun _ => True) s_.1 iC) ∧ (Kd.R k56 56 w' w.heap.size (fun k_ => some k_ ≠ (.slice mA bA.length nA : Value).ownBlock) s_.2 lD) ∧ (Kd.R k56 56 w' w.heap.size (fun k_ => some k_ ≠ (s_.2 : Value).ownBlock) (.slice mA bA.length nA) bA) ∧ (w'.heap[oA]? = some (.cells #[.slice none 0 0] 31 (0, 0))) ∧ (w'.heap[kA]? = some (.cells #[.slice mA bA.length nA] 31 (0, 0))) ∧ (IsS92 w0 w' g s0_0 vC wC) ∧ (KeepBut w w' g none) ∧ (Below w0.heap.size w0 w')) ?_ ?_
    rotate_left
    ·intro hJ5_7_8_9
     refine join_ (σ := Value × Nat) 6 #[true, true, true, true, true, true, true, true, true, false, false, false, false, true, false, false] (fun s_ => [(65, .int .i64 zC), (67, s_.1), (68, .string iE), (12, .pointer (some ⟨s_.2, 0, none⟩))]) (fun s_ w' => (w'.cell? ⟨kA, 0, none⟩ = some (.slice mA bA.length nA)) ∧ (Kd.R Kd.string 9 w' w.heap.size (fun _ => True) s_.1 iC) ∧ (Kd.R k56 56 w' w.heap.size (fun _ => True) (.slice mA bA.length nA) bA) ∧ (w'.heap[oA]? = some (.cells #[.slice none 0 0] 31 (0, 0))) ∧ (w'.heap[kA]? = some (.cells #[.slice mA bA.length nA] 31 (0, 0))) ∧ (w'.heap[s_.2]? = some (.cells #[.slice none 0 0] 31 (0, 0))) ∧ (w.heap.size ≤ s_.2) ∧ (w0.heap.size ≤ s_.2) ∧ (g ≠ s_.2) ∧ (s_.2 ≠ g) ∧ (oA ≠ s_.2) ∧ (s_.2 ≠ oA) ∧ (kA ≠ s_.2) ∧ (s_.2 ≠ kA) ∧ (IsS92 w0 w' g s0_0 vC wC) ∧ (KeepBut w w' g none) ∧ (Below w0.heap.size w0 w')) ?_ ?_
     rotate_left
     ·intro hJ5_7_8_13
      refine join_ (σ := Value) 7 #[true, true, true, true, true, true, true, true, true, false, false, false, false, false, false, false] (fun s_ => [(65, .int .i64 zC), (67, s_), (68, .string iE)]) (fun s_ w' => (w'.cell? ⟨kA, 0, none⟩ = some (.slice mA bA.length nA)) ∧ (Kd.R Kd.string 9 w' w.heap.size (fun _ => True) s_ iC) ∧ (Kd.R k56 56 w' w.heap.size (fun _ => True) (.slice mA bA.length nA) bA) ∧ (w'.heap[oA]? = some (.cells #[.slice none 0 0] 31 (0, 0))) ∧ (w'.heap[kA]? = some (.cells #[.slice mA bA.length nA] 31 (0, 0))) ∧ (IsS92 w0 w' g s0_0 vC wC) ∧ (KeepBut w w' g none) ∧ (Below w0.heap.size w0 w')) ?_ ?_
      rotate_left
      ·intro hJ5_7_8
       refine join_ (σ := Value × Nat) 7 #[true, true, true, true, true, true, true, true, false, false, false, false, false, true, false, false] (fun s_ => [(65, .int .i64 zC), (67, s_.1), (12, .pointer (some ⟨s_.2, 0, none⟩))]) (fun s_ w' => (w'.cell? ⟨kA, 0, none⟩ = some (.slice mA bA.length nA)) ∧ (Kd.R Kd.string 9 w' w.heap.size (fun _ => True) s_.1 iC) ∧ (Kd.R k56 56 w' w.heap.size (fun _ => True) (.slice mA bA.length nA) bA) ∧ (w'.heap[oA]? = some (.cells #[.slice none 0 0] 31 (0, 0))) ∧ (w'.heap[kA]? = some (.cells #[.slice mA bA.length nA] 31 (0, 0))) ∧ (w'.heap[s_.2]? = some (.cells #[.slice none 0 0] 31 (0, 0))) ∧ (w.heap.size ≤ s_.2) ∧ (w0.heap.size ≤ s_.2) ∧ (g ≠ s_.2) ∧ (s_.2 ≠ g) ∧ (oA ≠ s_.2) ∧ (s_.2 ≠ oA) ∧ (kA ≠ s_.2) ∧ (s_.2 ≠ kA) ∧ (IsS92 w0 w' g s0_0 kC lC) ∧ (KeepBut w w' g none) ∧ (Below w0.heap.size w0 w')) ?_ ?_
       rotate_left
       ·intro hJ5_7_13
        refine join_ (σ := Value) 8 #[true, true, true, true, true, true, true, true, false, false, false, false, false, false, false, false] (fun s_ => [(65, .int .i64 zC), (67, s_)]) (fun s_ w' => (w'.cell? ⟨kA, 0, none⟩ = some (.slice mA bA.length nA)) ∧ (Kd.R Kd.string 9 w' w.heap.size (fun _ => True) s_ iC) ∧ (Kd.R k56 56 w' w.heap.size (fun _ => True) (.slice mA bA.length nA) bA) ∧ (w'.heap[oA]? = some (.cells #[.slice none 0 0] 31 (0, 0))) ∧ (w'.heap[kA]? = some (.cells #[.slice mA bA.length nA] 31 (0, 0))) ∧ (IsS92 w0 w' g s0_0 kC lC) ∧ (KeepBut w w' g none) ∧ (Below w0.heap.size w0 w')) ?_ ?_
        rotate_left
        ·intro hJ5_7
         refine join_ (σ := Nat) 8 #[true, true, true, true, true, true, true, false, false, false, false, false, false, true, false, false] (fun s_ => [(65, .int .i64 zC), (12, .pointer (some ⟨s_, 0, none⟩))]) (fun s_ w' => (w'.cell? ⟨kA, 0, none⟩ = some (.slice mA bA.length nA)) ∧ (Kd.R k56 56 w' w.heap.size (fun _ => True) (.slice mA bA.length nA) bA) ∧ (w'.heap[oA]? = some (.cells #[.slice none 0 0] 31 (0, 0))) ∧ (w'.heap[kA]? = some (.cells #[.slice mA bA.length nA] 31 (0, 0))) ∧ (w'.heap[s_]? = some (.cells #[.slice none 0 0] 31 (0, 0))) ∧ (w.heap.size ≤ s_) ∧ (w0.heap.size ≤ s_) ∧ (g ≠ s_) ∧ (s_ ≠ g) ∧ (oA ≠ s_) ∧ (s_ ≠ oA) ∧ (kA ≠ s_) ∧ (s_ ≠ kA) ∧ (IsS92 w0 w' g s0_0 kC lC) ∧ (KeepBut w w' g none) ∧ (Below w0.heap.size w0 w')) ?_ ?_
         rotate_left
         ·intro hJ5_13
          refine join_ (σ := Value × Nat) 8 #[true, true, true, true, true, false, true, true, false, false, false, false, false, true, false, false] (fun s_ => [(67, s_.1), (12, .pointer (some ⟨s_.2, 0, none⟩))]) (fun s_ w' => (w'.cell? ⟨kA, 0, none⟩ = some (.slice mA bA.length nA)) ∧ (Kd.R Kd.string 9 w' w.heap.size (fun _ => True) s_.1 iC) ∧ (Kd.R k56 56 w' w.heap.size (fun _ => True) (.slice mA bA.length nA) bA) ∧ (w'.heap[oA]? = some (.cells #[.slice none 0 0] 31 (0, 0))) ∧ (w'.heap[kA]? = some (.cells #[.slice mA bA.length nA] 31 (0, 0))) ∧ (w'.heap[s_.2]? = some (.cells #[.slice none 0 0] 31 (0, 0))) ∧ (w.heap.size ≤ s_.2) ∧ (w0.heap.size ≤ s_.2) ∧ (g ≠ s_.2) ∧ (s_.2 ≠ g) ∧ (oA ≠ s_.2) ∧ (s_.2 ≠ oA) ∧ (kA ≠ s_.2) ∧ (s_.2 ≠ kA) ∧ (IsS92 w0 w' g s0_0 cB dB) ∧ (KeepBut w w' g none) ∧ (Below w0.heap.size w0 w')) ?_ ?_
          rotate_left
          ·intro hJ7_13
           refine join_ (σ := Unit) 9 #[true, true, true, true, true, true, true, false, false, false, false, false, false, false, false, false] (fun s_ => [(65, .int .i64 zC)]) (fun s_ w' => (w'.cell? ⟨kA, 0, none⟩ = some (.slice mA bA.length nA)) ∧ (Kd.R k56 56 w' w.heap.size (fun _ => True) (.slice mA bA.length nA) bA) ∧ (w'.heap[oA]? = some (.cells #[.slice none 0 0] 31 (0, 0))) ∧ (w'.heap[kA]? = some (.cells #[.slice mA bA.length nA] 31 (0, 0))) ∧ (IsS92 w0 w' g s0_0 kC lC) ∧ (KeepBut w w' g none) ∧ (Below w0.heap.size w0 w')) ?_ ?_
           rotate_left
           ·intro hJ5
            refine join_ (σ := Value) 9 #[true, true, true, true, true, false, true, true, false, false, false, false, false, false, false, false] (fun s_ => [(67, s_)]) (fun s_ w' => (w'.cell? ⟨kA, 0, none⟩ = some (.slice mA bA.length nA)) ∧ (Kd.R Kd.string 9 w' w.heap.size (fun _ => True) s_ iC) ∧ (Kd.R k56 56 w' w.heap.size (fun _ => True) (.slice mA bA.length nA) bA) ∧ (w'.heap[oA]? = some (.cells #[.slice none 0 0] 31 (0, 0))) ∧ (w'.heap[kA]? = some (.cells #[.slice mA bA.length nA] 31 (0, 0))) ∧ (IsS92 w0 w' g s0_0 cB dB) ∧ (KeepBut w w' g none) ∧ (Below w0.heap.size w0 w')) ?_ ?_
            rotate_left
            ·intro hJ7
             refine join_ (σ := Nat) 9 #[true, true, true, true, true, false, true, false, false, false, false, false, false, true, false, false] (fun s_ => [(12, .pointer (some ⟨s_, 0, none⟩))]) (fun s_ w' => (w'.cell? ⟨kA, 0, none⟩ = some (.slice mA bA.length nA)) ∧ (Kd.R k56 56 w' w.heap.size (fun _ => True) (.slice mA bA.length nA) bA) ∧ (w'.heap[oA]? = some (.cells #[.slice none 0 0] 31 (0, 0))) ∧ (w'.heap[kA]? = some (.cells #[.slice mA bA.length nA] 31 (0, 0))) ∧ (w'.heap[s_]? = some (.cells #[.slice none 0 0] 31 (0, 0))) ∧ (w.heap.size ≤ s_) ∧ (w0.heap.size ≤ s_) ∧ (g ≠ s_) ∧ (s_ ≠ g) ∧ (oA ≠ s_) ∧ (s_ ≠ oA) ∧ (kA ≠ s_) ∧ (s_ ≠ kA) ∧ (IsS92 w0 w' g s0_0 cB dB) ∧ (KeepBut w w' g none) ∧ (Below w0.heap.size w0 w')) ?_ ?_
             rotate_left
             ·intro hJ13
              refine three_ (i := 5) (j := 7) (k := 13) (Ni := some 65) (Nj := some 67) (Nk := some 12) #[true, true, true, true, true, true, true, false, false, false, false, false, false, false, false, false] #[true, true, true, true, true, false, true, true, false, false, false, false, false, false, false, false] #[true, true, true, true, true, false, true, false, false, false, false, false, false, true, false, false] rfl rfl rfl rfl rfl rfl (three_of HT_.out (by kernel_rfl)) (by decide) (by decide) (by decide) (fun K hK => ?_) (fun K hK => ?_) (fun K hK => ?_)
              ·skip
               refine gs_ Try.func74 #[.pointer (some ⟨g, 0, none⟩), .int .i64 (bA.length : Int)] rfl ma_ ?_
               with_reducible refine (spec_l1Cur_pick.calls g s0_0 cB dB (bA.length : Int) zC kC lC w0 _ ?side1 ?side2 iH.out).mono ?_
               (case side1 => exact iS92_2_ dA.out cA.out)
               (case side2 => exact hs3_ (IsS92.ge HI0.out) pA.out rA.out)
               rintro e sJ ⟨rfl, hi, hb, hk⟩
               refine ⟨_, rfl, ?_⟩
               replace aA := Aside0.mk (Kd.R_mono (Kd.R_keep (IsS92.apart (show IsS92 w0 _ g s0_0 cB dB from iS92_2_ dA.out cA.out) (kr_ aA.out) (by decide)) hk (fun _ h => h.2)) (fun _ h => h.1))
               replace fA := Aside0.mk (KeepBut.blk hk (g' := oA) (o := .cells #[.slice none 0 0] 31 (0, 0)) (kb_ fA.out) nB.out (by simp))
               replace eA := Aside0.mk (KeepBut.blk hk (g' := kA) (o := .cells #[.slice mA bA.length nA] 31 (0, 0)) (kb_ eA.out) gB.out (by simp))
               replace HK := Aside0.mk (KeepBut.trans (kp2_ iA.out jA.out) hk (.inl rfl))
               replace HB := Aside0.mk (hb)
               replace HI0 := Aside0.mk (hi)
               (try clear hb)
               (try clear hb2)
               (try clear hk)
               (try clear hi)
               refine hK.out _ _ (bt_ eA 0) (fun hHeld => ?_)
               clear hK K
               refine no_ ?_
               exact nq_ (hJ5 () _ ⟨hHeld, (kr_ aA.out), (kb_ fA.out), (kb_ eA.out), (iS92_2_ dA.out cA.out), (kp2_ iA.out jA.out), (hs3_ (IsS92.ge HI0.out) pA.out rA.out)⟩)
              ·skip
               refine Kd.R_lit_step Kd.string _ 9 ?hg (N := 67) ?hd (xs := ([(⟨#[]⟩ : ByteArray), (⟨#[]⟩ : ByteArray), (⟨#[116, 111, 114, 110]⟩ : ByteArray), (⟨#[0, 14, 0]⟩ : ByteArray)] : List ByteArray)) (inner := [.string (⟨#[]⟩ : ByteArray), .string (⟨#[]⟩ : ByteArray), .string (⟨#[116, 111, 114, 110]⟩ : ByteArray), .string (⟨#[0, 14, 0]⟩ : ByteArray)]) (ok := fun _ => True) (okp := fun _ => True) ?hr ?hp (fun _ hk => hk) trivial (Below.refl _ _) (Nat.le_refl _) (by simp) ?_; (case hd => rfl); (case hg => rfl); (case hr => first | (go_simp; done) | (go_simp; rfl)); (case hp => exact (Reps.one (show Kd.M Kd.string _ _ _ (⟨#[]⟩ : ByteArray) [.string (⟨#[]⟩ : ByteArray)] from rfl) (Reps.one (show Kd.M Kd.string _ _ _ (⟨#[]⟩ : ByteArray) [.string (⟨#[]⟩ : ByteArray)] from rfl) (Reps.one (show Kd.M Kd.string _ _ _ (⟨#[116, 111, 114, 110]⟩ : ByteArray) [.string (⟨#[116, 111, 114, 110]⟩ : ByteArray)] from rfl) (Reps.one (show Kd.M Kd.string _ _ _ (⟨#[0, 14, 0]⟩ : ByteArray) [.string (⟨#[0, 14, 0]⟩ : ByteArray)] from rfl) (Reps.none _ _))))))
               intro yB sJ wE hb hg_ hnew_
               clear hg_ hnew_
               (first | rw [← wD.out] at wE | (simp only [Int.reduceToNat] at wE; rw [← wD.out] at wE))
               replace aA := rB_ aA hb
               have yA := Aside0.mk (Kd.R_lower wE (keep_size (w := w) (g := g) (row := none) (kp2_ iA.out jA.out)))
               replace fA := bK_ fA hb
               replace eA := bK_ eA hb
               replace HK := Aside0.mk (KeepBut.trans (kp2_ iA.out jA.out) (KeepBut.of_below hb g none) (.inl rfl))
               replace HB := Aside0.mk (below_step (hs3_ (IsS92.ge HI0.out) pA.out rA.out) hb)
               replace HI0 := Aside0.mk (IsS92.below (iS92_2_ dA.out cA.out) hb)
               clear hb wE
               refine hK.out _ _ (bt_ eA 0) (fun hHeld => ?_)
               clear hK K
               refine no_ ?_
               exact nq_ (hJ7 (yB) _ ⟨hHeld, (kr_ yA.out), (kr_ aA.out), (kb_ fA.out), (kb_ eA.out), (iS92_2_ dA.out cA.out), (kp2_ iA.out jA.out), (hs3_ (IsS92.ge HI0.out) pA.out rA.out)⟩)
              ·skip
               refine bs_ (N := 12) #[.slice none 0 0] 31 ?_
               intro hA hg sJ hbox hb
               replace aA := rB_ aA hb
               replace HB := Aside0.mk (below_step (hs3_ (IsS92.ge HI0.out) pA.out rA.out) hb)
               have wA := Aside0.mk (hbox)
               have xA := Aside0.mk ((by rw [hg]; exact (keep_size (w := w) (g := g) (row := none) (kp2_ iA.out jA.out)) : w.heap.size ≤ hA))
               have bB := Aside0.mk ((Nat.le_trans dF.out (by rw [hg]; exact (keep_size (w := w) (g := g) (row := none) (kp2_ iA.out jA.out)) : w.heap.size ≤ hA) : w0.heap.size ≤ hA))
               replace HK := Aside0.mk (KeepBut.trans (kp2_ iA.out jA.out) (KeepBut.of_below hb g none) (.inl rfl))
               have sA := nl_ fA hg
               have uA := ng_ fA hg
               replace fA := bK_ fA hb
               have qA := nl_ eA hg
               have tA := ng_ eA hg
               replace eA := bK_ eA hb
               have lA := Aside0.mk ((by rw [hg]; exact Nat.ne_of_lt (IsS92.lt (show IsS92 w0 _ g s0_0 cB dB from iS92_2_ dA.out cA.out)) : g ≠ hA))
               have aB := Aside0.mk ((by rw [hg]; exact Nat.ne_of_gt (IsS92.lt (show IsS92 w0 _ g s0_0 cB dB from iS92_2_ dA.out cA.out)) : hA ≠ g))
               replace HI0 := Aside0.mk (IsS92.below (iS92_2_ dA.out cA.out) hb)
               clear hb hbox hg
               refine hK.out _ _ (bt_ eA 0) (fun hHeld => ?_)
               clear hK K
               refine no_ ?_
               exact nq_ (hJ13 (hA) _ ⟨hHeld, (kr_ aA.out), (kb_ fA.out), (kb_ eA.out), (kb_ wA.out), xA.out, bB.out, lA.out, aB.out, sA.out, uA.out, qA.out, tA.out, (iS92_3_ dA.out cA.out lA.out), (kp3_ iA.out jA.out xA.out), (hs4_ (IsS92.ge HI0.out) pA.out rA.out bB.out)⟩)
             ·skip
              rintro hA mD ⟨hS_, h0_, h1_, h2_, h3_, h4_, h5_, h6_, h7_, h8_, h9_, h10_, h11_, h12_, h13_, h14_⟩
              have n0_ : Aside0 (Kd.R k56 56 mD w.heap.size (fun _ => True) (.slice mA bA.length nA) bA) := ⟨h0_⟩
              have n1_ : Aside0 (mD.heap[oA]? = some (.cells #[.slice none 0 0] 31 (0, 0))) := ⟨h1_⟩
              have n2_ : Aside0 (mD.heap[kA]? = some (.cells #[.slice mA bA.length nA] 31 (0, 0))) := ⟨h2_⟩
              have n3_ : Aside0 (mD.heap[hA]? = some (.cells #[.slice none 0 0] 31 (0, 0))) := ⟨h3_⟩
              have n4_ : Aside0 (w.heap.size ≤ hA) := ⟨h4_⟩
              have n5_ : Aside0 (w0.heap.size ≤ hA) := ⟨h5_⟩
              have n6_ : Aside0 (g ≠ hA) := ⟨h6_⟩
              have n7_ : Aside0 (hA ≠ g) := ⟨h7_⟩
              have n8_ : Aside0 (oA ≠ hA) := ⟨h8_⟩
              have n9_ : Aside0 (hA ≠ oA) := ⟨h9_⟩
              have n10_ : Aside0 (kA ≠ hA) := ⟨h10_⟩
              have n11_ : Aside0 (hA ≠ kA) := ⟨h11_⟩
              have n12_ : Aside0 (IsS92 w0 mD g s0_0 cB dB) := ⟨h12_⟩
              have n13_ : Aside0 (KeepBut w mD g none) := ⟨h13_⟩
              have n14_ : Aside0 (Below w0.heap.size w0 mD) := ⟨h14_⟩
              clear aA
              clear fA
              clear eA
              clear HI0
              clear HK
              clear HB
              clear h0_ h1_ h2_ h3_ h4_ h5_ h6_ h7_ h8_ h9_ h10_ h11_ h12_ h13_ h14_
              have aA := n0_
              have fA := n1_
              have eA := n2_
              have wA := n3_
              have xA := n4_
              have bB := n5_
              have lA := n6_
              have aB := n7_
              have sA := n8_
              have uA := n9_
              have qA := n10_
              have tA := n11_
              have HI0 := n12_
              have HK := n13_
              have HB := n14_
              clear n0_ n1_ n2_ n3_ n4_ n5_ n6_ n7_ n8_ n9_ n10_ n11_ n12_ n13_ n14_
              have hHeld : mD.cell? ⟨kA, 0, none⟩ = some (.slice mA bA.length nA) := hS_
              refine np_ ?_
              refine two_ (i := 5) (j := 7) (Ni := some 65) (Nj := some 67) #[true, true, true, true, true, true, true, false, false, false, false, false, false, true, false, false] #[true, true, true, true, true, false, true, true, false, false, false, false, false, true, false, false] rfl rfl rfl rfl (two_of HT_.out (by kernel_rfl)) (by decide) (by decide) (fun K hK => ?_) (fun K hK => ?_)
              ·skip
               refine gs_ Try.func74 #[.pointer (some ⟨g, 0, none⟩), .int .i64 (bA.length : Int)] rfl ma_ ?_
               with_reducible refine (spec_l1Cur_pick.calls g s0_0 cB dB (bA.length : Int) zC kC lC w0 _ ?side1 ?side2 iH.out).mono ?_
               (case side1 => exact iS92_3_ dA.out cA.out lA.out)
               (case side2 => exact hs4_ (IsS92.ge HI0.out) pA.out rA.out bB.out)
               rintro e oC ⟨rfl, hi, hb, hk⟩
               refine ⟨_, rfl, ?_⟩
               replace aA := Aside0.mk (Kd.R_mono (Kd.R_keep (IsS92.apart (show IsS92 w0 _ g s0_0 cB dB from iS92_3_ dA.out cA.out lA.out) (kr_ aA.out) (by decide)) hk (fun _ h => h.2)) (fun _ h => h.1))
               replace fA := Aside0.mk (KeepBut.blk hk (g' := oA) (o := .cells #[.slice none 0 0] 31 (0, 0)) (kb_ fA.out) nB.out (by simp))
               replace eA := Aside0.mk (KeepBut.blk hk (g' := kA) (o := .cells #[.slice mA bA.length nA] 31 (0, 0)) (kb_ eA.out) gB.out (by simp))
               replace wA := Aside0.mk (KeepBut.blk hk (g' := hA) (o := .cells #[.slice none 0 0] 31 (0, 0)) (kb_ wA.out) aB.out (by simp))
               replace HK := Aside0.mk (KeepBut.trans (kp3_ iA.out jA.out xA.out) hk (.inl rfl))
               replace HB := Aside0.mk (hb)
               replace HI0 := Aside0.mk (hi)
               (try clear hb)
               (try clear hb2)
               (try clear hk)
               (try clear hi)
               refine hK.out _ _ (bt_ eA 0) (fun hHeld => ?_)
               clear hK K
               refine no_ ?_
               exact nq_ (hJ5_13 (hA) _ ⟨hHeld, (kr_ aA.out), (kb_ fA.out), (kb_ eA.out), (kb_ wA.out), xA.out, bB.out, lA.out, aB.out, sA.out, uA.out, qA.out, tA.out, (iS92_3_ dA.out cA.out lA.out), (kp3_ iA.out jA.out xA.out), (hs4_ (IsS92.ge HI0.out) pA.out rA.out bB.out)⟩)
              ·skip
               refine Kd.R_lit_step Kd.string _ 9 ?hg (N := 67) ?hd (xs := ([(⟨#[]⟩ : ByteArray), (⟨#[]⟩ : ByteArray), (⟨#[116, 111, 114, 110]⟩ : ByteArray), (⟨#[0, 14, 0]⟩ : ByteArray)] : List ByteArray)) (inner := [.string (⟨#[]⟩ : ByteArray), .string (⟨#[]⟩ : ByteArray), .string (⟨#[116, 111, 114, 110]⟩ : ByteArray), .string (⟨#[0, 14, 0]⟩ : ByteArray)]) (ok := fun _ => True) (okp := fun _ => True) ?hr ?hp (fun _ hk => hk) trivial (Below.refl _ _) (Nat.le_refl _) (by simp) ?_; (case hd => rfl); (case hg => rfl); (case hr => first | (go_simp; done) | (go_simp; rfl)); (case hp => exact (Reps.one (show Kd.M Kd.string _ _ _ (⟨#[]⟩ : ByteArray) [.string (⟨#[]⟩ : ByteArray)] from rfl) (Reps.one (show Kd.M Kd.string _ _ _ (⟨#[]⟩ : ByteArray) [.string (⟨#[]⟩ : ByteArray)] from rfl) (Reps.one (show Kd.M Kd.string _ _ _ (⟨#[116, 111, 114, 110]⟩ : ByteArray) [.string (⟨#[116, 111, 114, 110]⟩ : ByteArray)] from rfl) (Reps.one (show Kd.M Kd.string _ _ _ (⟨#[0, 14, 0]⟩ : ByteArray) [.string (⟨#[0, 14, 0]⟩ : ByteArray)] from rfl) (Reps.none _ _))))))
               intro yB oC aD hb hg_ hnew_
               clear hg_ hnew_
               (first | rw [← wD.out] at aD | (simp only [Int.reduceToNat] at aD; rw [← wD.out] at aD))
               replace aA := rB_ aA hb
               have yA := Aside0.mk (Kd.R_lower aD (keep_size (w := w) (g := g) (row := none) (kp3_ iA.out jA.out xA.out)))
               replace fA := bK_ fA hb
               replace eA := bK_ eA hb
               replace wA := bK_ wA hb
               replace HK := Aside0.mk (KeepBut.trans (kp3_ iA.out jA.out xA.out) (KeepBut.of_below hb g none) (.inl rfl))
               replace HB := Aside0.mk (below_step (hs4_ (IsS92.ge HI0.out) pA.out rA.out bB.out) hb)
               replace HI0 := Aside0.mk (IsS92.below (iS92_3_ dA.out cA.out lA.out) hb)
               clear hb aD
               refine hK.out _ _ (bt_ eA 0) (fun hHeld => ?_)
               clear hK K
               refine no_ ?_
               exact nq_ (hJ7_13 (yB, hA) _ ⟨hHeld, (kr_ yA.out), (kr_ aA.out), (kb_ fA.out), (kb_ eA.out), (kb_ wA.out), xA.out, bB.out, lA.out, aB.out, sA.out, uA.out, qA.out, tA.out, (iS92_3_ dA.out cA.out lA.out), (kp3_ iA.out jA.out xA.out), (hs4_ (IsS92.ge HI0.out) pA.out rA.out bB.out)⟩)
            ·skip
             rintro yB oC ⟨hS_, h0_, h1_, h2_, h3_, h4_, h5_, h6_⟩
             have n0_ : Aside0 (Kd.R Kd.string 9 oC w.heap.size (fun _ => True) yB iC) := ⟨h0_⟩
             have n1_ : Aside0 (Kd.R k56 56 oC w.heap.size (fun _ => True) (.slice mA bA.length nA) bA) := ⟨h1_⟩
             have n2_ : Aside0 (oC.heap[oA]? = some (.cells #[.slice none 0 0] 31 (0, 0))) := ⟨h2_⟩
             have n3_ : Aside0 (oC.heap[kA]? = some (.cells #[.slice mA bA.length nA] 31 (0, 0))) := ⟨h3_⟩
             have n4_ : Aside0 (IsS92 w0 oC g s0_0 cB dB) := ⟨h4_⟩
             have n5_ : Aside0 (KeepBut w oC g none) := ⟨h5_⟩
             have n6_ : Aside0 (Below w0.heap.size w0 oC) := ⟨h6_⟩
             clear aA
             clear fA
             clear eA
             clear HI0
             clear HK
             clear HB
             clear h0_ h1_ h2_ h3_ h4_ h5_ h6_
             have yA := n0_
             have aA := n1_
             have fA := n2_
             have eA := n3_
             have HI0 := n4_
             have HK := n5_
             have HB := n6_
             clear n0_ n1_ n2_ n3_ n4_ n5_ n6_
             have hHeld : oC.cell? ⟨kA, 0, none⟩ = some (.slice mA bA.length nA) := hS_
             refine np_ ?_
             refine two_ (i := 5) (j := 13) (Ni := some 65) (Nj := some 12) #[true, true, true, true, true, true, true, true, false, false, false, false, false, false, false, false] #[true, true, true, true, true, false, true, true, false, false, false, false, false, true, false, false] rfl rfl rfl rfl (two_of HT_.out (by kernel_rfl)) (by decide) (by decide) (fun K hK => ?_) (fun K hK => ?_)
             ·skip
              refine gs_ Try.func74 #[.pointer (some ⟨g, 0, none⟩), .int .i64 (bA.length : Int)] rfl ma_ ?_
              with_reducible refine (spec_l1Cur_pick.calls g s0_0 cB dB (bA.length : Int) zC kC lC w0 _ ?side1 ?side2 iH.out).mono ?_
              (case side1 => exact iS92_2_ dA.out cA.out)
              (case side2 => exact hs3_ (IsS92.ge HI0.out) pA.out rA.out)
              rintro e pC ⟨rfl, hi, hb, hk⟩
              refine ⟨_, rfl, ?_⟩
              replace aA := Aside0.mk (Kd.R_mono (Kd.R_keep (IsS92.apart (show IsS92 w0 _ g s0_0 cB dB from iS92_2_ dA.out cA.out) (kr_ aA.out) (by decide)) hk (fun _ h => h.2)) (fun _ h => h.1))
              replace fA := Aside0.mk (KeepBut.blk hk (g' := oA) (o := .cells #[.slice none 0 0] 31 (0, 0)) (kb_ fA.out) nB.out (by simp))
              replace eA := Aside0.mk (KeepBut.blk hk (g' := kA) (o := .cells #[.slice mA bA.length nA] 31 (0, 0)) (kb_ eA.out) gB.out (by simp))
              replace yA := Aside0.mk (Kd.R_mono (Kd.R_keep (IsS92.apart (show IsS92 w0 _ g s0_0 cB dB from iS92_2_ dA.out cA.out) (kr_ yA.out) (by decide)) hk (fun _ h => h.2)) (fun _ h => h.1))
              replace HK := Aside0.mk (KeepBut.trans (kp2_ iA.out jA.out) hk (.inl rfl))
              replace HB := Aside0.mk (hb)
              replace HI0 := Aside0.mk (hi)
              (try clear hb)
              (try clear hb2)
              (try clear hk)
              (try clear hi)
              refine hK.out _ _ (bt_ eA 0) (fun hHeld => ?_)
              clear hK K
              refine no_ ?_
              exact nq_ (hJ5_7 (yB) _ ⟨hHeld, (kr_ yA.out), (kr_ aA.out), (kb_ fA.out), (kb_ eA.out), (iS92_2_ dA.out cA.out), (kp2_ iA.out jA.out), (hs3_ (IsS92.ge HI0.out) pA.out rA.out)⟩)
             ·skip
              refine bs_ (N := 12) #[.slice none 0 0] 31 ?_
              intro hA hg pC hbox hb
              replace aA := rB_ aA hb
              replace yA := rB_ yA hb
              replace HB := Aside0.mk (below_step (hs3_ (IsS92.ge HI0.out) pA.out rA.out) hb)
              have wA := Aside0.mk (hbox)
              have xA := Aside0.mk ((by rw [hg]; exact (keep_size (w := w) (g := g) (row := none) (kp2_ iA.out jA.out)) : w.heap.size ≤ hA))
              have bB := Aside0.mk ((Nat.le_trans dF.out (by rw [hg]; exact (keep_size (w := w) (g := g) (row := none) (kp2_ iA.out jA.out)) : w.heap.size ≤ hA) : w0.heap.size ≤ hA))
              replace HK := Aside0.mk (KeepBut.trans (kp2_ iA.out jA.out) (KeepBut.of_below hb g none) (.inl rfl))
              have sA := nl_ fA hg
              have uA := ng_ fA hg
              replace fA := bK_ fA hb
              have qA := nl_ eA hg
              have tA := ng_ eA hg
              replace eA := bK_ eA hb
              have lA := Aside0.mk ((by rw [hg]; exact Nat.ne_of_lt (IsS92.lt (show IsS92 w0 _ g s0_0 cB dB from iS92_2_ dA.out cA.out)) : g ≠ hA))
              have aB := Aside0.mk ((by rw [hg]; exact Nat.ne_of_gt (IsS92.lt (show IsS92 w0 _ g s0_0 cB dB from iS92_2_ dA.out cA.out)) : hA ≠ g))
              replace HI0 := Aside0.mk (IsS92.below (iS92_2_ dA.out cA.out) hb)
              clear hb hbox hg
              refine hK.out _ _ (bt_ eA 0) (fun hHeld => ?_)
              clear hK K
              refine no_ ?_
              exact nq_ (hJ7_13 (yB, hA) _ ⟨hHeld, (kr_ yA.out), (kr_ aA.out), (kb_ fA.out), (kb_ eA.out), (kb_ wA.out), xA.out, bB.out, lA.out, aB.out, sA.out, uA.out, qA.out, tA.out, (iS92_3_ dA.out cA.out lA.out), (kp3_ iA.out jA.out xA.out), (hs4_ (IsS92.ge HI0.out) pA.out rA.out bB.out)⟩)
           ·skip
            rintro _ mD ⟨hS_, h0_, h1_, h2_, h3_, h4_, h5_⟩
            have n0_ : Aside0 (Kd.R k56 56 mD w.heap.size (fun _ => True) (.slice mA bA.length nA) bA) := ⟨h0_⟩
            have n1_ : Aside0 (mD.heap[oA]? = some (.cells #[.slice none 0 0] 31 (0, 0))) := ⟨h1_⟩
            have n2_ : Aside0 (mD.heap[kA]? = some (.cells #[.slice mA bA.length nA] 31 (0, 0))) := ⟨h2_⟩
            have n3_ : Aside0 (IsS92 w0 mD g s0_0 kC lC) := ⟨h3_⟩
            have n4_ : Aside0 (KeepBut w mD g none) := ⟨h4_⟩
            have n5_ : Aside0 (Below w0.heap.size w0 mD) := ⟨h5_⟩
            clear aA
            clear fA
            clear eA
            clear HI0
            clear HK
            clear HB
            clear h0_ h1_ h2_ h3_ h4_ h5_
            have aA := n0_
            have fA := n1_
            have eA := n2_
            have HI0 := n3_
            have HK := n4_
            have HB := n5_
            clear n0_ n1_ n2_ n3_ n4_ n5_
            have hHeld : mD.cell? ⟨kA, 0, none⟩ = some (.slice mA bA.length nA) := hS_
            refine np_ ?_
            refine two_ (i := 7) (j := 13) (Ni := some 67) (Nj := some 12) #[true, true, true, true, true, true, true, true, false, false, false, false, false, false, false, false] #[true, true, true, true, true, true, true, false, false, false, false, false, false, true, false, false] rfl rfl rfl rfl (two_of HT_.out (by kernel_rfl)) (by decide) (by decide) (fun K hK => ?_) (fun K hK => ?_)
            ·skip
             refine Kd.R_lit_step Kd.string _ 9 ?hg (N := 67) ?hd (xs := ([(⟨#[]⟩ : ByteArray), (⟨#[]⟩ : ByteArray), (⟨#[116, 111, 114, 110]⟩ : ByteArray), (⟨#[0, 14, 0]⟩ : ByteArray)] : List ByteArray)) (inner := [.string (⟨#[]⟩ : ByteArray), .string (⟨#[]⟩ : ByteArray), .string (⟨#[116, 111, 114, 110]⟩ : ByteArray), .string (⟨#[0, 14, 0]⟩ : ByteArray)]) (ok := fun _ => True) (okp := fun _ => True) ?hr ?hp (fun _ hk => hk) trivial (Below.refl _ _) (Nat.le_refl _) (by simp) ?_; (case hd => rfl); (case hg => rfl); (case hr => first | (go_simp; done) | (go_simp; rfl)); (case hp => exact (Reps.one (show Kd.M Kd.string _ _ _ (⟨#[]⟩ : ByteArray) [.string (⟨#[]⟩ : ByteArray)] from rfl) (Reps.one (show Kd.M Kd.string _ _ _ (⟨#[]⟩ : ByteArray) [.string (⟨#[]⟩ : ByteArray)] from rfl) (Reps.one (show Kd.M Kd.string _ _ _ (⟨#[116, 111, 114, 110]⟩ : ByteArray) [.string (⟨#[116, 111, 114, 110]⟩ : ByteArray)] from rfl) (Reps.one (show Kd.M Kd.string _ _ _ (⟨#[0, 14, 0]⟩ : ByteArray) [.string (⟨#[0, 14, 0]⟩ : ByteArray)] from rfl) (Reps.none _ _))))))
             intro yB oC aD hb hg_ hnew_
             clear hg_ hnew_
             (first | rw [← wD.out] at aD | (simp only [Int.reduceToNat] at aD; rw [← wD.out] at aD))
             replace aA := rB_ aA hb
             have yA := Aside0.mk (Kd.R_lower aD (keep_size (w := w) (g := g) (row := none) (kp2_ iA.out jA.out)))
             replace fA := bK_ fA hb
             replace eA := bK_ eA hb
             replace HK := Aside0.mk (KeepBut.trans (kp2_ iA.out jA.out) (KeepBut.of_below hb g none) (.inl rfl))
             replace HB := Aside0.mk (below_step (hs3_ (IsS92.ge HI0.out) pA.out rA.out) hb)
             replace HI0 := Aside0.mk (IsS92.below (iS92_2_ dA.out cA.out) hb)
             clear hb aD
             refine hK.out _ _ (bt_ eA 0) (fun hHeld => ?_)
             clear hK K
             refine no_ ?_
             exact nq_ (hJ5_7 (yB) _ ⟨hHeld, (kr_ yA.out), (kr_ aA.out), (kb_ fA.out), (kb_ eA.out), (iS92_2_ dA.out cA.out), (kp2_ iA.out jA.out), (hs3_ (IsS92.ge HI0.out) pA.out rA.out)⟩)
            ·skip
             refine bs_ (N := 12) #[.slice none 0 0] 31 ?_
             intro hA hg oC hbox hb
             replace aA := rB_ aA hb
             replace HB := Aside0.mk (below_step (hs3_ (IsS92.ge HI0.out) pA.out rA.out) hb)
             have wA := Aside0.mk (hbox)
             have xA := Aside0.mk ((by rw [hg]; exact (keep_size (w := w) (g := g) (row := none) (kp2_ iA.out jA.out)) : w.heap.size ≤ hA))
             have bB := Aside0.mk ((Nat.le_trans dF.out (by rw [hg]; exact (keep_size (w := w) (g := g) (row := none) (kp2_ iA.out jA.out)) : w.heap.size ≤ hA) : w0.heap.size ≤ hA))
             replace HK := Aside0.mk (KeepBut.trans (kp2_ iA.out jA.out) (KeepBut.of_below hb g none) (.inl rfl))
             have sA := nl_ fA hg
             have uA := ng_ fA hg
             replace fA := bK_ fA hb
             have qA := nl_ eA hg
             have tA := ng_ eA hg
             replace eA := bK_ eA hb
             have lA := Aside0.mk ((by rw [hg]; exact Nat.ne_of_lt (IsS92.lt (show IsS92 w0 _ g s0_0 kC lC from iS92_2_ dA.out cA.out)) : g ≠ hA))
             have aB := Aside0.mk ((by rw [hg]; exact Nat.ne_of_gt (IsS92.lt (show IsS92 w0 _ g s0_0 kC lC from iS92_2_ dA.out cA.out)) : hA ≠ g))
             replace HI0 := Aside0.mk (IsS92.below (iS92_2_ dA.out cA.out) hb)
             clear hb hbox hg
             refine hK.out _ _ (bt_ eA 0) (fun hHeld => ?_)
             clear hK K
             refine no_ ?_
             exact nq_ (hJ5_13 (hA) _ ⟨hHeld, (kr_ aA.out), (kb_ fA.out), (kb_ eA.out), (kb_ wA.out), xA.out, bB.out, lA.out, aB.out, sA.out, uA.out, qA.out, tA.out, (iS92_3_ dA.out cA.out lA.out), (kp3_ iA.out jA.out xA.out), (hs4_ (IsS92.ge HI0.out) pA.out rA.out bB.out)⟩)
          ·skip
           rintro ⟨yB, hA⟩ pC ⟨hS_, h0_, h1_, h2_, h3_, h4_, h5_, h6_, h7_, h8_, h9_, h10_, h11_, h12_, h13_, h14_, h15_⟩
           have n0_ : Aside0 (Kd.R Kd.string 9 pC w.heap.size (fun _ => True) yB iC) := ⟨h0_⟩
           have n1_ : Aside0 (Kd.R k56 56 pC w.heap.size (fun _ => True) (.slice mA bA.length nA) bA) := ⟨h1_⟩
           have n2_ : Aside0 (pC.heap[oA]? = some (.cells #[.slice none 0 0] 31 (0, 0))) := ⟨h2_⟩
           have n3_ : Aside0 (pC.heap[kA]? = some (.cells #[.slice mA bA.length nA] 31 (0, 0))) := ⟨h3_⟩
           have n4_ : Aside0 (pC.heap[hA]? = some (.cells #[.slice none 0 0] 31 (0, 0))) := ⟨h4_⟩
           have n5_ : Aside0 (w.heap.size ≤ hA) := ⟨h5_⟩
           have n6_ : Aside0 (w0.heap.size ≤ hA) := ⟨h6_⟩
           have n7_ : Aside0 (g ≠ hA) := ⟨h7_⟩
           have n8_ : Aside0 (hA ≠ g) := ⟨h8_⟩
           have n9_ : Aside0 (oA ≠ hA) := ⟨h9_⟩
           have n10_ : Aside0 (hA ≠ oA) := ⟨h10_⟩
           have n11_ : Aside0 (kA ≠ hA) := ⟨h11_⟩
           have n12_ : Aside0 (hA ≠ kA) := ⟨h12_⟩
           have n13_ : Aside0 (IsS92 w0 pC g s0_0 cB dB) := ⟨h13_⟩
           have n14_ : Aside0 (KeepBut w pC g none) := ⟨h14_⟩
           have n15_ : Aside0 (Below w0.heap.size w0 pC) := ⟨h15_⟩
           clear aA
           clear fA
           clear eA
           clear HI0
           clear HK
           clear HB
           clear h0_ h1_ h2_ h3_ h4_ h5_ h6_ h7_ h8_ h9_ h10_ h11_ h12_ h13_ h14_ h15_
           have yA := n0_
           have aA := n1_
           have fA := n2_
           have eA := n3_
           have wA := n4_
           have xA := n5_
           have bB := n6_
           have lA := n7_
           have aB := n8_
           have sA := n9_
           have uA := n10_
           have qA := n11_
           have tA := n12_
           have HI0 := n13_
           have HK := n14_
           have HB := n15_
           clear n0_ n1_ n2_ n3_ n4_ n5_ n6_ n7_ n8_ n9_ n10_ n11_ n12_ n13_ n14_ n15_
           have hHeld : pC.cell? ⟨kA, 0, none⟩ = some (.slice mA bA.length nA) := hS_
           refine np_ ?_
           refine on_ 5 65 (fun K hK => ?_)
           refine gs_ Try.func74 #[.pointer (some ⟨g, 0, none⟩), .int .i64 (bA.length : Int)] rfl ma_ ?_
           with_reducible refine (spec_l1Cur_pick.calls g s0_0 cB dB (bA.length : Int) zC kC lC w0 _ ?side1 ?side2 iH.out).mono ?_
           (case side1 => exact iS92_3_ dA.out cA.out lA.out)
           (case side2 => exact hs4_ (IsS92.ge HI0.out) pA.out rA.out bB.out)
           rintro e dE ⟨rfl, hi, hb, hk⟩
           refine ⟨_, rfl, ?_⟩
           replace aA := Aside0.mk (Kd.R_mono (Kd.R_keep (IsS92.apart (show IsS92 w0 _ g s0_0 cB dB from iS92_3_ dA.out cA.out lA.out) (kr_ aA.out) (by decide)) hk (fun _ h => h.2)) (fun _ h => h.1))
           replace fA := Aside0.mk (KeepBut.blk hk (g' := oA) (o := .cells #[.slice none 0 0] 31 (0, 0)) (kb_ fA.out) nB.out (by simp))
           replace eA := Aside0.mk (KeepBut.blk hk (g' := kA) (o := .cells #[.slice mA bA.length nA] 31 (0, 0)) (kb_ eA.out) gB.out (by simp))
           replace yA := Aside0.mk (Kd.R_mono (Kd.R_keep (IsS92.apart (show IsS92 w0 _ g s0_0 cB dB from iS92_3_ dA.out cA.out lA.out) (kr_ yA.out) (by decide)) hk (fun _ h => h.2)) (fun _ h => h.1))
           replace wA := Aside0.mk (KeepBut.blk hk (g' := hA) (o := .cells #[.slice none 0 0] 31 (0, 0)) (kb_ wA.out) aB.out (by simp))
           replace HK := Aside0.mk (KeepBut.trans (kp3_ iA.out jA.out xA.out) hk (.inl rfl))
           replace HB := Aside0.mk (hb)
           replace HI0 := Aside0.mk (hi)
           (try clear hb)
           (try clear hb2)
           (try clear hk)
           (try clear hi)
           refine hK.out _ _ (bt_ eA 0) (fun hHeld => ?_)
           clear hK K
           refine no_ ?_
           exact nq_ (hJ5_7_13 (yB, hA) _ ⟨hHeld, (kr_ yA.out), (kr_ aA.out), (kb_ fA.out), (kb_ eA.out), (kb_ wA.out), xA.out, bB.out, lA.out, aB.out, sA.out, uA.out, qA.out, tA.out, (iS92_3_ dA.out cA.out lA.out), (kp3_ iA.out jA.out xA.out), (hs4_ (IsS92.ge HI0.out) pA.out rA.out bB.out)⟩)
         ·skip
          rintro hA oC ⟨hS_, h0_, h1_, h2_, h3_, h4_, h5_, h6_, h7_, h8_, h9_, h10_, h11_, h12_, h13_, h14_⟩
          have n0_ : Aside0 (Kd.R k56 56 oC w.heap.size (fun _ => True) (.slice mA bA.length nA) bA) := ⟨h0_⟩
          have n1_ : Aside0 (oC.heap[oA]? = some (.cells #[.slice none 0 0] 31 (0, 0))) := ⟨h1_⟩
          have n2_ : Aside0 (oC.heap[kA]? = some (.cells #[.slice mA bA.length nA] 31 (0, 0))) := ⟨h2_⟩
          have n3_ : Aside0 (oC.heap[hA]? = some (.cells #[.slice none 0 0] 31 (0, 0))) := ⟨h3_⟩
          have n4_ : Aside0 (w.heap.size ≤ hA) := ⟨h4_⟩
          have n5_ : Aside0 (w0.heap.size ≤ hA) := ⟨h5_⟩
          have n6_ : Aside0 (g ≠ hA) := ⟨h6_⟩
          have n7_ : Aside0 (hA ≠ g) := ⟨h7_⟩
          have n8_ : Aside0 (oA ≠ hA) := ⟨h8_⟩
          have n9_ : Aside0 (hA ≠ oA) := ⟨h9_⟩
          have n10_ : Aside0 (kA ≠ hA) := ⟨h10_⟩
          have n11_ : Aside0 (hA ≠ kA) := ⟨h11_⟩
          have n12_ : Aside0 (IsS92 w0 oC g s0_0 kC lC) := ⟨h12_⟩
          have n13_ : Aside0 (KeepBut w oC g none) := ⟨h13_⟩
          have n14_ : Aside0 (Below w0.heap.size w0 oC) := ⟨h14_⟩
          clear aA
          clear fA
          clear eA
          clear HI0
          clear HK
          clear HB
          clear h0_ h1_ h2_ h3_ h4_ h5_ h6_ h7_ h8_ h9_ h10_ h11_ h12_ h13_ h14_
          have aA := n0_
          have fA := n1_
          have eA := n2_
          have wA := n3_
          have xA := n4_
          have bB := n5_
          have lA := n6_
          have aB := n7_
          have sA := n8_
          have uA := n9_
          have qA := n10_
          have tA := n11_
          have HI0 := n12_
          have HK := n13_
          have HB := n14_
          clear n0_ n1_ n2_ n3_ n4_ n5_ n6_ n7_ n8_ n9_ n10_ n11_ n12_ n13_ n14_
          have hHeld : oC.cell? ⟨kA, 0, none⟩ = some (.slice mA bA.length nA) := hS_
          refine np_ ?_
          refine on_ 7 67 (fun K hK => ?_)
          refine Kd.R_lit_step Kd.string _ 9 ?hg (N := 67) ?hd (xs := ([(⟨#[]⟩ : ByteArray), (⟨#[]⟩ : ByteArray), (⟨#[116, 111, 114, 110]⟩ : ByteArray), (⟨#[0, 14, 0]⟩ : ByteArray)] : List ByteArray)) (inner := [.string (⟨#[]⟩ : ByteArray), .string (⟨#[]⟩ : ByteArray), .string (⟨#[116, 111, 114, 110]⟩ : ByteArray), .string (⟨#[0, 14, 0]⟩ : ByteArray)]) (ok := fun _ => True) (okp := fun _ => True) ?hr ?hp (fun _ hk => hk) trivial (Below.refl _ _) (Nat.le_refl _) (by simp) ?_; (case hd => rfl); (case hg => rfl); (case hr => first | (go_simp; done) | (go_simp; rfl)); (case hp => exact (Reps.one (show Kd.M Kd.string _ _ _ (⟨#[]⟩ : ByteArray) [.string (⟨#[]⟩ : ByteArray)] from rfl) (Reps.one (show Kd.M Kd.string _ _ _ (⟨#[]⟩ : ByteArray) [.string (⟨#[]⟩ : ByteArray)] from rfl) (Reps.one (show Kd.M Kd.string _ _ _ (⟨#[116, 111, 114, 110]⟩ : ByteArray) [.string (⟨#[116, 111, 114, 110]⟩ : ByteArray)] from rfl) (Reps.one (show Kd.M Kd.string _ _ _ (⟨#[0, 14, 0]⟩ : ByteArray) [.string (⟨#[0, 14, 0]⟩ : ByteArray)] from rfl) (Reps.none _ _))))))
          intro yB pC xE hb hg_ hnew_
          clear hg_ hnew_
          (first | rw [← wD.out] at xE | (simp only [Int.reduceToNat] at xE; rw [← wD.out] at xE))
          replace aA := rB_ aA hb
          have yA := Aside0.mk (Kd.R_lower xE (keep_size (w := w) (g := g) (row := none) (kp3_ iA.out jA.out xA.out)))
          replace fA := bK_ fA hb
          replace eA := bK_ eA hb
          replace wA := bK_ wA hb
          replace HK := Aside0.mk (KeepBut.trans (kp3_ iA.out jA.out xA.out) (KeepBut.of_below hb g none) (.inl rfl))
          replace HB := Aside0.mk (below_step (hs4_ (IsS92.ge HI0.out) pA.out rA.out bB.out) hb)
          replace HI0 := Aside0.mk (IsS92.below (iS92_3_ dA.out cA.out lA.out) hb)
          clear hb xE
          refine hK.out _ _ (bt_ eA 0) (fun hHeld => ?_)
          clear hK K
          refine no_ ?_
          exact nq_ (hJ5_7_13 (yB, hA) _ ⟨hHeld, (kr_ yA.out), (kr_ aA.out), (kb_ fA.out), (kb_ eA.out), (kb_ wA.out), xA.out, bB.out, lA.out, aB.out, sA.out, uA.out, qA.out, tA.out, (iS92_3_ dA.out cA.out lA.out), (kp3_ iA.out jA.out xA.out), (hs4_ (IsS92.ge HI0.out) pA.out rA.out bB.out)⟩)
        ·skip
         rintro yB pC ⟨hS_, h0_, h1_, h2_, h3_, h4_, h5_, h6_⟩
         have n0_ : Aside0 (Kd.R Kd.string 9 pC w.heap.size (fun _ => True) yB iC) := ⟨h0_⟩
         have n1_ : Aside0 (Kd.R k56 56 pC w.heap.size (fun _ => True) (.slice mA bA.length nA) bA) := ⟨h1_⟩
         have n2_ : Aside0 (pC.heap[oA]? = some (.cells #[.slice none 0 0] 31 (0, 0))) := ⟨h2_⟩
         have n3_ : Aside0 (pC.heap[kA]? = some (.cells #[.slice mA bA.length nA] 31 (0, 0))) := ⟨h3_⟩
         have n4_ : Aside0 (IsS92 w0 pC g s0_0 kC lC) := ⟨h4_⟩
         have n5_ : Aside0 (KeepBut w pC g none) := ⟨h5_⟩
         have n6_ : Aside0 (Below w0.heap.size w0 pC) := ⟨h6_⟩
         clear aA
         clear fA
         clear eA
         clear HI0
         clear HK
         clear HB
         clear h0_ h1_ h2_ h3_ h4_ h5_ h6_
         have yA := n0_
         have aA := n1_
         have fA := n2_
         have eA := n3_
         have HI0 := n4_
         have HK := n5_
         have HB := n6_
         clear n0_ n1_ n2_ n3_ n4_ n5_ n6_
         have hHeld : pC.cell? ⟨kA, 0, none⟩ = some (.slice mA bA.length nA) := hS_
         obtain ⟨yF, zF, lH⟩ := Kd.R_slice yA.out
         (first | subst lH | (injection lH with f1_ f2_ f3_; have f4_ := f1_.symm; have f5_ := f3_.symm; clear f1_ f2_ f3_; subst f4_; subst f5_))
         refine np_ ?_
         refine two_ (i := 8) (j := 13) (Ni := some 68) (Nj := some 12) #[true, true, true, true, true, true, true, true, true, false, false, false, false, false, false, false] #[true, true, true, true, true, true, true, true, false, false, false, false, false, true, false, false] rfl rfl rfl rfl (two_of HT_.out (by kernel_rfl)) (by decide) (by decide) (fun K hK => ?_) (fun K hK => ?_)
         ·skip
          refine gs_ Try.func75 #[.pointer (some ⟨g, 0, none⟩), .slice yF iC.length zF] rfl ma_ ?_
          with_reducible refine (spec_l1Cur_of.calls g s0_0 kC lC _ _ iC iE vC wC w0 _ ?side1 ?side2 ?side3 ?side4 ?side5 pJ.out).mono ?_
          (case side1 => exact iS92_2_ dA.out cA.out)
          (case side2 => exact hs3_ (IsS92.ge HI0.out) pA.out rA.out)
          (case side3 => exact cs_ ((Kd.R_reads' yA.out).2.2))
          (case side4 => exact (Kd.R_reads' yA.out).2.1)
          (case side5 => exact far_slice (IsS92.own_ne HI0.out yA.out (by decide)))
          rintro e qE ⟨rfl, hi, hb, hk⟩
          refine ⟨_, rfl, ?_⟩
          replace aA := Aside0.mk (Kd.R_mono (Kd.R_keep (IsS92.apart (show IsS92 w0 _ g s0_0 kC lC from iS92_2_ dA.out cA.out) (kr_ aA.out) (by decide)) hk (fun _ h => h.2)) (fun _ h => h.1))
          replace fA := Aside0.mk (KeepBut.blk hk (g' := oA) (o := .cells #[.slice none 0 0] 31 (0, 0)) (kb_ fA.out) nB.out (by simp))
          replace eA := Aside0.mk (KeepBut.blk hk (g' := kA) (o := .cells #[.slice mA bA.length nA] 31 (0, 0)) (kb_ eA.out) gB.out (by simp))
          replace yA := Aside0.mk (Kd.R_mono (Kd.R_keep (IsS92.apart (show IsS92 w0 _ g s0_0 kC lC from iS92_2_ dA.out cA.out) (kr_ yA.out) (by decide)) hk (fun _ h => h.2)) (fun _ h => h.1))
          replace HK := Aside0.mk (KeepBut.trans (kp2_ iA.out jA.out) hk (.inl rfl))
          replace HB := Aside0.mk (hb)
          replace HI0 := Aside0.mk (hi)
          (try clear hb)
          (try clear hb2)
          (try clear hk)
          (try clear hi)
          refine hK.out _ _ (bt_ eA 0) (fun hHeld => ?_)
          clear hK K
          refine no_ ?_
          exact nq_ (hJ5_7_8 (.slice yF iC.length zF) _ ⟨hHeld, (kr_ yA.out), (kr_ aA.out), (kb_ fA.out), (kb_ eA.out), (iS92_2_ dA.out cA.out), (kp2_ iA.out jA.out), (hs3_ (IsS92.ge HI0.out) pA.out rA.out)⟩)
         ·skip
          refine bs_ (N := 12) #[.slice none 0 0] 31 ?_
          intro hA hg dE hbox hb
          replace aA := rB_ aA hb
          replace yA := rB_ yA hb
          replace HB := Aside0.mk (below_step (hs3_ (IsS92.ge HI0.out) pA.out rA.out) hb)
          have wA := Aside0.mk (hbox)
          have xA := Aside0.mk ((by rw [hg]; exact (keep_size (w := w) (g := g) (row := none) (kp2_ iA.out jA.out)) : w.heap.size ≤ hA))
          have bB := Aside0.mk ((Nat.le_trans dF.out (by rw [hg]; exact (keep_size (w := w) (g := g) (row := none) (kp2_ iA.out jA.out)) : w.heap.size ≤ hA) : w0.heap.size ≤ hA))
          replace HK := Aside0.mk (KeepBut.trans (kp2_ iA.out jA.out) (KeepBut.of_below hb g none) (.inl rfl))
          have sA := nl_ fA hg
          have uA := ng_ fA hg
          replace fA := bK_ fA hb
          have qA := nl_ eA hg
          have tA := ng_ eA hg
          replace eA := bK_ eA hb
          have lA := Aside0.mk ((by rw [hg]; exact Nat.ne_of_lt (IsS92.lt (show IsS92 w0 _ g s0_0 kC lC from iS92_2_ dA.out cA.out)) : g ≠ hA))
          have aB := Aside0.mk ((by rw [hg]; exact Nat.ne_of_gt (IsS92.lt (show IsS92 w0 _ g s0_0 kC lC from iS92_2_ dA.out cA.out)) : hA ≠ g))
          replace HI0 := Aside0.mk (IsS92.below (iS92_2_ dA.out cA.out) hb)
          clear hb hbox hg
          refine hK.out _ _ (bt_ eA 0) (fun hHeld => ?_)
          clear hK K
          refine no_ ?_
          exact nq_ (hJ5_7_13 (.slice yF iC.length zF, hA) _ ⟨hHeld, (kr_ yA.out), (kr_ aA.out), (kb_ fA.out), (kb_ eA.out), (kb_ wA.out), xA.out, bB.out, lA.out, aB.out, sA.out, uA.out, qA.out, tA.out, (iS92_3_ dA.out cA.out lA.out), (kp3_ iA.out jA.out xA.out), (hs4_ (IsS92.ge HI0.out) pA.out rA.out bB.out)⟩)
       ·skip
        rintro ⟨yB, hA⟩ dE ⟨hS_, h0_, h1_, h2_, h3_, h4_, h5_, h6_, h7_, h8_, h9_, h10_, h11_, h12_, h13_, h14_, h15_⟩
        have n0_ : Aside0 (Kd.R Kd.string 9 dE w.heap.size (fun _ => True) yB iC) := ⟨h0_⟩
        have n1_ : Aside0 (Kd.R k56 56 dE w.heap.size (fun _ => True) (.slice mA bA.length nA) bA) := ⟨h1_⟩
        have n2_ : Aside0 (dE.heap[oA]? = some (.cells #[.slice none 0 0] 31 (0, 0))) := ⟨h2_⟩
        have n3_ : Aside0 (dE.heap[kA]? = some (.cells #[.slice mA bA.length nA] 31 (0, 0))) := ⟨h3_⟩
        have n4_ : Aside0 (dE.heap[hA]? = some (.cells #[.slice none 0 0] 31 (0, 0))) := ⟨h4_⟩
        have n5_ : Aside0 (w.heap.size ≤ hA) := ⟨h5_⟩
        have n6_ : Aside0 (w0.heap.size ≤ hA) := ⟨h6_⟩
        have n7_ : Aside0 (g ≠ hA) := ⟨h7_⟩
        have n8_ : Aside0 (hA ≠ g) := ⟨h8_⟩
        have n9_ : Aside0 (oA ≠ hA) := ⟨h9_⟩
        have n10_ : Aside0 (hA ≠ oA) := ⟨h10_⟩
        have n11_ : Aside0 (kA ≠ hA) := ⟨h11_⟩
        have n12_ : Aside0 (hA ≠ kA) := ⟨h12_⟩
        have n13_ : Aside0 (IsS92 w0 dE g s0_0 kC lC) := ⟨h13_⟩
        have n14_ : Aside0 (KeepBut w dE g none) := ⟨h14_⟩
        have n15_ : Aside0 (Below w0.heap.size w0 dE) := ⟨h15_⟩
        clear aA
        clear fA
        clear eA
        clear HI0
        clear HK
        clear HB
        clear h0_ h1_ h2_ h3_ h4_ h5_ h6_ h7_ h8_ h9_ h10_ h11_ h12_ h13_ h14_ h15_
        have yA := n0_
        have aA := n1_
        have fA := n2_
        have eA := n3_
        have wA := n4_
        have xA := n5_
        have bB := n6_
        have lA := n7_
        have aB := n8_
        have sA := n9_
        have uA := n10_
        have qA := n11_
        have tA := n12_
        have HI0 := n13_
        have HK := n14_
        have HB := n15_
        clear n0_ n1_ n2_ n3_ n4_ n5_ n6_ n7_ n8_ n9_ n10_ n11_ n12_ n13_ n14_ n15_
        have hHeld : dE.cell? ⟨kA, 0, none⟩ = some (.slice mA bA.length nA) := hS_
        obtain ⟨mH, nH, oH⟩ := Kd.R_slice yA.out
        (first | subst oH | (injection oH with f1_ f2_ f3_; have f4_ := f1_.symm; have f5_ := f3_.symm; clear f1_ f2_ f3_; subst f4_; subst f5_))
        refine np_ ?_
        refine on_ 8 68 (fun K hK => ?_)
        refine gs_ Try.func75 #[.pointer (some ⟨g, 0, none⟩), .slice mH iC.length nH] rfl ma_ ?_
        with_reducible refine (spec_l1Cur_of.calls g s0_0 kC lC _ _ iC iE vC wC w0 _ ?side1 ?side2 ?side3 ?side4 ?side5 pJ.out).mono ?_
        (case side1 => exact iS92_3_ dA.out cA.out lA.out)
        (case side2 => exact hs4_ (IsS92.ge HI0.out) pA.out rA.out bB.out)
        (case side3 => exact cs_ ((Kd.R_reads' yA.out).2.2))
        (case side4 => exact (Kd.R_reads' yA.out).2.1)
        (case side5 => exact far_slice (IsS92.own_ne HI0.out yA.out (by decide)))
        rintro e nC ⟨rfl, hi, hb, hk⟩
        refine ⟨_, rfl, ?_⟩
        replace aA := Aside0.mk (Kd.R_mono (Kd.R_keep (IsS92.apart (show IsS92 w0 _ g s0_0 kC lC from iS92_3_ dA.out cA.out lA.out) (kr_ aA.out) (by decide)) hk (fun _ h => h.2)) (fun _ h => h.1))
        replace fA := Aside0.mk (KeepBut.blk hk (g' := oA) (o := .cells #[.slice none 0 0] 31 (0, 0)) (kb_ fA.out) nB.out (by simp))
        replace eA := Aside0.mk (KeepBut.blk hk (g' := kA) (o := .cells #[.slice mA bA.length nA] 31 (0, 0)) (kb_ eA.out) gB.out (by simp))
        replace yA := Aside0.mk (Kd.R_mono (Kd.R_keep (IsS92.apart (show IsS92 w0 _ g s0_0 kC lC from iS92_3_ dA.out cA.out lA.out) (kr_ yA.out) (by decide)) hk (fun _ h => h.2)) (fun _ h => h.1))
        replace wA := Aside0.mk (KeepBut.blk hk (g' := hA) (o := .cells #[.slice none 0 0] 31 (0, 0)) (kb_ wA.out) aB.out (by simp))
        replace HK := Aside0.mk (KeepBut.trans (kp3_ iA.out jA.out xA.out) hk (.inl rfl))
        replace HB := Aside0.mk (hb)
        replace HI0 := Aside0.mk (hi)
        (try clear hb)
        (try clear hb2)
        (try clear hk)
        (try clear hi)
        refine hK.out _ _ (bt_ eA 0) (fun hHeld => ?_)
        clear hK K
        refine no_ ?_
        exact nq_ (hJ5_7_8_13 (.slice mH iC.length nH, hA) _ ⟨hHeld, (kr_ yA.out), (kr_ aA.out), (kb_ fA.out), (kb_ eA.out), (kb_ wA.out), xA.out, bB.out, lA.out, aB.out, sA.out, uA.out, qA.out, tA.out, (iS92_3_ dA.out cA.out lA.out), (kp3_ iA.out jA.out xA.out), (hs4_ (IsS92.ge HI0.out) pA.out rA.out bB.out)⟩)
      ·skip
       rintro yB qE ⟨hS_, h0_, h1_, h2_, h3_, h4_, h5_, h6_⟩
       have n0_ : Aside0 (Kd.R Kd.string 9 qE w.heap.size (fun _ => True) yB iC) := ⟨h0_⟩
       have n1_ : Aside0 (Kd.R k56 56 qE w.heap.size (fun _ => True) (.slice mA bA.length nA) bA) := ⟨h1_⟩
       have n2_ : Aside0 (qE.heap[oA]? = some (.cells #[.slice none 0 0] 31 (0, 0))) := ⟨h2_⟩
       have n3_ : Aside0 (qE.heap[kA]? = some (.cells #[.slice mA bA.length nA] 31 (0, 0))) := ⟨h3_⟩
       have n4_ : Aside0 (IsS92 w0 qE g s0_0 vC wC) := ⟨h4_⟩
       have n5_ : Aside0 (KeepBut w qE g none) := ⟨h5_⟩
       have n6_ : Aside0 (Below w0.heap.size w0 qE) := ⟨h6_⟩
       clear aA
       clear fA
       clear eA
       clear HI0
       clear HK
       clear HB
       clear h0_ h1_ h2_ h3_ h4_ h5_ h6_
       have yA := n0_
       have aA := n1_
       have fA := n2_
       have eA := n3_
       have HI0 := n4_
       have HK := n5_
       have HB := n6_
       clear n0_ n1_ n2_ n3_ n4_ n5_ n6_
       have hHeld : qE.cell? ⟨kA, 0, none⟩ = some (.slice mA bA.length nA) := hS_
       refine np_ ?_
       refine two_ (i := 9) (j := 13) (Ni := some 69) (Nj := some 12) #[true, true, true, true, true, true, true, true, true, true, false, false, false, false, false, false] #[true, true, true, true, true, true, true, true, true, false, false, false, false, true, false, false] rfl rfl rfl rfl (two_of HT_.out (by kernel_rfl)) (by decide) (by decide) (fun K hK => ?_) (fun K hK => ?_)
       ·skip
        refine gs_ Try.func32 #[.agg #[.slice mA bA.length nA], .int .i64 zC, .string iE] rfl ma_ ?_
        with_reducible refine (spec_AppendTo.calls k1 _ _ bA zC iE lD vE _ ?side1 ?side2 qJ.out).mono ?_
        (case side1 => exact cs_ ((Kd.R_reads' aA.out).2.2))
        (case side2 => exact (Kd.R_reads' aA.out).2.1)
        rintro e nC ⟨jE, rfl, nD, hb⟩
        refine ⟨_, rfl, ?_⟩
        replace yA := rB_ yA hb
        have oD := Aside0.mk (Kd.R_lower (Kd.R_new' nD (Kd.R_lt (kr_ aA.out))) (keep_size (w := w) (g := g) (row := none) (kp2_ iA.out jA.out)))
        replace aA := Aside0.mk (Kd.R_elder' (kr_ aA.out) (Kd.R_base nD) hb)
        replace fA := bK_ fA hb
        replace eA := bK_ eA hb
        replace HK := Aside0.mk (KeepBut.trans (kp2_ iA.out jA.out) (KeepBut.of_below hb g none) (.inl rfl))
        replace HB := Aside0.mk (below_step (hs3_ (IsS92.ge HI0.out) pA.out rA.out) hb)
        replace HI0 := Aside0.mk (IsS92.below (iS92_2_ dA.out cA.out) hb)
        (try clear hb)
        (try clear hb2)
        (try clear hk)
        (try clear hi)
        (try clear nD)
        refine hK.out _ _ (bt_ eA 0) (fun hHeld => ?_)
        clear hK K
        refine no_ ?_
        refine pv_ 10 59 ?_
        refine pv_ 11 70 ?_
        refine pv_ 12 71 ?_
        exact nq_ (hJ5_7_8_9 (yB, jE) _ ⟨hHeld, (kr_ yA.out), (rF_ (Kd.R_mono oD.out (fun _ hk => hk.2))), (rF_ (Kd.R_mono aA.out (fun _ hk => hk.2))), (kb_ fA.out), (kb_ eA.out), (iS92_2_ dA.out cA.out), (kp2_ iA.out jA.out), (hs3_ (IsS92.ge HI0.out) pA.out rA.out)⟩)
       ·skip
        refine bs_ (N := 12) #[.slice none 0 0] 31 ?_
        intro hA hg nC hbox hb
        replace aA := rB_ aA hb
        replace yA := rB_ yA hb
        replace HB := Aside0.mk (below_step (hs3_ (IsS92.ge HI0.out) pA.out rA.out) hb)
        have wA := Aside0.mk (hbox)
        have xA := Aside0.mk ((by rw [hg]; exact (keep_size (w := w) (g := g) (row := none) (kp2_ iA.out jA.out)) : w.heap.size ≤ hA))
        have bB := Aside0.mk ((Nat.le_trans dF.out (by rw [hg]; exact (keep_size (w := w) (g := g) (row := none) (kp2_ iA.out jA.out)) : w.heap.size ≤ hA) : w0.heap.size ≤ hA))
        replace HK := Aside0.mk (KeepBut.trans (kp2_ iA.out jA.out) (KeepBut.of_below hb g none) (.inl rfl))
        have sA := nl_ fA hg
        have uA := ng_ fA hg
        replace fA := bK_ fA hb
        have qA := nl_ eA hg
        have tA := ng_ eA hg
        replace eA := bK_ eA hb
        have lA := Aside0.mk ((by rw [hg]; exact Nat.ne_of_lt (IsS92.lt (show IsS92 w0 _ g s0_0 vC wC from iS92_2_ dA.out cA.out)) : g ≠ hA))
        have aB := Aside0.mk ((by rw [hg]; exact Nat.ne_of_gt (IsS92.lt (show IsS92 w0 _ g s0_0 vC wC from iS92_2_ dA.out cA.out)) : hA ≠ g))
        replace HI0 := Aside0.mk (IsS92.below (iS92_2_ dA.out cA.out) hb)
        clear hb hbox hg
        refine hK.out _ _ (bt_ eA 0) (fun hHeld => ?_)
        clear hK K
        refine no_ ?_
        exact nq_ (hJ5_7_8_13 (yB, hA) _ ⟨hHeld, (kr_ yA.out), (kr_ aA.out), (kb_ fA.out), (kb_ eA.out), (kb_ wA.out), xA.out, bB.out, lA.out, aB.out, sA.out, uA.out, qA.out, tA.out, (iS92_3_ dA.out cA.out lA.out), (kp3_ iA.out jA.out xA.out), (hs4_ (IsS92.ge HI0.out) pA.out rA.out bB.out)⟩)
     ·skip
      rintro ⟨yB, hA⟩ nC ⟨hS_, h0_, h1_, h2_, h3_, h4_, h5_, h6_, h7_, h8_, h9_, h10_, h11_, h12_, h13_, h14_, h15_⟩
      have n0_ : Aside0 (Kd.R Kd.string 9 nC w.heap.size (fun _ => True) yB iC) := ⟨h0_⟩
      have n1_ : Aside0 (Kd.R k56 56 nC w.heap.size (fun _ => True) (.slice mA bA.length nA) bA) := ⟨h1_⟩
      have n2_ : Aside0 (nC.heap[oA]? = some (.cells #[.slice none 0 0] 31 (0, 0))) := ⟨h2_⟩
      have n3_ : Aside0 (nC.heap[kA]? = some (.cells #[.slice mA bA.length nA] 31 (0, 0))) := ⟨h3_⟩
      have n4_ : Aside0 (nC.heap[hA]? = some (.cells #[.slice none 0 0] 31 (0, 0))) := ⟨h4_⟩
      have n5_ : Aside0 (w.heap.size ≤ hA) := ⟨h5_⟩
      have n6_ : Aside0 (w0.heap.size ≤ hA) := ⟨h6_⟩
      have n7_ : Aside0 (g ≠ hA) := ⟨h7_⟩
      have n8_ : Aside0 (hA ≠ g) := ⟨h8_⟩
      have n9_ : Aside0 (oA ≠ hA) := ⟨h9_⟩
      have n10_ : Aside0 (hA ≠ oA) := ⟨h10_⟩
      have n11_ : Aside0 (kA ≠ hA) := ⟨h11_⟩
      have n12_ : Aside0 (hA ≠ kA) := ⟨h12_⟩
      have n13_ : Aside0 (IsS92 w0 nC g s0_0 vC wC) := ⟨h13_⟩
      have n14_ : Aside0 (KeepBut w nC g none) := ⟨h14_⟩
      have n15_ : Aside0 (Below w0.heap.size w0 nC) := ⟨h15_⟩
      clear aA
      clear fA
      clear eA
      clear HI0
      clear HK
      clear HB
      clear h0_ h1_ h2_ h3_ h4_ h5_ h6_ h7_ h8_ h9_ h10_ h11_ h12_ h13_ h14_ h15_
      have yA := n0_
      have aA := n1_
      have fA := n2_
      have eA := n3_
      have wA := n4_
      have xA := n5_
      have bB := n6_
      have lA := n7_
      have aB := n8_
      have sA := n9_
      have uA := n10_
      have qA := n11_
      have tA := n12_
      have HI0 := n13_
      have HK := n14_
      have HB := n15_
      clear n0_ n1_ n2_ n3_ n4_ n5_ n6_ n7_ n8_ n9_ n10_ n11_ n12_ n13_ n14_ n15_
      have hHeld : nC.cell? ⟨kA, 0, none⟩ = some (.slice mA bA.length nA) := hS_
      refine np_ ?_
      refine on_ 9 69 (fun K hK => ?_)
      refine gs_ Try.func32 #[.agg #[.slice mA bA.length nA], .int .i64 zC, .string iE] rfl ma_ ?_
      with_reducible refine (spec_AppendTo.calls k1 _ _ bA zC iE lD vE _ ?side1 ?side2 qJ.out).mono ?_
      (case side1 => exact cs_ ((Kd.R_reads' aA.out).2.2))
      (case side2 => exact (Kd.R_reads' aA.out).2.1)
      rintro e yD ⟨jE, rfl, nD, hb⟩
      refine ⟨_, rfl, ?_⟩
      replace yA := rB_ yA hb
      have oD := Aside0.mk (Kd.R_lower (Kd.R_new' nD (Kd.R_lt (kr_ aA.out))) (keep_size (w := w) (g := g) (row := none) (kp3_ iA.out jA.out xA.out)))
      replace aA := Aside0.mk (Kd.R_elder' (kr_ aA.out) (Kd.R_base nD) hb)
      replace fA := bK_ fA hb
      replace eA := bK_ eA hb
      replace wA := bK_ wA hb
      replace HK := Aside0.mk (KeepBut.trans (kp3_ iA.out jA.out xA.out) (KeepBut.of_below hb g none) (.inl rfl))
      replace HB := Aside0.mk (below_step (hs4_ (IsS92.ge HI0.out) pA.out rA.out bB.out) hb)
      replace HI0 := Aside0.mk (IsS92.below (iS92_3_ dA.out cA.out lA.out) hb)
      (try clear hb)
      (try clear hb2)
      (try clear hk)
      (try clear hi)
      (try clear nD)
      refine hK.out _ _ (bt_ eA 0) (fun hHeld => ?_)
      clear hK K
      refine no_ ?_
      refine pv_ 10 59 ?_
      refine pv_ 11 70 ?_
      refine pv_ 12 71 ?_
      exact nq_ (hJ5_7_8_9_13 (yB, jE, hA) _ ⟨hHeld, (kr_ yA.out), (rF_ (Kd.R_mono oD.out (fun _ hk => hk.2))), (rF_ (Kd.R_mono aA.out (fun _ hk => hk.2))), (kb_ fA.out), (kb_ eA.out), (kb_ wA.out), xA.out, bB.out, lA.out, aB.out, sA.out, uA.out, qA.out, tA.out, (iS92_3_ dA.out cA.out lA.out), (kp3_ iA.out jA.out xA.out), (hs4_ (IsS92.ge HI0.out) pA.out rA.out bB.out)⟩)
    ·skip
     rintro ⟨yB, jE⟩ nC ⟨hS_, h0_, h1_, h2_, h3_, h4_, h5_, h6_, h7_⟩
     have n0_ : Aside0 (Kd.R Kd.string 9 nC w.heap.size (fun _ => True) yB iC) := ⟨h0_⟩
     have n1_ : Aside0 (Kd.R k56 56 nC w.heap.size (fun k_ => some k_ ≠ (.slice mA bA.length nA : Value).ownBlock) jE lD) := ⟨h1_⟩
     have n2_ : Aside0 (Kd.R k56 56 nC w.heap.size (fun k_ => some k_ ≠ (jE : Value).ownBlock) (.slice mA bA.length nA) bA) := ⟨h2_⟩
     have n3_ : Aside0 (nC.heap[oA]? = some (.cells #[.slice none 0 0] 31 (0, 0))) := ⟨h3_⟩
     have n4_ : Aside0 (nC.heap[kA]? = some (.cells #[.slice mA bA.length nA] 31 (0, 0))) := ⟨h4_⟩
     have n5_ : Aside0 (IsS92 w0 nC g s0_0 vC wC) := ⟨h5_⟩
     have n6_ : Aside0 (KeepBut w nC g none) := ⟨h6_⟩
     have n7_ : Aside0 (Below w0.heap.size w0 nC) := ⟨h7_⟩
     clear aA
     clear fA
     clear eA
     clear HI0
     clear HK
     clear HB
     clear h0_ h1_ h2_ h3_ h4_ h5_ h6_ h7_
     have yA := n0_
     have oD := n1_
     have aA := n2_
     have fA := n3_
     have eA := n4_
     have HI0 := n5_
     have HK := n6_
     have HB := n7_
     clear n0_ n1_ n2_ n3_ n4_ n5_ n6_ n7_
     have hHeld : nC.cell? ⟨kA, 0, none⟩ = some (.slice mA bA.length nA) := hS_
     refine np_ ?_
     refine on_ 13 12 (fun K hK => ?_)
     refine bs_ (N := 12) #[.slice none 0 0] 31 ?_
     intro hA hg yD hbox hb
     replace aA := rB_ aA hb
     replace yA := rB_ yA hb
     replace oD := rB_ oD hb
     replace HB := Aside0.mk (below_step (hs3_ (IsS92.ge HI0.out) pA.out rA.out) hb)
     have wA := Aside0.mk (hbox)
     have xA := Aside0.mk ((by rw [hg]; exact (keep_size (w := w) (g := g) (row := none) (kp2_ iA.out jA.out)) : w.heap.size ≤ hA))
     have bB := Aside0.mk ((Nat.le_trans dF.out (by rw [hg]; exact (keep_size (w := w) (g := g) (row := none) (kp2_ iA.out jA.out)) : w.heap.size ≤ hA) : w0.heap.size ≤ hA))
     replace HK := Aside0.mk (KeepBut.trans (kp2_ iA.out jA.out) (KeepBut.of_below hb g none) (.inl rfl))
     have sA := nl_ fA hg
     have uA := ng_ fA hg
     replace fA := bK_ fA hb
     have qA := nl_ eA hg
     have tA := ng_ eA hg
     replace eA := bK_ eA hb
     have lA := Aside0.mk ((by rw [hg]; exact Nat.ne_of_lt (IsS92.lt (show IsS92 w0 _ g s0_0 vC wC from iS92_2_ dA.out cA.out)) : g ≠ hA))
     have aB := Aside0.mk ((by rw [hg]; exact Nat.ne_of_gt (IsS92.lt (show IsS92 w0 _ g s0_0 vC wC from iS92_2_ dA.out cA.out)) : hA ≠ g))
     replace HI0 := Aside0.mk (IsS92.below (iS92_2_ dA.out cA.out) hb)
     clear hb hbox hg
     refine hK.out _ _ (bt_ eA 0) (fun hHeld => ?_)
     clear hK K
     refine no_ ?_
     exact nq_ (hJ5_7_8_9_13 (yB, jE, hA) _ ⟨hHeld, (kr_ yA.out), (kr_ oD.out), (kr_ aA.out), (kb_ fA.out), (kb_ eA.out), (kb_ wA.out), xA.out, bB.out, lA.out, aB.out, sA.out, uA.out, qA.out, tA.out, (iS92_3_ dA.out cA.out lA.out), (kp3_ iA.out jA.out xA.out), (hs4_ (IsS92.ge HI0.out) pA.out rA.out bB.out)⟩)
   rintro ⟨yB, jE, hA⟩ yD ⟨hS_, h0_, h1_, h2_, h3_, h4_, h5_, h6_, h7_, h8_, h9_, h10_, h11_, h12_, h13_, h14_, h15_, h16_⟩
   have n0_ : Aside0 (Kd.R Kd.string 9 yD w.heap.size (fun _ => True) yB iC) := ⟨h0_⟩
   have n1_ : Aside0 (Kd.R k56 56 yD w.heap.size (fun k_ => some k_ ≠ (.slice mA bA.length nA : Value).ownBlock) jE lD) := ⟨h1_⟩
   have n2_ : Aside0 (Kd.R k56 56 yD w.heap.size (fun k_ => some k_ ≠ (jE : Value).ownBlock) (.slice mA bA.length nA) bA) := ⟨h2_⟩
   have n3_ : Aside0 (yD.heap[oA]? = some (.cells #[.slice none 0 0] 31 (0, 0))) := ⟨h3_⟩
   have n4_ : Aside0 (yD.heap[kA]? = some (.cells #[.slice mA bA.length nA] 31 (0, 0))) := ⟨h4_⟩
   have n5_ : Aside0 (yD.heap[hA]? = some (.cells #[.slice none 0 0] 31 (0, 0))) := ⟨h5_⟩
   have n6_ : Aside0 (w.heap.size ≤ hA) := ⟨h6_⟩
   have n7_ : Aside0 (w0.heap.size ≤ hA) := ⟨h7_⟩
   have n8_ : Aside0 (g ≠ hA) := ⟨h8_⟩
   have n9_ : Aside0 (hA ≠ g) := ⟨h9_⟩
   have n10_ : Aside0 (oA ≠ hA) := ⟨h10_⟩
   have n11_ : Aside0 (hA ≠ oA) := ⟨h11_⟩
   have n12_ : Aside0 (kA ≠ hA) := ⟨h12_⟩
   have n13_ : Aside0 (hA ≠ kA) := ⟨h13_⟩
   have n14_ : Aside0 (IsS92 w0 yD g s0_0 vC wC) := ⟨h14_⟩
   have n15_ : Aside0 (KeepBut w yD g none) := ⟨h15_⟩
   have n16_ : Aside0 (Below w0.heap.size w0 yD) := ⟨h16_⟩
   clear aA
   clear fA
   clear eA
   clear HI0
   clear HK
   clear HB
   clear h0_ h1_ h2_ h3_ h4_ h5_ h6_ h7_ h8_ h9_ h10_ h11_ h12_ h13_ h14_ h15_ h16_
   have yA := n0_
   have oD := n1_
   have aA := n2_
   have fA := n3_
   have eA := n4_
   have wA := n5_
   have xA := n6_
   have bB := n7_
   have lA := n8_
   have aB := n9_
   have sA := n10_
   have uA := n11_
   have qA := n12_
   have tA := n13_
   have HI0 := n14_
   have HK := n15_
   have HB := n16_
   clear n0_ n1_ n2_ n3_ n4_ n5_ n6_ n7_ n8_ n9_ n10_ n11_ n12_ n13_ n14_ n15_ n16_
   have hHeld : yD.cell? ⟨kA, 0, none⟩ = some (.slice mA bA.length nA) := hS_
   obtain ⟨rD, sD, pH⟩ := Kd.R_slice oD.out
   (first | subst pH | (injection pH with f1_ f2_ f3_; have f4_ := f1_.symm; have f5_ := f3_.symm; clear f1_ f2_ f3_; subst f4_; subst f5_))
   refine np_ ?_
   refine one_ (i := 14) (N := none) #[true, true, true, true, true, true, true, true, true, true, true, true, true, true, true, false] rfl rfl (one_of HT_.out (by kernel_rfl)) (by decide) (fun K hK => ?_)
   obtain ⟨hs130, hfs130⟩ := cf1_ wA.out
   have hns130_0 := sA.out
   have hns130_1 := qA.out
   have hms130_0 := uA.out
   have hms130_1 := tA.out
   refine skip_ (w1 := ?_) (by rfl) rfl ?_ ?_
   rotate_left
   ·go_simp
    rfl
   refine hK.out _ _ (((cell_far (p := ⟨hA, _, none⟩) qA.out _).trans (hHeld))) (fun hHeld => ?_)
   clear hK K
   refine pv_ 15 13 ?_
   refine done_ (done_of HT_.out (by kernel_rfl)) ?_
   go_upto_if 72 with (fail)
   go_cut [] (fun wc => ∃ (kq : Nat) (gA : List (S56)) (mB : Value), Aside0 (spec_l1Cur_disk.j2 kq s0_0 vC wC gA = some (r1, r2, r3)) ∧ Aside0 (kq ≤ k1) ∧ Aside0 (Kd.R k56 56 wc w.heap.size (fun _ => True) mB gA) ∧ Aside0 (wc.heap[oA]? = some (.cells #[(.slice none 0 0)] 31 (0, 0))) ∧ Aside0 (wc.heap[kA]? = some (.cells #[mB] 31 (0, 0))) ∧ Aside0 (wc.heap[hA]? = some (.cells #[(.slice rD lD.length sD)] 31 (0, 0))) ∧ Aside0 (IsS92 w0 wc g s0_0 vC wC) ∧ Aside0 (KeepBut w wc g none) ∧ Aside0 (Below w0.heap.size w0 wc))
   case first =>
    have H := xF.out
    clear xF
    replace H := ifb_ H
    obtain ⟨rfl, H⟩ | ⟨rfl, H⟩ := H
    rotate_left
    ·have H' := Aside0.mk H
     clear H
     go_wp2
     go_meet
     case rel => exact ⟨_, (bA), (.slice mA bA.length nA), H', ⟨by have := pF.out; first | omega | exact Nat.le_refl _⟩, ⟨rF_ (Kd.R_mono (Kd.R_far (p := ⟨hA, 0, none⟩) (Kd.R_types aA.out wA.out (by decide)) (fun _ hk => hk.2) (.slice rD lD.length sD)) (fun _ _ => trivial))⟩, ⟨uf_ fA sA.out⟩, ⟨uf_ eA qA.out⟩, ⟨up_ wA⟩, ⟨iS92_3_ dA.out cA.out lA.out⟩, ⟨kp3_ iA.out jA.out xA.out⟩, ⟨hs4_ (IsS92.ge HI0.out) pA.out rA.out bB.out⟩⟩
    have H' := Aside0.mk H
    clear H
    have uM := uA.out
    have vM := sA.out
    have wM := tA.out
    have xM := qA.out
    have yM := aB.out
    have zM := lA.out
    obtain ⟨tJ, uJ⟩ := cf1_ wA.out
    have aN := tB.out
    have bN := jB.out
    have cN := gB.out
    have dN := cA.out
    obtain ⟨vJ, wJ⟩ := cf1_ eA.out
    go_wp2
    go_meet
    case rel => exact ⟨_, (lD), (.slice rD lD.length sD), H', ⟨by have := pF.out; first | omega | exact Nat.le_refl _⟩, ⟨rF_ (Kd.R_mono (Kd.R_far (p := ⟨kA, 0, none⟩) (Kd.R_far (p := ⟨hA, 0, none⟩) (Kd.R_types (Kd.R_types oD.out wA.out (by decide)) eA.out (by decide)) (fun _ hk => hk.1.2) (.slice rD lD.length sD)) (fun _ hk => hk.2) (.slice rD lD.length sD)) (fun _ _ => trivial))⟩, ⟨ug_ fA jB.out sA.out⟩, ⟨by (with_reducible repeat (first | refine blk_drewN ?_ _ | refine blk_drew ?_ | refine blk_alloc ?_ _)); refine blk_put (cs := #[.slice mA bA.length nA]) ?_ 0 _ rfl; (with_reducible repeat (first | refine blk_drewN ?_ _ | refine blk_drew ?_ | refine blk_alloc ?_ _)); refine blk_far ?_ qA.out _; (with_reducible repeat (first | refine blk_drewN ?_ _ | refine blk_drew ?_ | refine blk_alloc ?_ _)); exact eA.out⟩, ⟨by (with_reducible repeat (first | refine blk_drewN ?_ _ | refine blk_drew ?_ | refine blk_alloc ?_ _)); refine blk_far ?_ tA.out _; (with_reducible repeat (first | refine blk_drewN ?_ _ | refine blk_drew ?_ | refine blk_alloc ?_ _)); refine blk_put (cs := #[.slice none 0 0]) ?_ 0 _ rfl; (with_reducible repeat (first | refine blk_drewN ?_ _ | refine blk_drew ?_ | refine blk_alloc ?_ _)); exact wA.out⟩, ⟨iS92_3_ dA.out cA.out lA.out⟩, ⟨kp3_ iA.out jA.out xA.out⟩, ⟨hs4_ (IsS92.ge HI0.out) pA.out rA.out bB.out⟩⟩
   case rest =>
    clear xF
    obtain ⟨kq, gA, mB, HA, nR, aA, fA, eA, wA, HI0, HK, HB⟩ := hcut
    cases kq with
    | zero => exact absurd HA.out (by simp [spec_l1Cur_disk.j2])
    | succ kj117 =>
     have H := HA.out
     clear HA
     simp only [spec_l1Cur_disk.j2] at H
     replace H := bnd_ H
     obtain ⟨⟨cS, nF, oF⟩, xJ, H⟩ := H
     replace H := red_ H
     replace H := ifb_ H
     obtain ⟨rfl, H⟩ | ⟨rfl, H⟩ := H
     rotate_left
     ·simp only [Option.some.injEq, Prod.mk.injEq] at H
      obtain ⟨rfl, rfl, rfl⟩ := H
      go_wp2_with (first | ((with_reducible refine gate_callee (f := 72) rfl ?_); refine gl_ 75 Try.func72 #[.pointer (some ⟨g, 0, none⟩), .int .i64 20] rfl ma_ ?_; (with_reducible refine (spec_l1Cur_one.calls g s0_0 vC wC 20 false nF oF w0 _ ?side1 ?side2 xJ.out).mono ?_); (case side1 => exact iS92_3_ dA.out cA.out lA.out); (case side2 => exact hs4_ (IsS92.ge HI0.out) pA.out rA.out bB.out); rintro e dS ⟨rfl, hi, hb, hk⟩; refine ⟨_, rfl, ?_⟩; replace aA := Aside0.mk (Kd.R_mono (Kd.R_keep (IsS92.apart (show IsS92 w0 _ g s0_0 vC wC from iS92_3_ dA.out cA.out lA.out) (kr_ aA.out) (by decide)) hk (fun _ h => h.2)) (fun _ h => h.1)); replace fA := Aside0.mk (KeepBut.blk hk (g' := oA) (o := .cells #[.slice none 0 0] 31 (0, 0)) (kb_ fA.out) nB.out (by simp)); replace eA := Aside0.mk (KeepBut.blk hk (g' := kA) (o := .cells #[mB] 31 (0, 0)) (kb_ eA.out) gB.out (by simp)); replace wA := Aside0.mk (KeepBut.blk hk (g' := hA) (o := .cells #[.slice rD lD.length sD] 31 (0, 0)) (kb_ wA.out) aB.out (by simp)); replace HK := Aside0.mk (KeepBut.trans (kp3_ iA.out jA.out xA.out) hk (.inl rfl)); replace HB := Aside0.mk (hb); replace HI0 := Aside0.mk (hi); (try clear hb); (try clear hb2); (try clear hk); (try clear hi); have eN := tB.out; have fN := jB.out; have gN := qA.out; have hN := tA.out; have iN := gB.out; have jN := cA.out; obtain ⟨yJ, zJ⟩ := cf1_ eA.out; obtain ⟨qH, rH, aK⟩ := Kd.R_slice aA.out; subst aK; have kN := sA.out; have lN := uA.out; have mN := nB.out; have nN := dA.out; obtain ⟨bK, cK⟩ := cf1_ fA.out))
      refine bodyPost_ret (results_cell_row rfl _ _ oA 31 #[.slice qH gA.length rH] (0, 0) _ rfl (up_ fA) Try.underlying31 rfl (by kernel_rfl)) rfl ?_
      exact ⟨_, er_, rF_ (Kd.R_mono (Kd.R_far (p := ⟨oA, 0, none⟩) (Kd.R_types aA.out fA.out (by decide)) (fun _ hk => hk.2) (.slice qH gA.length rH)) (fun _ hk => trivial)), iS92_3_ dA.out cA.out lA.out, hs4_ (IsS92.ge HI0.out) pA.out rA.out bB.out, kp3_ iA.out jA.out xA.out⟩
     replace H := ifs_ H
     obtain ⟨dK, H⟩ := H
     have oN := decide_eq_true dK
     have pN : decide (0 < gA.length) = true := decide_eq_true (by omega)
     clear dK
     obtain ⟨aG, yE⟩ : ∃ y_ : List Int, y_ = (([(-1), 0, (((rd_T56 gA 0).f0).size : Int), wrap64 ((((rd_T56 gA 0).f0).size : Int) + 1)] : List Int)) := ⟨_, rfl⟩
     replace H : ((spec_l1Cur_among.f s0_0 nF oF aG).bind fun bG => (some ((gA.set (0 : Int).toNat (⟨(rd_T56 gA 0).f0, bG.1⟩ : S56)), bG.2.1, bG.2.2))) = some (r1, r2, r3) := by first | (rw [yE]; with_reducible exact H) | (have H2_ := (Option.bind_some _ _).symm.trans H; rw [yE]; with_reducible exact H2_) | (have H2_ := (Option.bind_some _ _).symm.trans H; with_reducible exact H2_) | with_reducible exact H | (rw [yE]; exact H) | exact H
     have sH := Aside0.mk yE
     clear yE
     replace H := bnd_ H
     obtain ⟨⟨qD, eI, fI⟩, qN, H⟩ := H
     replace H := red_ H
     obtain ⟨eK, zE⟩ : ∃ y_ : List (S56), y_ = (gA.set (0 : Int).toNat (⟨(rd_T56 gA 0).f0, qD⟩ : S56)) := ⟨_, rfl⟩
     replace H : (some (eK, eI, fI)) = some (r1, r2, r3) := by first | (rw [zE]; with_reducible exact H) | (have H2_ := (Option.bind_some _ _).symm.trans H; rw [zE]; with_reducible exact H2_) | (have H2_ := (Option.bind_some _ _).symm.trans H; with_reducible exact H2_) | with_reducible exact H | (rw [zE]; exact H) | exact H
     have fK := Aside0.mk zE
     clear zE
     simp only [Option.some.injEq, Prod.mk.injEq] at H
     obtain ⟨rfl, rfl, rfl⟩ := H
     try go_wp2_with (first | ((with_reducible refine gate_callee (f := 72) rfl ?_); refine gl_ 75 Try.func72 #[.pointer (some ⟨g, 0, none⟩), .int .i64 20] rfl ma_ ?_; (with_reducible refine (spec_l1Cur_one.calls g s0_0 vC wC 20 true nF oF w0 _ ?side1 ?side2 xJ.out).mono ?_); (case side1 => exact iS92_3_ dA.out cA.out lA.out); (case side2 => exact hs4_ (IsS92.ge HI0.out) pA.out rA.out bB.out); rintro e rN ⟨rfl, hi, hb, hk⟩; refine ⟨_, rfl, ?_⟩; replace aA := Aside0.mk (Kd.R_mono (Kd.R_keep (IsS92.apart (show IsS92 w0 _ g s0_0 vC wC from iS92_3_ dA.out cA.out lA.out) (kr_ aA.out) (by decide)) hk (fun _ h => h.2)) (fun _ h => h.1)); replace fA := Aside0.mk (KeepBut.blk hk (g' := oA) (o := .cells #[.slice none 0 0] 31 (0, 0)) (kb_ fA.out) nB.out (by simp)); replace eA := Aside0.mk (KeepBut.blk hk (g' := kA) (o := .cells #[mB] 31 (0, 0)) (kb_ eA.out) gB.out (by simp)); replace wA := Aside0.mk (KeepBut.blk hk (g' := hA) (o := .cells #[.slice rD lD.length sD] 31 (0, 0)) (kb_ wA.out) aB.out (by simp)); replace HK := Aside0.mk (KeepBut.trans (kp3_ iA.out jA.out xA.out) hk (.inl rfl)); replace HB := Aside0.mk (hb); replace HI0 := Aside0.mk (hi); (try clear hb); (try clear hb2); (try clear hk); (try clear hi)))
     replace aA := qR_ aA
     replace fA := qK_ fA
     replace eA := qK_ eA
     replace wA := qK_ wA
     replace HI0 := Aside0.mk (IsS92.drew HI0.out)
     replace HK := Aside0.mk (keep_drew HK.out)
     replace HB := qH_ HB
     obtain ⟨oR, oE, tH⟩ := Kd.R_slice aA.out
     (first | subst tH | (injection tH with f1_ f2_ f3_; have f4_ := f1_.symm; have f5_ := f3_.symm; clear f1_ f2_ f3_; subst f4_; subst f5_))
     have gI : 0 ≤ (0 : Int) := (by omega)
     have iI : 0 < (gA.length : Int) := oa_
     obtain ⟨tD, sN, fD, gD⟩ := at_T56 (Kd.R_reads' aA.out).2.2 0 gI iI
     cases sN
     have qi423 : (0 < gA.length) = True := eq_true (by omega)
     (try rw [show ((0 : Int)).toNat = 0 from rfl] at fD)
     (try rw [show 0 * 2 = 0 from rfl] at fD)
     (try rw [Addr.add_zero'] at fD)
     (try rw [show ((0 : Int)).toNat = 0 from rfl] at gD)
     (try rw [show 0 * 2 = 0 from rfl] at gD)
     (try rw [Addr.add_zero'] at gD)
     replace gI := eq_true gI
     replace iI := eq_true iI
     have jI : 0 ≤ (0 : Int) := (by omega)
     have kI : 0 < (gA.length : Int) := oa_
     obtain ⟨gK, tN, hD, iD⟩ := at_T56 (Kd.R_reads' aA.out).2.2 0 jI kI
     obtain rfl : tD = gK := (by injection tN)
     have qi424 : (0 < gA.length) = True := eq_true (by omega)
     (try rw [show ((0 : Int)).toNat = 0 from rfl] at hD)
     (try rw [show 0 * 2 = 0 from rfl] at hD)
     (try rw [Addr.add_zero'] at hD)
     (try rw [show ((0 : Int)).toNat = 0 from rfl] at iD)
     (try rw [show 0 * 2 = 0 from rfl] at iD)
     (try rw [Addr.add_zero'] at iD)
     replace jI := eq_true jI
     replace kI := eq_true kI
     refine start_ (n := 21) (S := fun w' => w'.cell? ⟨kA, 0, none⟩ = some (.slice (some tD) gA.length oE) ∧ w'.cell? tD = some (.string ((rd_T56 gA 0).f0)) ∧ w'.cell? ⟨tD.block, tD.off + 1, none⟩ = some (.int .i64 ((rd_T56 gA 0).f1)) ∧ w'.cell? tD = some (.string ((rd_T56 gA 0).f0)) ∧ w'.cell? ⟨tD.block, tD.off + 1, none⟩ = some (.int .i64 ((rd_T56 gA 0).f1))) (ds := [20]) (List.replicate 21 false).toArray (by kernel_rfl) rfl rfl ⟨bt_ eA 0, fD, gD, hD, iD⟩ (fun hHeld => ?_); refine with_tabW spec_l1Cur_disk.tab21 spec_l1Cur_disk.bits21 (fun HT_ HW_ => ?_)
     generalize rN.drew = eS at aA fA eA wA HI0 HK HB fD gD hD iD hHeld ⊢
     refine pv_ 0 76 ?_
     refine pv_ 2 78 ?_
     refine pv_ 3 79 ?_
     refine pv_ 9 85 ?_
     refine tk_ 1 77 ?_
     refine tk_ 4 80 ?_
     refine pv_ 5 81 ?_
     refine pv_ 6 82 ?_
     refine tk_ 7 83 ?_
     refine pv_ 8 84 ?_
     refine tk_ 10 86 ?_
     refine pv_ 11 87 ?_
     refine pv_ 12 88 ?_
     refine tk_ 13 89 ?_
     refine pv_ 14 90 ?_
     refine pv_ 15 91 ?_
     refine on_ 16 92 (fun K hK => ?_)
     refine Kd.R_lit_step (Kd.int .i64) _ 3 ?hg (N := 92) ?hd (xs := ([(-1), 0, (((rd_T56 gA 0).f0).size : Int), wrap64 ((((rd_T56 gA 0).f0).size : Int) + 1)] : List Int)) (inner := [.int .i64 (-1), .int .i64 0, .int .i64 (((rd_T56 gA 0).f0).size : Int), .int .i64 (wrap64 ((((rd_T56 gA 0).f0).size : Int) + 1))]) (ok := fun _ => True) (okp := fun _ => True) ?hr ?hp (fun _ hk => hk) trivial (Below.refl _ _) (Nat.le_refl _) (by simp) ?_; (case hd => rfl); (case hg => rfl); (case hr => first | (go_simp; done) | (go_simp; rfl)); (case hp => exact (Reps.one (show Kd.M (Kd.int .i64) _ _ _ (-1) [.int .i64 (-1)] from rfl) (Reps.one (show Kd.M (Kd.int .i64) _ _ _ 0 [.int .i64 0] from rfl) (Reps.one (show Kd.M (Kd.int .i64) _ _ _ (((rd_T56 gA 0).f0).size : Int) [.int .i64 (((rd_T56 gA 0).f0).size : Int)] from rfl) (Reps.one (show Kd.M (Kd.int .i64) _ _ _ (wrap64 ((((rd_T56 gA 0).f0).size : Int) + 1)) [.int .i64 (wrap64 ((((rd_T56 gA 0).f0).size : Int) + 1))] from rfl) (Reps.none _ _))))))
     intro fS gS aF hb hg_ hnew_
     have HS1_ := (hb.cell (World.block_lt_of_cell? _ _ (hHeld.2.1))).trans (hHeld.2.1)
     have HS2_ := (hb.cell (World.block_lt_of_cell? _ _ (hHeld.2.2.1))).trans (hHeld.2.2.1)
     have HS3_ := (hb.cell (World.block_lt_of_cell? _ _ (hHeld.2.2.2.1))).trans (hHeld.2.2.2.1)
     have HS4_ := (hb.cell (World.block_lt_of_cell? _ _ (hHeld.2.2.2.2))).trans (hHeld.2.2.2.2)
     clear hg_ hnew_
     (first | rw [← sH.out] at aF | (simp only [Int.reduceToNat] at aF; rw [← sH.out] at aF))
     replace aA := rB_ aA hb
     have uD := Aside0.mk (Kd.R_lower aF (keep_size (w := w) (g := g) (row := none) (kp3_ iA.out jA.out xA.out)))
     replace fA := bK_ fA hb
     replace eA := bK_ eA hb
     replace wA := bK_ wA hb
     replace HK := Aside0.mk (KeepBut.trans (kp3_ iA.out jA.out xA.out) (KeepBut.of_below hb g none) (.inl rfl))
     replace HB := Aside0.mk (below_step (hs4_ (IsS92.ge HI0.out) pA.out rA.out bB.out) hb)
     replace HI0 := Aside0.mk (IsS92.below (iS92_3_ dA.out cA.out lA.out) hb)
     clear hb aF
     obtain ⟨uH, vH, wH⟩ := Kd.R_slice uD.out
     (first | subst wH | (injection wH with f1_ f2_ f3_; have f4_ := f1_.symm; have f5_ := f3_.symm; clear f1_ f2_ f3_; subst f4_; subst f5_))
     refine hK.out _ _ ⟨bt_ eA 0, HS1_, HS2_, HS3_, HS4_⟩ (fun hHeld => ?_)
     clear hK K
     refine no_ ?_
     refine on_ 17 93 (fun K hK => ?_)
     refine gs_ Try.func92 #[.pointer (some ⟨g, 0, none⟩), .slice uH aG.length vH] rfl ma_ ?_
     with_reducible refine (spec_l1Cur_among.calls g s0_0 nF oF _ _ aG qD eI fI w0 _ ?side1 ?side2 ?side3 ?side4 ?side5 qN.out).mono ?_
     (case side1 => exact iS92_3_ dA.out cA.out lA.out)
     (case side2 => exact hs4_ (IsS92.ge HI0.out) pA.out rA.out bB.out)
     (case side3 => exact cs_ ((Kd.R_reads' uD.out).2.2))
     (case side4 => exact (Kd.R_reads' uD.out).2.1)
     (case side5 => exact far_slice (IsS92.own_ne HI0.out uD.out (by decide)))
     rintro e rE ⟨rfl, hi, hb, hk⟩
     have HS1_ := keep_cell hk (hHeld.2.1) (by first | (rw [add_block]; exact Kd.own_blk (IsS92.own_ne HI0.out aA.out (by decide))) | (show (Addr.add _ _).block ≠ _; rw [add_block]; exact Kd.own_blk (IsS92.own_ne HI0.out aA.out (by decide))) | exact Kd.own_blk (IsS92.own_ne HI0.out aA.out (by decide)) | (have h_ := Kd.own_blk (IsS92.own_ne HI0.out aA.out (by decide)); exact h_))
     have HS2_ := keep_cell hk (hHeld.2.2.1) (by first | (rw [add_block]; exact Kd.own_blk (IsS92.own_ne HI0.out aA.out (by decide))) | (show (Addr.add _ _).block ≠ _; rw [add_block]; exact Kd.own_blk (IsS92.own_ne HI0.out aA.out (by decide))) | exact Kd.own_blk (IsS92.own_ne HI0.out aA.out (by decide)) | (have h_ := Kd.own_blk (IsS92.own_ne HI0.out aA.out (by decide)); exact h_))
     have HS3_ := keep_cell hk (hHeld.2.2.2.1) (by first | (rw [add_block]; exact Kd.own_blk (IsS92.own_ne HI0.out aA.out (by decide))) | (show (Addr.add _ _).block ≠ _; rw [add_block]; exact Kd.own_blk (IsS92.own_ne HI0.out aA.out (by decide))) | exact Kd.own_blk (IsS92.own_ne HI0.out aA.out (by decide)) | (have h_ := Kd.own_blk (IsS92.own_ne HI0.out aA.out (by decide)); exact h_))
     have HS4_ := keep_cell hk (hHeld.2.2.2.2) (by first | (rw [add_block]; exact Kd.own_blk (IsS92.own_ne HI0.out aA.out (by decide))) | (show (Addr.add _ _).block ≠ _; rw [add_block]; exact Kd.own_blk (IsS92.own_ne HI0.out aA.out (by decide))) | exact Kd.own_blk (IsS92.own_ne HI0.out aA.out (by decide)) | (have h_ := Kd.own_blk (IsS92.own_ne HI0.out aA.out (by decide)); exact h_))
     refine ⟨_, rfl, ?_⟩
     replace aA := Aside0.mk (Kd.R_mono (Kd.R_keep (IsS92.apart (show IsS92 w0 _ g s0_0 nF oF from iS92_3_ dA.out cA.out lA.out) (kr_ aA.out) (by decide)) hk (fun _ h => h.2)) (fun _ h => h.1))
     replace fA := Aside0.mk (KeepBut.blk hk (g' := oA) (o := .cells #[.slice none 0 0] 31 (0, 0)) (kb_ fA.out) nB.out (by simp))
     replace eA := Aside0.mk (KeepBut.blk hk (g' := kA) (o := .cells #[.slice (some tD) gA.length oE] 31 (0, 0)) (kb_ eA.out) gB.out (by simp))
     replace wA := Aside0.mk (KeepBut.blk hk (g' := hA) (o := .cells #[.slice rD lD.length sD] 31 (0, 0)) (kb_ wA.out) aB.out (by simp))
     replace uD := Aside0.mk (Kd.R_mono (Kd.R_keep (IsS92.apart (show IsS92 w0 _ g s0_0 nF oF from iS92_3_ dA.out cA.out lA.out) (kr_ uD.out) (by decide)) hk (fun _ h => h.2)) (fun _ h => h.1))
     replace HK := Aside0.mk (KeepBut.trans (kp3_ iA.out jA.out xA.out) hk (.inl rfl))
     replace HB := Aside0.mk (hb)
     replace HI0 := Aside0.mk (hi)
     (try clear hb)
     (try clear hb2)
     (try clear hk)
     (try clear hi)
     have lI : 0 ≤ (0 : Int) := (by omega)
     have mI : (0 : Int) < ((gA.length : Int) : Int) := oa_
     have qi143 : (0 < gA.length) = True := eq_true (by omega)
     obtain ⟨go143, pR, xH, yH, gl143, cl143, zH⟩ := Kd.R_form aA.out (by omega)
     (first | cases xH | (injection xH with ea_ en_ ec_; (first | subst ea_ | (injection ea_ with ea_; subst ea_)); subst ec_; clear en_))
     have GB143 := Aside0.mk yH
     have GG143 := Aside0.mk zH
     clear yH gl143 zH
     (first | simp only [add_plain] at fD | skip)
     (first | simp only [add_plain] at gD | skip)
     (first | simp only [add_plain] at hD | skip)
     (first | simp only [add_plain] at iD | skip)
     obtain ⟨ce143, nI, hM143, bF, cF⟩ := Kd.R_elem aA.out z56 (0 : Int) lI mI
     obtain rfl := k56_openM hM143
     have iF : World.cell? _ ⟨go143, (0 : Int).toNat * 2, none⟩ = some (.string ((rd_T56 gA 0).f0)) := bF 0 _ rfl
     have jF : World.cell? _ ⟨go143, (0 : Int).toNat * 2 + 1, none⟩ = some (.int .i64 ((rd_T56 gA 0).f1)) := bF 1 _ rfl
     have hf143_0 : World.frozen? _ ⟨go143, (0 : Int).toNat * 2, none⟩ = false := cF 0
     have hf143_1 : World.frozen? _ ⟨go143, (0 : Int).toNat * 2 + 1, none⟩ = false := cF 1
     clear nI bF cF; (try clear hM143)
     (try rw [show ((0 : Int)).toNat = 0 from rfl] at iF)
     (try simp only [Nat.reduceMul, Nat.zero_mul, Nat.zero_add, Nat.reduceAdd] at iF)
     (try rw [show ((0 : Int)).toNat = 0 from rfl] at hf143_0)
     (try simp only [Nat.reduceMul, Nat.zero_mul, Nat.zero_add, Nat.reduceAdd] at hf143_0)
     (try rw [show ((0 : Int)).toNat = 0 from rfl] at jF)
     (try simp only [Nat.reduceMul, Nat.zero_mul, Nat.zero_add, Nat.reduceAdd] at jF)
     (try rw [show ((0 : Int)).toNat = 0 from rfl] at hf143_1)
     (try simp only [Nat.reduceMul, Nat.zero_mul, Nat.zero_add, Nat.reduceAdd] at hf143_1)
     replace lI := eq_true lI
     replace mI := eq_true mI
     have HN0_go143 := Aside0.mk (show g ≠ go143 from by have h_ := IsS92.own_ne HI0.out aA.out (by decide); intro e_; exact h_ (by rw [e_]; rfl))
     obtain ⟨ce151, cG, hM151, dG, oI⟩ := Kd.R_elem aA.out z56 (0 : Int) (by omega) (by have h_ : (0 : Int) < ((gA.length : Int) : Int) := oa_; first | exact h_ | (have e_ := (Kd.R_reads' aA.out).1; omega) | simpa using h_)
     obtain rfl := k56_openM hM151
     have eG := (Kd.R_seg aA.out (0 : Int) (by omega) (by have h_ : (0 : Int) < ((gA.length : Int) : Int) := oa_; first | exact h_ | (have e_ := (Kd.R_reads' aA.out).1; omega) | simpa using h_) (seg := [.int .i64 qD]) (j := 1) cG dG (show 2 ≤ 2 from by decide) (x' := (⟨(rd_T56 gA 0).f0, qD⟩ : S56)) (k56_mkM _ _ _ (⟨(rd_T56 gA 0).f0, qD⟩ : S56) ) (fun _ hk => hk)).1
     rw [← fK.out] at eG
     have iK := Aside0.mk eG
     clear cG dG oI eG; (try clear hM151)
     refine hK.out _ _ ⟨bt_ eA 0, HS1_, HS2_, HS3_, HS4_⟩ (fun hHeld => ?_)
     clear hK K
     refine no_ ?_
     refine pv_ 18 94 ?_
     refine pv_ 19 95 ?_
     refine last_ (i := 20) (N := none) #[true, true, true, true, true, true, true, true, true, true, true, true, true, true, true, true, true, true, true, true, true] rfl rfl (one_of HT_.out (by kernel_rfl)) (by decide) (fun K hK => ?_)
     refine skip_ (w1 := ?_) (by rfl) rfl ?_ ?_
     rotate_left
     ·go_simp
      rfl
     refine hK.out _ _ ?_
     clear hK K
     refine done_ (done_of HT_.out (by kernel_rfl)) ?_
     have n0_ : Aside0 (Kd.R k56 56 (rE.setCell ⟨go143, 1, none⟩ (.int .i64 qD)) w.heap.size (fun _ => True) (.slice (some ⟨go143, 0, none⟩) gA.length oE) eK) := ⟨kr_ iK.out⟩
     have n2_ : Aside0 (Kd.R (Kd.int .i64) 3 (rE.setCell ⟨go143, 1, none⟩ (.int .i64 qD)) w.heap.size (fun _ => True) (.slice uH aG.length vH) aG) := ⟨rF_ (Kd.R_mono (Kd.R_far (p := ⟨go143, 1, none⟩) (Kd.R_types uD.out GG143.out (by decide)) (fun _ hk => hk.2) (.int .i64 qD)) (fun _ hk => trivial))⟩
     have n3_ : Aside0 ((rE.setCell ⟨go143, 1, none⟩ (.int .i64 qD)).heap[oA]? = some (.cells #[.slice none 0 0] 31 (0, 0))) := ⟨by (with_reducible repeat (first | refine blk_drewN ?_ _ | refine blk_drew ?_ | refine blk_alloc ?_ _)); refine blk_far ?_ (by have h_ := Kd.R_ne aA.out fA.out (by decide); intro e_; exact h_ (by rw [e_]; rfl)) _; (with_reducible repeat (first | refine blk_drewN ?_ _ | refine blk_drew ?_ | refine blk_alloc ?_ _)); exact fA.out⟩
     have n4_ : Aside0 ((rE.setCell ⟨go143, 1, none⟩ (.int .i64 qD)).heap[kA]? = some (.cells #[.slice (some ⟨go143, 0, none⟩) gA.length oE] 31 (0, 0))) := ⟨by (with_reducible repeat (first | refine blk_drewN ?_ _ | refine blk_drew ?_ | refine blk_alloc ?_ _)); refine blk_far ?_ (by have h_ := Kd.R_ne aA.out eA.out (by decide); intro e_; exact h_ (by rw [e_]; rfl)) _; (with_reducible repeat (first | refine blk_drewN ?_ _ | refine blk_drew ?_ | refine blk_alloc ?_ _)); exact eA.out⟩
     have n5_ : Aside0 ((rE.setCell ⟨go143, 1, none⟩ (.int .i64 qD)).heap[hA]? = some (.cells #[.slice rD lD.length sD] 31 (0, 0))) := ⟨by (with_reducible repeat (first | refine blk_drewN ?_ _ | refine blk_drew ?_ | refine blk_alloc ?_ _)); refine blk_far ?_ (by have h_ := Kd.R_ne aA.out wA.out (by decide); intro e_; exact h_ (by rw [e_]; rfl)) _; (with_reducible repeat (first | refine blk_drewN ?_ _ | refine blk_drew ?_ | refine blk_alloc ?_ _)); exact wA.out⟩
     have n6_ : Aside0 (IsS92 w0 (rE.setCell ⟨go143, 1, none⟩ (.int .i64 qD)) g s0_0 eI fI) := ⟨iS92_4_ HN0_go143.out dA.out cA.out lA.out⟩
     have n7_ : Aside0 (KeepBut w (rE.setCell ⟨go143, 1, none⟩ (.int .i64 qD)) g none) := ⟨kp4_ GB143.out iA.out jA.out xA.out⟩
     have n8_ : Aside0 (Below w0.heap.size w0 (rE.setCell ⟨go143, 1, none⟩ (.int .i64 qD))) := ⟨hs5_ (Nat.le_trans HL.out GB143.out) (IsS92.ge HI0.out) pA.out rA.out bB.out⟩
     (try clear aA)
     (try clear uD)
     (try clear fA)
     (try clear eA)
     (try clear wA)
     (try clear HI0)
     (try clear HK)
     (try clear HB)
     generalize (rE.setCell ⟨go143, 1, none⟩ (.int .i64 qD)) = hS at n0_ n2_ n3_ n4_ n5_ n6_ n7_ n8_ ⊢
     have aA := n0_
     have uD := n2_
     have fA := n3_
     have eA := n4_
     have wA := n5_
     have HI0 := n6_
     have HK := n7_
     have HB := n8_
     clear n0_ n2_ n3_ n4_ n5_ n6_ n7_ n8_
     have uN := tB.out
     have vN := jB.out
     have wN := qA.out
     have xN := tA.out
     have yN := gB.out
     have zN := cA.out
     obtain ⟨jK, kK⟩ := cf1_ eA.out
     have aO := sA.out
     have bO := uA.out
     have cO := nB.out
     have dO := dA.out
     obtain ⟨lK, mK⟩ := cf1_ fA.out
     try go_wp2
     refine bodyPost_ret (results_cell_row rfl _ _ oA 31 #[.slice (some ⟨go143, 0, none⟩) gA.length oE] (0, 0) _ rfl (up_ fA) Try.underlying31 rfl (by kernel_rfl)) rfl ?_
     exact ⟨_, er_, rF_ (Kd.R_mono (Kd.R_far (p := ⟨oA, 0, none⟩) (Kd.R_types aA.out fA.out (by decide)) (fun _ hk => hk.2) (.slice (some ⟨go143, 0, none⟩) gA.length oE)) (fun _ hk => trivial)), iS92_3_ dA.out cA.out lA.out, hs4_ (IsS92.ge HI0.out) pA.out rA.out bB.out, kp3_ iA.out jA.out xA.out⟩
end Go.Proofs.Ytpdpipfkllfhmaa.QFnDisks
