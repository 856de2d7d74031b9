/- Functions that one statement reaches: of each a plain function, and the proof that calls come to it. Conditions: those that each contract names. Written by a program of this repository. -/
import Derived.Test.YtpdpipfkllfhmaaVFnTorna
import Derived.Test.YtpdpipfkllfhmaaQFnTornx2
import Derived.Test.YtpdpipfkllfhmaaQFnTornx12
import Derived.Test.YtpdpipfkllfhmaaQFnTornx13
import Derived.Test.YtpdpipfkllfhmaaQFnTornx14
namespace Go.Proofs.Ytpdpipfkllfhmaa.QFnTorn
open Go.RowKit Go.Proofs.YtpdpipfkllfhmaaW.PrintWords Go.Proofs.YtpdpipfkllfhmaaW.PrintLast Go.Proofs.YtpdpipfkllfhmaaW.PrintMore
attribute [local go_sem] max2_int min2_int max_two min_two max_three min_three max_four min_four Go.Proofs.YtpdpipfkllfhmaaW.PrintMore2.isSome_setCell   -- for this text's walks alone
set_option linter.unusedVariables false
set_option linter.unusedSimpArgs false

/-! ### spec_l1Cur_disk: function 70 -/
mutual
def spec_l1Cur_disk.l0 : Nat → Int → Int → List Int → Int → Int → List (S56) → Option ((List (S56)) × Int × Int)
 | 0, _, _, _, _, _, _ => none
 | k + 1, x5, x6, x1000, x1001, x1002, x412000 => if x6 > 0 then ((spec_l1Cur_batch.f k x1000 x1001 x1002).bind fun bt415 => ((spec_GoodBatch.f k bt415.1 bt415.2.1 bt415.2.2.1 bt415.2.2.2.1 bt415.2.2.2.2.1).bind fun t425 => (if t425 = true then ((spec_WriteBatch.f k x412000 0 x5 1 bt415.2.2.1 bt415.2.2.2.1 bt415.2.2.2.2.1).bind fun bt426 => (if bt426.2 = true then (spec_l1Cur_disk.j1 k (wrap64 (x5 + (bt415.2.2.2.2.1.length : Int))) x6 x1000 bt415.2.2.2.2.2.1 bt415.2.2.2.2.2.2 bt426.1) else (spec_l1Cur_disk.j1 k x5 x6 x1000 bt415.2.2.2.2.2.1 bt415.2.2.2.2.2.2 x412000))) else (spec_l1Cur_disk.l0 k x5 (wrap64 (x6 - 1)) x1000 bt415.2.2.2.2.2.1 bt415.2.2.2.2.2.2 x412000)))) else ((spec_l1Cur_pick.f x1000 x1001 x1002 (x412000.length : Int)).bind fun bt439 => ((spec_l1Cur_of.f x1000 bt439.2.1 bt439.2.2 (([(⟨#[]⟩ : ByteArray), (⟨#[]⟩ : ByteArray), (⟨#[116, 111, 114, 110]⟩ : ByteArray), (⟨#[0, 14, 0]⟩ : ByteArray)] : List ByteArray))).bind fun bt445 => ((spec_AppendTo.f k x412000 bt439.1 bt445.1).bind fun bt448 => (if bt448.2 = true then (spec_l1Cur_disk.j2 k x1000 bt445.2.1 bt445.2.2 bt448.1) else (spec_l1Cur_disk.j2 k x1000 bt445.2.1 bt445.2.2 x412000)))))
def spec_l1Cur_disk.j1 : Nat → Int → Int → List Int → Int → Int → List (S56) → Option ((List (S56)) × Int × Int)
 | 0, _, _, _, _, _, _ => none
 | k + 1, x5, x6, x1000, x1001, x1002, x412000 => (spec_SyncFile.f k x412000 0).bind fun bt431 => (if bt431.2 = true then ((spec_l1Cur_one.f x1000 x1001 x1002 3).bind fun bt436 => (if bt436.1 = true then (spec_l1Cur_disk.l0 k x5 (wrap64 (x6 - 1)) x1000 bt436.2.1 bt436.2.2 bt431.1) else (spec_l1Cur_disk.l0 k x5 (wrap64 (x6 - 1)) x1000 bt436.2.1 bt436.2.2 x412000))) else (spec_l1Cur_disk.l0 k x5 (wrap64 (x6 - 1)) x1000 x1001 x1002 x412000))
def spec_l1Cur_disk.j2 : Nat → List Int → Int → Int → List (S56) → Option ((List (S56)) × Int × Int)
 | 0, _, _, _, _ => none
 | k + 1, x1000, x1001, x1002, x412000 => (spec_l1Cur_one.f x1000 x1001 x1002 20).bind fun bt453 => (if bt453.1 = true then (if 0 < (x412000.length : Int) then ((spec_l1Cur_among.f x1000 bt453.2.1 bt453.2.2 (([(-1), 0, (((rd_T56 x412000 0).f0).size : Int), wrap64 ((((rd_T56 x412000 0).f0).size : Int) + 1)] : List Int))).bind fun bt461 => (some ((x412000.set (0 : Int).toNat (⟨(rd_T56 x412000 0).f0, bt461.1⟩ : S56)), bt461.2.1, bt461.2.2))) else (none)) else (some (x412000, bt453.2.1, bt453.2.2)))
end
def spec_l1Cur_disk.f (k : Nat) (s0_0 : List Int) (s0_1 : Int) (s0_2 : Int) : Option ((List (S56)) × Int × Int) := (spec_l1Cur_pick.f s0_0 s0_1 s0_2 3).bind fun bt404 => ((spec_NewDisk.f (wrap64 (1 + bt404.1))).bind fun bt407 => ((spec_l1Cur_pick.f s0_0 bt404.2.1 bt404.2.2 8).bind fun bt412 => (spec_l1Cur_disk.l0 k 0 bt412.1 s0_0 bt412.2.1 bt412.2.2 bt407.1)))
theorem spec_l1Cur_disk.mono_l : ∀ k, (∀ y0 y1 y2 y3 y4 y5, LeO (spec_l1Cur_disk.l0 k y0 y1 y2 y3 y4 y5) (spec_l1Cur_disk.l0 (k + 1) y0 y1 y2 y3 y4 y5)) ∧ (∀ y0 y1 y2 y3 y4 y5, LeO (spec_l1Cur_disk.j1 k y0 y1 y2 y3 y4 y5) (spec_l1Cur_disk.j1 (k + 1) y0 y1 y2 y3 y4 y5)) ∧ (∀ y0 y1 y2 y3, LeO (spec_l1Cur_disk.j2 k y0 y1 y2 y3) (spec_l1Cur_disk.j2 (k + 1) y0 y1 y2 y3))
 | 0 => ⟨fun _ _ _ _ _ _ r h => by simp [spec_l1Cur_disk.l0] at h, fun _ _ _ _ _ _ r h => by simp [spec_l1Cur_disk.j1] at h, fun _ _ _ _ r h => by simp [spec_l1Cur_disk.j2] at h⟩
 | k + 1 => by
  obtain ⟨ih0, ih1, ih2⟩ := spec_l1Cur_disk.mono_l k
  refine ⟨?_, ?_, ?_⟩
  all_goals intros; first | unfold spec_l1Cur_disk.l0 | unfold spec_l1Cur_disk.j1 | unfold spec_l1Cur_disk.j2
  all_goals repeat' first | (with_reducible first | apply ih0 | apply ih1 | apply ih2 | apply spec_AppendTo.mono | apply spec_GoodBatch.mono | apply spec_SyncFile.mono | apply spec_WriteBatch.mono | apply spec_l1Cur_batch.mono | exact LeO.refl _ | exact LeO.none _ | refine LeO.ite ?_ ?_ | refine LeO.bind ?_ (fun _ => ?_))
theorem spec_l1Cur_disk.mono : ∀ a0 a1 a2 k, LeO (spec_l1Cur_disk.f k a0 a1 a2) (spec_l1Cur_disk.f (k + 1) a0 a1 a2) := by
 intro a0 a1 a2 k
 obtain ⟨ih0, ih1, ih2⟩ := spec_l1Cur_disk.mono_l k
 unfold spec_l1Cur_disk.f
 repeat' first
   | (with_reducible first | apply ih0 | apply ih1 | apply ih2 | apply spec_AppendTo.mono | apply spec_GoodBatch.mono | apply spec_SyncFile.mono | apply spec_WriteBatch.mono | apply spec_l1Cur_batch.mono | exact LeO.refl _ | exact LeO.none _ | refine LeO.ite ?_ ?_ | refine LeO.bind ?_ (fun _ => ?_))
def spec_l1Cur_disk.T17 : Bool × List (List Nat × List Nat) := (true, [([], []), ([], []), ([], []), ([2], [2]), ([3], [3]), ([1, 4], [1, 4]), ([], []), ([], []), ([6, 7, 5], [6, 7]), ([0, 5, 8, 8], [0, 5, 8]), ([9], [9]), ([10], [10]), ([10], [10]), ([], []), ([13, 11, 9, 0, 1, 2, 3, 4, 5, 6, 7, 8, 9, 10, 11, 13], [11, 13]), ([12, 14, 0, 1, 2, 3, 4, 5, 6, 7, 8, 9, 10, 11, 12, 13, 14], [12])])
def spec_l1Cur_disk.B17 : List Nat := [0, 0, 0, 4, 12, 30, 0, 0, 254, 511, 1023, 2047, 2047, 0, 12287, 32767]
theorem spec_l1Cur_disk.tab17 : rtab .any (opsOf Try.f70 17) = spec_l1Cur_disk.T17 := by kernel_rfl
theorem spec_l1Cur_disk.bits17 : waitsOk spec_l1Cur_disk.T17.2 spec_l1Cur_disk.B17 = true := by kernel_rfl
def spec_l1Cur_disk.T21 : Bool × List (List Nat × List Nat) := (true, [([], []), ([0], [0]), ([], []), ([], []), ([3], [3]), ([4], [4]), ([5], [5]), ([6], [6]), ([7], [7]), ([], []), ([9], [9]), ([10], [10]), ([11], [11]), ([12], [12]), ([13], [13]), ([14], [14]), ([8, 15], [8, 15]), ([2, 16], [2, 16]), ([1, 0, 1, 2, 3, 4, 5, 6, 7, 8, 9, 10, 11, 12, 13, 14, 15, 16, 17], [1]), ([18, 0, 1, 2, 3, 4, 5, 6, 7, 8, 9, 10, 11, 12, 13, 14, 15, 16, 17], [18]), ([19, 17, 17, 0, 1, 2, 3, 4, 5, 6, 7, 8, 9, 10, 11, 12, 13, 14, 15, 16, 17], [17, 19])])
def spec_l1Cur_disk.B21 : List Nat := [0, 1, 0, 0, 8, 24, 56, 120, 248, 0, 512, 1536, 3584, 7680, 15872, 32256, 65528, 131068, 262143, 524287, 1048575]
theorem spec_l1Cur_disk.tab21 : rtab .any (opsOf Try.f70 21) = spec_l1Cur_disk.T21 := by kernel_rfl
theorem spec_l1Cur_disk.bits21 : waitsOk spec_l1Cur_disk.T21.2 spec_l1Cur_disk.B21 = true := by kernel_rfl
set_option maxHeartbeats 80000000 in
set_option maxRecDepth 100000 in
theorem spec_l1Cur_disk.calls (k : Nat) (g : Nat) (s0_0 : List Int) (s0_1 : Int) (s0_2 : Int) (r1 : List (S56)) (r2 : Int) (r3 : Int) (w0 w : World) (hI : IsS92 w0 w g s0_0 s0_1 s0_2) (hB : Below w0.heap.size w0 w) (h : spec_l1Cur_disk.f k s0_0 s0_1 s0_2 = some (r1, r2, r3)) :
  Calls Try.prog 70 #[.pointer (some ⟨g, 0, none⟩)] w fun e w' => ∃ v0_ : Value, e = .returned (.agg #[v0_]) ∧ Kd.R k56 56 w' w.heap.size (fun _ => True) v0_ r1 ∧ IsS92 w0 w' g s0_0 r2 r3 ∧ Below w0.heap.size w0 w' ∧ KeepBut w w' g none := by
 have hu31 := Try.underlying31
 have hu44 := Try.underlying44
 have HI0 := Aside0.mk hI
 have HK := Aside0.mk (KeepBut.refl w g none)
 have HL := Aside0.mk hB.size
 clear hI
 have HW0 := Aside0.mk hB.size
 have HB := Aside0.mk hB
 clear hB
 have H : ((spec_l1Cur_pick.f s0_0 s0_1 s0_2 3).bind fun bt404 => ((spec_NewDisk.f (wrap64 (1 + bt404.1))).bind fun bt407 => ((spec_l1Cur_pick.f s0_0 bt404.2.1 bt404.2.2 8).bind fun bt412 => (spec_l1Cur_disk.l0 k 0 bt412.1 s0_0 bt412.2.1 bt412.2.2 bt407.1)))) = some (r1, r2, r3) := h
 clear h
 replace H := bnd_ H
 obtain ⟨⟨t404, t405, t406⟩, A2, H⟩ := H
 replace H := red_ H
 replace H := bnd_ H
 obtain ⟨⟨t407, t410⟩, A3, H⟩ := H
 replace H := red_ H
 replace H := bnd_ H
 obtain ⟨⟨t412, t413, t414⟩, A4, H⟩ := H
 replace H := red_ H
 have H' := Aside0.mk H
 clear H
 go_enter Try.func70, Try.ntmps70
 go_wp2_with (first | ((with_reducible refine gate_dst (N := 2) rfl ?_); refine bq_ (N := 2) #[.slice none 0 0] 31 ?_; intro gb403 hg w5 BK403 hb; replace HB := Aside0.mk (below_step (hs_ (IsS92.ge HI0.out)) hb); have GW403 := Aside0.mk ((by rw [hg]; exact (keep_size (w := w) (g := g) (row := none) (kp0_)) : w.heap.size ≤ gb403)); have GE403 := Aside0.mk ((Nat.le_trans HW0.out (by rw [hg]; exact (keep_size (w := w) (g := g) (row := none) (kp0_)) : w.heap.size ≤ gb403) : w0.heap.size ≤ gb403)); replace HK := Aside0.mk (KeepBut.trans (kp0_) (KeepBut.of_below hb g none) (.inl rfl)); have NB0_403 := Aside0.mk ((by rw [hg]; exact Nat.ne_of_lt (IsS92.lt (show IsS92 w0 _ g s0_0 s0_1 s0_2 from iS92_0_)) : g ≠ gb403)); have NB403_0 := Aside0.mk ((by rw [hg]; exact Nat.ne_of_gt (IsS92.lt (show IsS92 w0 _ g s0_0 s0_1 s0_2 from iS92_0_)) : gb403 ≠ g)); replace HI0 := Aside0.mk (IsS92.below (iS92_0_) hb); clear hb hg) | ((with_reducible refine gate_callee (f := 74) rfl ?_); refine gl_ 16 Try.func74 #[.pointer (some ⟨g, 0, none⟩), .int .i64 3] rfl ma_ ?_; (with_reducible refine (spec_l1Cur_pick.calls g s0_0 s0_1 s0_2 3 t404 t405 t406 w0 _ ?side1 ?side2 A2.out).mono ?_); (case side1 => exact iS92_1_ NB0_403.out); (case side2 => exact hs2_ (IsS92.ge HI0.out) GE403.out); rintro e w6 ⟨rfl, hi, hb, hk⟩; refine ⟨_, rfl, ?_⟩; replace BK403 := Aside0.mk (KeepBut.blk hk (g' := gb403) (o := .cells #[.slice none 0 0] 31 (0, 0)) (kb_ BK403.out) NB403_0.out (by simp)); replace HK := Aside0.mk (KeepBut.trans (kp1_ GW403.out) hk (.inl rfl)); replace HB := Aside0.mk (hb); replace HI0 := Aside0.mk (hi); (try clear hb); (try clear hb2); (try clear hk); (try clear hi)) | ((with_reducible refine gate_callee (f := 40) rfl ?_); refine gl_ 18 Try.func40 #[.int .i64 (wrap64 (1 + t404))] rfl ma_ ?_; (with_reducible refine (spec_NewDisk.calls (wrap64 (1 + t404)) t407 t410 _ A3.out).mono ?_); rintro e w7 ⟨v408, rfl, ho0, hb⟩; refine ⟨_, rfl, ?_⟩; have HO409 := Aside0.mk (Kd.R_lower ho0 (keep_size (w := w) (g := g) (row := none) (kp1_ GW403.out))); replace BK403 := bK_ BK403 hb; replace HK := Aside0.mk (KeepBut.trans (kp1_ GW403.out) (KeepBut.of_below hb g none) (.inl rfl)); replace HB := Aside0.mk (below_step (hs2_ (IsS92.ge HI0.out) GE403.out) hb); replace HI0 := Aside0.mk (IsS92.below (iS92_1_ NB0_403.out) hb); (try clear hb); (try clear hb2); (try clear hk); (try clear hi); (try clear ho0)) | ((with_reducible refine gate_dst (N := 3) rfl ?_); refine bq_ (N := 3) #[.slice none 0 0] 31 ?_; intro gb411 hg w8 BK411 hb; replace HO409 := rB_ HO409 hb; replace HB := Aside0.mk (below_step (hs2_ (IsS92.ge HI0.out) GE403.out) hb); have GW411 := Aside0.mk ((by rw [hg]; exact (keep_size (w := w) (g := g) (row := none) (kp1_ GW403.out)) : w.heap.size ≤ gb411)); have GE411 := Aside0.mk ((Nat.le_trans HW0.out (by rw [hg]; exact (keep_size (w := w) (g := g) (row := none) (kp1_ GW403.out)) : w.heap.size ≤ gb411) : w0.heap.size ≤ gb411)); replace HK := Aside0.mk (KeepBut.trans (kp1_ GW403.out) (KeepBut.of_below hb g none) (.inl rfl)); have NB403_411 := nl_ BK403 hg; have NB411_403 := ng_ BK403 hg; replace BK403 := bK_ BK403 hb; have NB0_411 := Aside0.mk ((by rw [hg]; exact Nat.ne_of_lt (IsS92.lt (show IsS92 w0 _ g s0_0 t405 t406 from iS92_1_ NB0_403.out)) : g ≠ gb411)); have NB411_0 := Aside0.mk ((by rw [hg]; exact Nat.ne_of_gt (IsS92.lt (show IsS92 w0 _ g s0_0 t405 t406 from iS92_1_ NB0_403.out)) : gb411 ≠ g)); replace HI0 := Aside0.mk (IsS92.below (iS92_1_ NB0_403.out) hb); clear hb hg; obtain ⟨Ao9, co9, eo9⟩ := Kd.R_slice HO409.out; subst eo9; have hnb10 := NB411_403.out; have hnc10 := NB403_411.out; have hnb11 := NB411_0.out; have hnc11 := NB0_411.out; obtain ⟨hcz12_0, hfz12_0⟩ := cf1_ BK411.out) | ((with_reducible refine gate_callee (f := 74) rfl ?_); refine gl_ 22 Try.func74 #[.pointer (some ⟨g, 0, none⟩), .int .i64 8] rfl ma_ ?_; (with_reducible refine (spec_l1Cur_pick.calls g s0_0 t405 t406 8 t412 t413 t414 w0 _ ?side1 ?side2 A4.out).mono ?_); (case side1 => exact iS92_2_ NB0_403.out NB0_411.out); (case side2 => exact hs3_ (IsS92.ge HI0.out) GE403.out GE411.out); rintro e w13 ⟨rfl, hi, hb, hk⟩; refine ⟨_, rfl, ?_⟩; replace BK403 := Aside0.mk (KeepBut.blk hk (g' := gb403) (o := .cells #[.slice none 0 0] 31 (0, 0)) (uf_ BK403 NB403_411.out) NB403_0.out (by simp)); replace HO409 := Aside0.mk (Kd.R_mono (Kd.R_keep (IsS92.apart (show IsS92 w0 _ g s0_0 t405 t406 from iS92_2_ NB0_403.out NB0_411.out) (rF_ (Kd.R_mono (Kd.R_far (p := ⟨gb411, 0, none⟩) (Kd.R_types HO409.out BK411.out (by decide)) (fun _ hk => hk.2) (.slice Ao9 t407.length co9)) (fun _ h_ => h_.1))) (by decide)) hk (fun _ h => h.2)) (fun _ h => h.1)); replace BK411 := Aside0.mk (KeepBut.blk hk (g' := gb411) (o := .cells #[.slice Ao9 t407.length co9] 31 (0, 0)) (up_ BK411) NB411_0.out (by simp)); replace HK := Aside0.mk (KeepBut.trans (kp2_ GW403.out GW411.out) hk (.inl rfl)); replace HB := Aside0.mk (hb); replace HI0 := Aside0.mk (hi); (try clear hb); (try clear hb2); (try clear hk); (try clear hi)))
 go_loopg [5, 6] k (fun kq v5 v6 w' => ∃ (x5_1 : Int) (x6_1 : Int) (x1001_1 : Int) (x1002_1 : Int) (x412000_1 : List (S56)) (u412000 : Value), v5 = .int .i64 x5_1 ∧ v6 = .int .i64 x6_1 ∧ Aside0 (spec_l1Cur_disk.l0 kq x5_1 x6_1 s0_0 x1001_1 x1002_1 x412000_1 = some (r1, r2, r3)) ∧ Aside0 (kq ≤ k) ∧ Aside0 (Kd.R k56 56 w' w.heap.size (fun _ => True) u412000 x412000_1) ∧ Aside0 (w'.heap[gb403]? = some (.cells #[(.slice none 0 0)] 31 (0, 0))) ∧ Aside0 (w'.heap[gb411]? = some (.cells #[u412000] 31 (0, 0))) ∧ Aside0 (IsS92 w0 w' g s0_0 x1001_1 x1002_1) ∧ Aside0 (KeepBut w w' g none) ∧ Aside0 (Below w0.heap.size w0 w'))
 case atStart => exact ⟨(0), (t412), (t413), (t414), (t407), (.slice Ao9 t407.length co9), sr_, sr_, H', ⟨Nat.le_refl _⟩, ⟨kr_ HO409.out⟩, ⟨kb_ BK403.out⟩, ⟨kb_ BK411.out⟩, ⟨iS92_2_ NB0_403.out NB0_411.out⟩, ⟨kp2_ GW403.out GW411.out⟩, ⟨hs3_ (IsS92.ge HI0.out) GE403.out GE411.out⟩⟩
 case round =>
  clear H'
  try clear hcz12_0
  try clear hfz12_0
  obtain ⟨x5_1, x6_1, x1001_1, x1002_1, x412000_1, u412000, rfl, rfl, HA, HK1, HO_412000, BK403, BK411, HI0, HK, HB⟩ := hrel
  cases gk with
  | zero => exact absurd HA.out (by simp [spec_l1Cur_disk.l0])
  | succ k1 =>
   have H := HA.out
   clear HA
   simp only [spec_l1Cur_disk.l0] at H
   replace H := ite_ H
   obtain ⟨c14, H⟩ | ⟨c14, H⟩ := H
   ·have c14b0 := dgt_ c14
    clear c14
    replace H := bnd_ H
    obtain ⟨⟨t415, t416, t417, t418, t419, t422, t423⟩, A15, H⟩ := H
    replace H := red_ H
    replace H := bnd_ H
    obtain ⟨t425, A16, H⟩ := H
    replace H := ifb_ H
    obtain ⟨rfl, H⟩ | ⟨rfl, H⟩ := H
    rotate_left
    ·have H' := Aside0.mk H
     clear H
     go_wp2_with (first | ((with_reducible refine gate_callee (f := 71) rfl ?_); refine gl_ 28 Try.func71 #[.pointer (some ⟨g, 0, none⟩)] rfl ma_ ?_; (with_reducible refine (spec_l1Cur_batch.calls k1 g s0_0 x1001_1 x1002_1 t415 t416 t417 t418 t419 t422 t423 w0 _ ?side1 ?side2 A15.out).mono ?_); (case side1 => exact iS92_2_ NB0_403.out NB0_411.out); (case side2 => exact hs3_ (IsS92.ge HI0.out) GE403.out GE411.out); rintro e w107 ⟨v420, rfl, ho0, hi, hb, hk⟩; refine ⟨_, rfl, ?_⟩; replace HO_412000 := Aside0.mk (Kd.R_mono (Kd.R_keep (IsS92.apart (show IsS92 w0 _ g s0_0 x1001_1 x1002_1 from iS92_2_ NB0_403.out NB0_411.out) (kr_ HO_412000.out) (by decide)) hk (fun _ h => h.2)) (fun _ h => h.1)); replace BK403 := Aside0.mk (KeepBut.blk hk (g' := gb403) (o := .cells #[.slice none 0 0] 31 (0, 0)) (kb_ BK403.out) NB403_0.out (by simp)); replace BK411 := Aside0.mk (KeepBut.blk hk (g' := gb411) (o := .cells #[u412000] 31 (0, 0)) (kb_ BK411.out) NB411_0.out (by simp)); have HO421 := Aside0.mk (Kd.R_lower ho0 (keep_size (w := w) (g := g) (row := none) (kp2_ GW403.out GW411.out))); replace HK := Aside0.mk (KeepBut.trans (kp2_ GW403.out GW411.out) hk (.inl rfl)); replace HB := Aside0.mk (hb); replace HI0 := Aside0.mk (hi); (try clear hb); (try clear hb2); (try clear hk); (try clear hi); (try clear ho0)) | ((with_reducible refine gate_dst (N := 7) rfl ?_); refine bq_ (N := 7) #[.int .i64 0, .int .i64 0, .int .i64 0, .int .i64 0, .slice none 0 0] 44 ?_; intro gb424 hg w108 BK424 hb; replace HO_412000 := rB_ HO_412000 hb; replace HO421 := rB_ HO421 hb; replace HB := Aside0.mk (below_step (hs3_ (IsS92.ge HI0.out) GE403.out GE411.out) hb); have GW424 := Aside0.mk ((by rw [hg]; exact (keep_size (w := w) (g := g) (row := none) (kp2_ GW403.out GW411.out)) : w.heap.size ≤ gb424)); have GE424 := Aside0.mk ((Nat.le_trans HW0.out (by rw [hg]; exact (keep_size (w := w) (g := g) (row := none) (kp2_ GW403.out GW411.out)) : w.heap.size ≤ gb424) : w0.heap.size ≤ gb424)); replace HK := Aside0.mk (KeepBut.trans (kp2_ GW403.out GW411.out) (KeepBut.of_below hb g none) (.inl rfl)); have NB403_424 := nl_ BK403 hg; have NB424_403 := ng_ BK403 hg; replace BK403 := bK_ BK403 hb; have NB411_424 := nl_ BK411 hg; have NB424_411 := ng_ BK411 hg; replace BK411 := bK_ BK411 hb; have NB0_424 := Aside0.mk ((by rw [hg]; exact Nat.ne_of_lt (IsS92.lt (show IsS92 w0 _ g s0_0 t422 t423 from iS92_2_ NB0_403.out NB0_411.out)) : g ≠ gb424)); have NB424_0 := Aside0.mk ((by rw [hg]; exact Nat.ne_of_gt (IsS92.lt (show IsS92 w0 _ g s0_0 t422 t423 from iS92_2_ NB0_403.out NB0_411.out)) : gb424 ≠ g)); replace HI0 := Aside0.mk (IsS92.below (iS92_2_ NB0_403.out NB0_411.out) hb); clear hb hg; have hnb109 := NB424_403.out; have hnc109 := NB403_424.out; have hnb110 := NB424_411.out; have hnc110 := NB411_424.out; have hnb111 := NB424_0.out; have hnc111 := NB0_424.out; obtain ⟨hcz112_0, hcz112_1, hcz112_2, hcz112_3, hcz112_4, hfz112_0, hfz112_1, hfz112_2, hfz112_3, hfz112_4⟩ := cf5_ BK424.out; obtain ⟨Ao113, co113, eo113⟩ := Kd.R_slice HO421.out; subst eo113) | ((with_reducible refine gate_callee (f := 59) rfl ?_); refine gl_ 30 Try.func59 #[.agg #[.int .i64 t415, .int .i64 t416, .int .i64 t417, .int .i64 t418, .slice Ao113 t419.length co113]] rfl ma_ ?_; (with_reducible refine (spec_GoodBatch.calls k1 t415 t416 t417 t418 _ _ t419 false _ ?side1 ?side2 A16.out).mono ?_); (case side1 => refine (Kd.R_reads' (e := 9) (base := w.heap.size) (ok := fun k_ => True) (n := t419.length) (c := co113) ?_).2.2; exact ((Kd.R_mono (rF_ (Kd.R_types HO421.out BK424.out (by decide))) (fun _ h_ => h_.1)))); (case side2 => exact (Kd.R_reads' HO421.out).2.1); rintro e w114 ⟨rfl, hb⟩; refine ⟨_, rfl, ?_⟩; replace HO_412000 := Aside0.mk (Kd.R_below ((Kd.R_mono (rF_ (Kd.R_types HO_412000.out BK424.out (by decide))) (fun _ h_ => h_.1))) hb); replace HO421 := Aside0.mk (Kd.R_below ((Kd.R_mono (rF_ (Kd.R_types HO421.out BK424.out (by decide))) (fun _ h_ => h_.1))) hb); replace BK403 := Aside0.mk (blk_below (g := gb403) (o := .cells #[.slice none 0 0] 31 (0, 0)) (uf_ BK403 NB403_424.out) hb); replace BK411 := Aside0.mk (blk_below (g := gb411) (o := .cells #[u412000] 31 (0, 0)) (uf_ BK411 NB411_424.out) hb); replace BK424 := Aside0.mk (blk_below (g := gb424) (o := .cells #[.int .i64 t415, .int .i64 t416, .int .i64 t417, .int .i64 t418, .slice Ao113 t419.length co113] 44 (0, 0)) (up_ BK424) hb); replace HK := Aside0.mk (KeepBut.trans (kp3_ GW403.out GW411.out GW424.out) (KeepBut.of_below hb g none) (.inl rfl)); replace HB := Aside0.mk (below_step (hs4_ (IsS92.ge HI0.out) GE403.out GE411.out GE424.out) hb); replace HI0 := Aside0.mk (IsS92.below (show IsS92 w0 (((((w108.setCell ⟨gb424, 0, none⟩ (.int .i64 t415)).setCell ⟨gb424, 1, none⟩ (.int .i64 t416)).setCell ⟨gb424, 2, none⟩ (.int .i64 t417)).setCell ⟨gb424, 3, none⟩ (.int .i64 t418)).setCell ⟨gb424, 4, none⟩ (.slice Ao113 t419.length co113)) g s0_0 t422 t423 from iS92_3_ NB0_403.out NB0_411.out NB0_424.out) hb); (try clear hb); (try clear hb2); (try clear hk); (try clear hi)))
     go_roundg k1
     case measure => have := HK1.out; omega
     case rel => exact ⟨(x5_1), (wrap64 (x6_1 - 1)), (t422), (t423), (x412000_1), (u412000), sr_, sr_, H', ⟨by have := HK1.out; omega⟩, ⟨kr_ HO_412000.out⟩, ⟨kb_ BK403.out⟩, ⟨kb_ BK411.out⟩, ⟨iS92_3_ NB0_403.out NB0_411.out NB0_424.out⟩, ⟨kp3_ GW403.out GW411.out GW424.out⟩, ⟨hs4_ (IsS92.ge HI0.out) GE403.out GE411.out GE424.out⟩⟩
    replace H := bnd_ H
    obtain ⟨⟨t426, t429⟩, A18, H⟩ := H
    replace H := red_ H
    have HC19 := Aside0.mk H
    clear H
    go_upto_if 41 with (first | ((with_reducible refine gate_callee (f := 71) rfl ?_); refine gl_ 28 Try.func71 #[.pointer (some ⟨g, 0, none⟩)] rfl ma_ ?_; (with_reducible refine (spec_l1Cur_batch.calls k1 g s0_0 x1001_1 x1002_1 t415 t416 t417 t418 t419 t422 t423 w0 _ ?side1 ?side2 A15.out).mono ?_); (case side1 => exact iS92_2_ NB0_403.out NB0_411.out); (case side2 => exact hs3_ (IsS92.ge HI0.out) GE403.out GE411.out); rintro e w20 ⟨v420, rfl, ho0, hi, hb, hk⟩; refine ⟨_, rfl, ?_⟩; replace HO_412000 := Aside0.mk (Kd.R_mono (Kd.R_keep (IsS92.apart (show IsS92 w0 _ g s0_0 x1001_1 x1002_1 from iS92_2_ NB0_403.out NB0_411.out) (kr_ HO_412000.out) (by decide)) hk (fun _ h => h.2)) (fun _ h => h.1)); replace BK403 := Aside0.mk (KeepBut.blk hk (g' := gb403) (o := .cells #[.slice none 0 0] 31 (0, 0)) (kb_ BK403.out) NB403_0.out (by simp)); replace BK411 := Aside0.mk (KeepBut.blk hk (g' := gb411) (o := .cells #[u412000] 31 (0, 0)) (kb_ BK411.out) NB411_0.out (by simp)); have HO421 := Aside0.mk (Kd.R_lower ho0 (keep_size (w := w) (g := g) (row := none) (kp2_ GW403.out GW411.out))); replace HK := Aside0.mk (KeepBut.trans (kp2_ GW403.out GW411.out) hk (.inl rfl)); replace HB := Aside0.mk (hb); replace HI0 := Aside0.mk (hi); (try clear hb); (try clear hb2); (try clear hk); (try clear hi); (try clear ho0)) | ((with_reducible refine gate_dst (N := 7) rfl ?_); refine bq_ (N := 7) #[.int .i64 0, .int .i64 0, .int .i64 0, .int .i64 0, .slice none 0 0] 44 ?_; intro gb424 hg w21 BK424 hb; replace HO_412000 := rB_ HO_412000 hb; replace HO421 := rB_ HO421 hb; replace HB := Aside0.mk (below_step (hs3_ (IsS92.ge HI0.out) GE403.out GE411.out) hb); have GW424 := Aside0.mk ((by rw [hg]; exact (keep_size (w := w) (g := g) (row := none) (kp2_ GW403.out GW411.out)) : w.heap.size ≤ gb424)); have GE424 := Aside0.mk ((Nat.le_trans HW0.out (by rw [hg]; exact (keep_size (w := w) (g := g) (row := none) (kp2_ GW403.out GW411.out)) : w.heap.size ≤ gb424) : w0.heap.size ≤ gb424)); replace HK := Aside0.mk (KeepBut.trans (kp2_ GW403.out GW411.out) (KeepBut.of_below hb g none) (.inl rfl)); have NB403_424 := nl_ BK403 hg; have NB424_403 := ng_ BK403 hg; replace BK403 := bK_ BK403 hb; have NB411_424 := nl_ BK411 hg; have NB424_411 := ng_ BK411 hg; replace BK411 := bK_ BK411 hb; have NB0_424 := Aside0.mk ((by rw [hg]; exact Nat.ne_of_lt (IsS92.lt (show IsS92 w0 _ g s0_0 t422 t423 from iS92_2_ NB0_403.out NB0_411.out)) : g ≠ gb424)); have NB424_0 := Aside0.mk ((by rw [hg]; exact Nat.ne_of_gt (IsS92.lt (show IsS92 w0 _ g s0_0 t422 t423 from iS92_2_ NB0_403.out NB0_411.out)) : gb424 ≠ g)); replace HI0 := Aside0.mk (IsS92.below (iS92_2_ NB0_403.out NB0_411.out) hb); clear hb hg; have hnb22 := NB424_403.out; have hnc22 := NB403_424.out; have hnb23 := NB424_411.out; have hnc23 := NB411_424.out; have hnb24 := NB424_0.out; have hnc24 := NB0_424.out; obtain ⟨hcz25_0, hcz25_1, hcz25_2, hcz25_3, hcz25_4, hfz25_0, hfz25_1, hfz25_2, hfz25_3, hfz25_4⟩ := cf5_ BK424.out; obtain ⟨Ao26, co26, eo26⟩ := Kd.R_slice HO421.out; subst eo26) | ((with_reducible refine gate_callee (f := 59) rfl ?_); refine gl_ 30 Try.func59 #[.agg #[.int .i64 t415, .int .i64 t416, .int .i64 t417, .int .i64 t418, .slice Ao26 t419.length co26]] rfl ma_ ?_; (with_reducible refine (spec_GoodBatch.calls k1 t415 t416 t417 t418 _ _ t419 true _ ?side1 ?side2 A16.out).mono ?_); (case side1 => refine (Kd.R_reads' (e := 9) (base := w.heap.size) (ok := fun k_ => True) (n := t419.length) (c := co26) ?_).2.2; exact ((Kd.R_mono (rF_ (Kd.R_types HO421.out BK424.out (by decide))) (fun _ h_ => h_.1)))); (case side2 => exact (Kd.R_reads' HO421.out).2.1); rintro e w27 ⟨rfl, hb⟩; refine ⟨_, rfl, ?_⟩; replace HO_412000 := Aside0.mk (Kd.R_below ((Kd.R_mono (rF_ (Kd.R_types HO_412000.out BK424.out (by decide))) (fun _ h_ => h_.1))) hb); replace HO421 := Aside0.mk (Kd.R_below ((Kd.R_mono (rF_ (Kd.R_types HO421.out BK424.out (by decide))) (fun _ h_ => h_.1))) hb); replace BK403 := Aside0.mk (blk_below (g := gb403) (o := .cells #[.slice none 0 0] 31 (0, 0)) (uf_ BK403 NB403_424.out) hb); replace BK411 := Aside0.mk (blk_below (g := gb411) (o := .cells #[u412000] 31 (0, 0)) (uf_ BK411 NB411_424.out) hb); replace BK424 := Aside0.mk (blk_below (g := gb424) (o := .cells #[.int .i64 t415, .int .i64 t416, .int .i64 t417, .int .i64 t418, .slice Ao26 t419.length co26] 44 (0, 0)) (up_ BK424) hb); replace HK := Aside0.mk (KeepBut.trans (kp3_ GW403.out GW411.out GW424.out) (KeepBut.of_below hb g none) (.inl rfl)); replace HB := Aside0.mk (below_step (hs4_ (IsS92.ge HI0.out) GE403.out GE411.out GE424.out) hb); replace HI0 := Aside0.mk (IsS92.below (show IsS92 w0 (((((w21.setCell ⟨gb424, 0, none⟩ (.int .i64 t415)).setCell ⟨gb424, 1, none⟩ (.int .i64 t416)).setCell ⟨gb424, 2, none⟩ (.int .i64 t417)).setCell ⟨gb424, 3, none⟩ (.int .i64 t418)).setCell ⟨gb424, 4, none⟩ (.slice Ao26 t419.length co26)) g s0_0 t422 t423 from iS92_3_ NB0_403.out NB0_411.out NB0_424.out) hb); (try clear hb); (try clear hb2); (try clear hk); (try clear hi); obtain ⟨hcz28_0, hcz28_1, hcz28_2, hcz28_3, hcz28_4, hfz28_0, hfz28_1, hfz28_2, hfz28_3, hfz28_4⟩ := cf5_ BK424.out; have hnb29 := NB411_403.out; have hnc29 := NB403_411.out; have hnb30 := NB411_0.out; have hnc30 := NB0_411.out; obtain ⟨hcz31_0, hfz31_0⟩ := cf1_ BK411.out; obtain ⟨Ao32, co32, eo32⟩ := Kd.R_slice HO_412000.out; subst eo32) | ((with_reducible refine gate_callee (f := 18) rfl ?_); refine gl_ 38 Try.func18 #[.agg #[.slice Ao32 x412000_1.length co32], .int .i64 0, .agg #[.int .i64 x5_1, .int .i64 1, .int .i64 t417, .int .i64 t418, .slice Ao26 t419.length co26]] rfl ma_ ?_; (with_reducible refine (spec_WriteBatch.calls k1 _ _ x412000_1 0 x5_1 1 t417 t418 _ _ t419 t426 t429 _ ?side1 ?side2 ?side3 ?side4 A18.out).mono ?_); (case side1 => refine (Kd.R_reads' (e := 56) (base := w.heap.size) (ok := fun k_ => True) (n := x412000_1.length) (c := co32) ?_).2.2; exact ((Kd.R_mono (rF_ (Kd.R_types HO_412000.out BK424.out (by decide))) (fun _ h_ => h_.1)))); (case side2 => exact (Kd.R_reads' HO_412000.out).2.1); (case side3 => refine (Kd.R_reads' (e := 9) (base := w.heap.size) (ok := fun k_ => True) (n := t419.length) (c := co26) ?_).2.2; exact ((Kd.R_mono (rF_ (Kd.R_types HO421.out BK424.out (by decide))) (fun _ h_ => h_.1)))); (case side4 => exact (Kd.R_reads' HO421.out).2.1); rintro e w33 ⟨v427, rfl, ho0, hb⟩; refine ⟨_, rfl, ?_⟩; replace HO421 := Aside0.mk (Kd.R_below ((Kd.R_mono (rF_ (Kd.R_types HO421.out BK424.out (by decide))) (fun _ h_ => h_.1))) hb); have HO428 := Aside0.mk (Kd.R_lower (Kd.R_new' ho0 (Kd.R_lt ((Kd.R_mono (rF_ (Kd.R_types HO_412000.out BK424.out (by decide))) (fun _ h_ => h_.1))))) (keep_size (w := w) (g := g) (row := none) (kp3_ GW403.out GW411.out GW424.out))); replace HO_412000 := Aside0.mk (Kd.R_elder' ((Kd.R_mono (rF_ (Kd.R_types HO_412000.out BK424.out (by decide))) (fun _ h_ => h_.1))) (Kd.R_base ho0) hb); replace BK403 := Aside0.mk (blk_below (g := gb403) (o := .cells #[.slice none 0 0] 31 (0, 0)) (uf_ BK403 NB403_424.out) hb); replace BK411 := Aside0.mk (blk_below (g := gb411) (o := .cells #[.slice Ao32 x412000_1.length co32] 31 (0, 0)) (uf_ BK411 NB411_424.out) hb); replace BK424 := Aside0.mk (blk_below (g := gb424) (o := .cells #[.int .i64 x5_1, .int .i64 1, .int .i64 t417, .int .i64 t418, .slice Ao26 t419.length co26] 44 (0, 0)) (up_ BK424) hb); replace HK := Aside0.mk (KeepBut.trans (kp3_ GW403.out GW411.out GW424.out) (KeepBut.of_below hb g none) (.inl rfl)); replace HB := Aside0.mk (below_step (hs4_ (IsS92.ge HI0.out) GE403.out GE411.out GE424.out) hb); replace HI0 := Aside0.mk (IsS92.below (show IsS92 w0 ((w27.setCell ⟨gb424, 0, none⟩ (.int .i64 x5_1)).setCell ⟨gb424, 1, none⟩ (.int .i64 1)) g s0_0 t422 t423 from iS92_3_ NB0_403.out NB0_411.out NB0_424.out) hb); (try clear hb); (try clear hb2); (try clear hk); (try clear hi); (try clear ho0)) | ((with_reducible refine gate_dst (N := 8) rfl ?_); refine bq_ (N := 8) #[.slice none 0 0] 31 ?_; intro gb430 hg w34 BK430 hb; replace HO_412000 := rB_ HO_412000 hb; replace HO421 := rB_ HO421 hb; replace HO428 := rB_ HO428 hb; replace HB := Aside0.mk (below_step (hs4_ (IsS92.ge HI0.out) GE403.out GE411.out GE424.out) hb); have GW430 := Aside0.mk ((by rw [hg]; exact (keep_size (w := w) (g := g) (row := none) (kp3_ GW403.out GW411.out GW424.out)) : w.heap.size ≤ gb430)); have GE430 := Aside0.mk ((Nat.le_trans HW0.out (by rw [hg]; exact (keep_size (w := w) (g := g) (row := none) (kp3_ GW403.out GW411.out GW424.out)) : w.heap.size ≤ gb430) : w0.heap.size ≤ gb430)); replace HK := Aside0.mk (KeepBut.trans (kp3_ GW403.out GW411.out GW424.out) (KeepBut.of_below hb g none) (.inl rfl)); have NB403_430 := nl_ BK403 hg; have NB430_403 := ng_ BK403 hg; replace BK403 := bK_ BK403 hb; have NB411_430 := nl_ BK411 hg; have NB430_411 := ng_ BK411 hg; replace BK411 := bK_ BK411 hb; have NB424_430 := nl_ BK424 hg; have NB430_424 := ng_ BK424 hg; replace BK424 := bK_ BK424 hb; have NB0_430 := Aside0.mk ((by rw [hg]; exact Nat.ne_of_lt (IsS92.lt (show IsS92 w0 _ g s0_0 t422 t423 from iS92_3_ NB0_403.out NB0_411.out NB0_424.out)) : g ≠ gb430)); have NB430_0 := Aside0.mk ((by rw [hg]; exact Nat.ne_of_gt (IsS92.lt (show IsS92 w0 _ g s0_0 t422 t423 from iS92_3_ NB0_403.out NB0_411.out NB0_424.out)) : gb430 ≠ g)); replace HI0 := Aside0.mk (IsS92.below (iS92_3_ NB0_403.out NB0_411.out NB0_424.out) hb); clear hb hg; obtain ⟨Ao35, co35, eo35⟩ := Kd.R_slice HO428.out; subst eo35; have hnb36 := NB430_403.out; have hnc36 := NB403_430.out; have hnb37 := NB430_411.out; have hnc37 := NB411_430.out; have hnb38 := NB430_424.out; have hnc38 := NB424_430.out; have hnb39 := NB430_0.out; have hnc39 := NB0_430.out; obtain ⟨hcz40_0, hfz40_0⟩ := cf1_ BK430.out))
    (try simp only [Act.put, List.setIfInBounds_toArray, List.set_cons_zero, List.set_cons_succ])
    go_cut [5] (fun v5 wc => ∃ (kq : Nat) (x5_18 : Int) (x412000_18 : List (S56)) (u412000 : Value), v5 = .int .i64 x5_18 ∧ Aside0 (spec_l1Cur_disk.j1 kq x5_18 x6_1 s0_0 t422 t423 x412000_18 = some (r1, r2, r3)) ∧ Aside0 (kq ≤ k1) ∧ Aside0 (Kd.R k56 56 wc w.heap.size (fun _ => True) u412000 x412000_18) ∧ Aside0 (Kd.R Kd.string 9 wc w.heap.size (fun _ => True) (.slice Ao26 t419.length co26) t419) ∧ Aside0 (wc.heap[gb403]? = some (.cells #[(.slice none 0 0)] 31 (0, 0))) ∧ Aside0 (wc.heap[gb411]? = some (.cells #[u412000] 31 (0, 0))) ∧ Aside0 (wc.heap[gb424]? = some (.cells #[.int .i64 x5_1, .int .i64 1, .int .i64 t417, .int .i64 t418, (.slice Ao26 t419.length co26)] 44 (0, 0))) ∧ Aside0 (wc.heap[gb430]? = some (.cells #[(.slice Ao35 t426.length co35)] 31 (0, 0))) ∧ Aside0 (IsS92 w0 wc g s0_0 t422 t423) ∧ Aside0 (KeepBut w wc g none) ∧ Aside0 (Below w0.heap.size w0 wc))
    case first =>
     have H := HC19.out
     clear HC19
     replace H := ifb_ H
     obtain ⟨rfl, H⟩ | ⟨rfl, H⟩ := H
     rotate_left
     ·have H' := Aside0.mk H
      clear H
      go_wp2
      go_meet
      case rel => exact ⟨_, (x5_1), (x412000_1), (.slice Ao32 x412000_1.length co32), sr_, H', ⟨by have := HK1.out; first | omega | exact Nat.le_refl _⟩, ⟨rF_ (Kd.R_mono (Kd.R_far (p := ⟨gb430, 0, none⟩) (Kd.R_types HO_412000.out BK430.out (by decide)) (fun _ hk => hk.2) (.slice Ao35 t426.length co35)) (fun _ _ => trivial))⟩, ⟨rF_ (Kd.R_mono (Kd.R_far (p := ⟨gb430, 0, none⟩) (Kd.R_types HO421.out BK430.out (by decide)) (fun _ hk => hk.2) (.slice Ao35 t426.length co35)) (fun _ hk => trivial))⟩, ⟨uf_ BK403 NB403_430.out⟩, ⟨uf_ BK411 NB411_430.out⟩, ⟨uf_ BK424 NB424_430.out⟩, ⟨up_ BK430⟩, ⟨iS92_4_ NB0_403.out NB0_411.out NB0_424.out NB0_430.out⟩, ⟨kp4_ GW403.out GW411.out GW424.out GW430.out⟩, ⟨hs5_ (IsS92.ge HI0.out) GE403.out GE411.out GE424.out GE430.out⟩⟩
     have H' := Aside0.mk H
     clear H
     have hnb42 := NB430_403.out
     have hnc42 := NB403_430.out
     have hnb43 := NB430_411.out
     have hnc43 := NB411_430.out
     have hnb44 := NB430_424.out
     have hnc44 := NB424_430.out
     have hnb45 := NB430_0.out
     have hnc45 := NB0_430.out
     obtain ⟨hcz46_0, hfz46_0⟩ := cf1_ BK430.out
     have hnb47 := NB411_403.out
     have hnc47 := NB403_411.out
     have hnb48 := NB411_424.out
     have hnc48 := NB424_411.out
     have hnb49 := NB411_0.out
     have hnc49 := NB0_411.out
     obtain ⟨hcz50_0, hfz50_0⟩ := cf1_ BK411.out
     have hnb51 := NB424_403.out
     have hnc51 := NB403_424.out
     have hnb52 := NB424_0.out
     have hnc52 := NB0_424.out
     obtain ⟨hcz53_0, hcz53_1, hcz53_2, hcz53_3, hcz53_4, hfz53_0, hfz53_1, hfz53_2, hfz53_3, hfz53_4⟩ := cf5_ BK424.out
     go_wp2
     go_meet
     case rel => exact ⟨_, (wrap64 (x5_1 + (t419.length : Int))), (t426), (.slice Ao35 t426.length co35), sr_, H', ⟨by have := HK1.out; first | omega | exact Nat.le_refl _⟩, ⟨rF_ (Kd.R_mono (Kd.R_far (p := ⟨gb411, 0, none⟩) (Kd.R_far (p := ⟨gb430, 0, none⟩) (Kd.R_types (Kd.R_types HO428.out BK430.out (by decide)) BK411.out (by decide)) (fun _ hk => hk.1.2) (.slice Ao35 t426.length co35)) (fun _ hk => hk.2) (.slice Ao35 t426.length co35)) (fun _ _ => trivial))⟩, ⟨rF_ (Kd.R_mono (Kd.R_far (p := ⟨gb411, 0, none⟩) (Kd.R_far (p := ⟨gb430, 0, none⟩) (Kd.R_types (Kd.R_types HO421.out BK430.out (by decide)) BK411.out (by decide)) (fun _ hk => hk.1.2) (.slice Ao35 t426.length co35)) (fun _ hk => hk.2) (.slice Ao35 t426.length co35)) (fun _ hk => by first | trivial | exact hk.1.1 | exact hk.1.1.2))⟩, ⟨ug_ BK403 NB403_411.out NB403_430.out⟩, ⟨by (with_reducible repeat (first | refine blk_drewN ?_ _ | refine blk_drew ?_ | refine blk_alloc ?_ _)); refine blk_put (cs := #[.slice Ao32 x412000_1.length co32]) ?_ 0 _ rfl; (with_reducible repeat (first | refine blk_drewN ?_ _ | refine blk_drew ?_ | refine blk_alloc ?_ _)); refine blk_far ?_ NB411_430.out _; (with_reducible repeat (first | refine blk_drewN ?_ _ | refine blk_drew ?_ | refine blk_alloc ?_ _)); exact BK411.out⟩, ⟨ug_ BK424 NB424_411.out NB424_430.out⟩, ⟨by (with_reducible repeat (first | refine blk_drewN ?_ _ | refine blk_drew ?_ | refine blk_alloc ?_ _)); refine blk_far ?_ NB430_411.out _; (with_reducible repeat (first | refine blk_drewN ?_ _ | refine blk_drew ?_ | refine blk_alloc ?_ _)); refine blk_put (cs := #[.slice none 0 0]) ?_ 0 _ rfl; (with_reducible repeat (first | refine blk_drewN ?_ _ | refine blk_drew ?_ | refine blk_alloc ?_ _)); exact BK430.out⟩, ⟨iS92_4_ NB0_403.out NB0_411.out NB0_424.out NB0_430.out⟩, ⟨kp4_ GW403.out GW411.out GW424.out GW430.out⟩, ⟨hs5_ (IsS92.ge HI0.out) GE403.out GE411.out GE424.out GE430.out⟩⟩
    case rest =>
     clear HC19
     try clear c14
     try clear c14b0
     try clear hcz12_0
     try clear hcz25_0
     try clear hcz25_1
     try clear hcz25_2
     try clear hcz25_3
     try clear hcz25_4
     try clear hcz28_0
     try clear hcz28_1
     try clear hcz28_2
     try clear hcz28_3
     try clear hcz28_4
     try clear hcz31_0
     try clear hcz40_0
     try clear hfz12_0
     try clear hfz25_0
     try clear hfz25_1
     try clear hfz25_2
     try clear hfz25_3
     try clear hfz25_4
     try clear hfz28_0
     try clear hfz28_1
     try clear hfz28_2
     try clear hfz28_3
     try clear hfz28_4
     try clear hfz31_0
     try clear hfz40_0
     obtain ⟨kq, x5_18, x412000_18, u412000, rfl, HA, HJ18, HO_412000, HO_425004, BK403, BK411, BK424, BK430, HI0, HK, HB⟩ := hcut
     cases kq with
     | zero => exact absurd HA.out (by simp [spec_l1Cur_disk.j1])
     | succ kj18 =>
      have H := HA.out
      clear HA
      simp only [spec_l1Cur_disk.j1] at H
      replace H := bnd_ H
      obtain ⟨⟨t431, t434⟩, A54, H⟩ := H
      replace H := red_ H
      replace H := ifb_ H
      obtain ⟨rfl, H⟩ | ⟨rfl, H⟩ := H
      rotate_left
      ·have H' := Aside0.mk H
       clear H
       have hnb92 := NB411_403.out
       have hnc92 := NB403_411.out
       have hnb93 := NB411_424.out
       have hnc93 := NB424_411.out
       have hnb94 := NB411_430.out
       have hnc94 := NB430_411.out
       have hnb95 := NB411_0.out
       have hnc95 := NB0_411.out
       obtain ⟨hcz96_0, hfz96_0⟩ := cf1_ BK411.out
       obtain ⟨Ao97, co97, eo97⟩ := Kd.R_slice HO_412000.out
       subst eo97
       go_wp2_with (first | ((with_reducible refine gate_callee (f := 37) rfl ?_); refine gl_ 50 Try.func37 #[.agg #[.slice Ao97 x412000_18.length co97], .int .i64 0] rfl ma_ ?_; (with_reducible refine (spec_SyncFile.calls kj18 _ _ x412000_18 0 t431 false _ ?side1 ?side2 A54.out).mono ?_); (case side1 => exact cs_ ((Kd.R_reads' HO_412000.out).2.2)); (case side2 => exact (Kd.R_reads' HO_412000.out).2.1); rintro e w98 ⟨v432, rfl, ho0, hb⟩; refine ⟨_, rfl, ?_⟩; replace HO_425004 := rB_ HO_425004 hb; have HO433 := Aside0.mk (Kd.R_lower ((Kd.R_new' ho0 (Kd.R_lt (kr_ HO_412000.out)))) (keep_size (w := w) (g := g) (row := none) (kp4_ GW403.out GW411.out GW424.out GW430.out))); replace HO_412000 := Aside0.mk (Kd.R_elder' (kr_ HO_412000.out) (Kd.R_base ho0) hb); replace BK403 := bK_ BK403 hb; replace BK411 := bK_ BK411 hb; replace BK424 := bK_ BK424 hb; replace BK430 := bK_ BK430 hb; replace HK := Aside0.mk (KeepBut.trans (kp4_ GW403.out GW411.out GW424.out GW430.out) (KeepBut.of_below hb g none) (.inl rfl)); replace HB := Aside0.mk (below_step (hs5_ (IsS92.ge HI0.out) GE403.out GE411.out GE424.out GE430.out) hb); replace HI0 := Aside0.mk (IsS92.below (iS92_4_ NB0_403.out NB0_411.out NB0_424.out NB0_430.out) hb); (try clear hb); (try clear hb2); (try clear hk); (try clear hi); (try clear ho0)) | ((with_reducible refine gate_dst (N := 10) rfl ?_); refine bq_ (N := 10) #[.slice none 0 0] 31 ?_; intro gb435 hg w99 BK435 hb; replace HO_412000 := rB_ HO_412000 hb; replace HO_425004 := rB_ HO_425004 hb; replace HO433 := rB_ HO433 hb; replace HB := Aside0.mk (below_step (hs5_ (IsS92.ge HI0.out) GE403.out GE411.out GE424.out GE430.out) hb); have GW435 := Aside0.mk ((by rw [hg]; exact (keep_size (w := w) (g := g) (row := none) (kp4_ GW403.out GW411.out GW424.out GW430.out)) : w.heap.size ≤ gb435)); have GE435 := Aside0.mk ((Nat.le_trans HW0.out (by rw [hg]; exact (keep_size (w := w) (g := g) (row := none) (kp4_ GW403.out GW411.out GW424.out GW430.out)) : w.heap.size ≤ gb435) : w0.heap.size ≤ gb435)); replace HK := Aside0.mk (KeepBut.trans (kp4_ GW403.out GW411.out GW424.out GW430.out) (KeepBut.of_below hb g none) (.inl rfl)); have NB403_435 := nl_ BK403 hg; have NB435_403 := ng_ BK403 hg; replace BK403 := bK_ BK403 hb; have NB411_435 := nl_ BK411 hg; have NB435_411 := ng_ BK411 hg; replace BK411 := bK_ BK411 hb; have NB424_435 := nl_ BK424 hg; have NB435_424 := ng_ BK424 hg; replace BK424 := bK_ BK424 hb; have NB430_435 := nl_ BK430 hg; have NB435_430 := ng_ BK430 hg; replace BK430 := bK_ BK430 hb; have NB0_435 := Aside0.mk ((by rw [hg]; exact Nat.ne_of_lt (IsS92.lt (show IsS92 w0 _ g s0_0 t422 t423 from iS92_4_ NB0_403.out NB0_411.out NB0_424.out NB0_430.out)) : g ≠ gb435)); have NB435_0 := Aside0.mk ((by rw [hg]; exact Nat.ne_of_gt (IsS92.lt (show IsS92 w0 _ g s0_0 t422 t423 from iS92_4_ NB0_403.out NB0_411.out NB0_424.out NB0_430.out)) : gb435 ≠ g)); replace HI0 := Aside0.mk (IsS92.below (iS92_4_ NB0_403.out NB0_411.out NB0_424.out NB0_430.out) hb); clear hb hg; obtain ⟨Ao100, co100, eo100⟩ := Kd.R_slice HO433.out; subst eo100; have hnb101 := NB435_403.out; have hnc101 := NB403_435.out; have hnb102 := NB435_411.out; have hnc102 := NB411_435.out; have hnb103 := NB435_424.out; have hnc103 := NB424_435.out; have hnb104 := NB435_430.out; have hnc104 := NB430_435.out; have hnb105 := NB435_0.out; have hnc105 := NB0_435.out; obtain ⟨hcz106_0, hfz106_0⟩ := cf1_ BK435.out))
       go_roundg kj18
       case measure => have := HK1.out; have := HJ18.out; omega
       case rel => exact ⟨(x5_18), (wrap64 (x6_1 - 1)), (t422), (t423), (x412000_18), (.slice Ao97 x412000_18.length co97), sr_, sr_, H', ⟨by have := HK1.out; have := HJ18.out; omega⟩, ⟨rF_ (Kd.R_mono (Kd.R_far (p := ⟨gb435, 0, none⟩) (Kd.R_types HO_412000.out BK435.out (by decide)) (fun _ hk => hk.2) (.slice Ao100 t431.length co100)) (fun _ hk => trivial))⟩, ⟨uf_ BK403 NB403_435.out⟩, ⟨uf_ BK411 NB411_435.out⟩, ⟨iS92_5_ NB0_403.out NB0_411.out NB0_424.out NB0_430.out NB0_435.out⟩, ⟨kp5_ GW403.out GW411.out GW424.out GW430.out GW435.out⟩, ⟨hs6_ (IsS92.ge HI0.out) GE403.out GE411.out GE424.out GE430.out GE435.out⟩⟩
      replace H := bnd_ H
      obtain ⟨⟨t436, t437, t438⟩, A56, H⟩ := H
      replace H := red_ H
      replace H := ifb_ H
      obtain ⟨rfl, H⟩ | ⟨rfl, H⟩ := H
      rotate_left
      ·have H' := Aside0.mk H
       clear H
       have hnb76 := NB411_403.out
       have hnc76 := NB403_411.out
       have hnb77 := NB411_424.out
       have hnc77 := NB424_411.out
       have hnb78 := NB411_430.out
       have hnc78 := NB430_411.out
       have hnb79 := NB411_0.out
       have hnc79 := NB0_411.out
       obtain ⟨hcz80_0, hfz80_0⟩ := cf1_ BK411.out
       obtain ⟨Ao81, co81, eo81⟩ := Kd.R_slice HO_412000.out
       subst eo81
       go_wp2_with (first | ((with_reducible refine gate_callee (f := 37) rfl ?_); refine gl_ 50 Try.func37 #[.agg #[.slice Ao81 x412000_18.length co81], .int .i64 0] rfl ma_ ?_; (with_reducible refine (spec_SyncFile.calls kj18 _ _ x412000_18 0 t431 true _ ?side1 ?side2 A54.out).mono ?_); (case side1 => exact cs_ ((Kd.R_reads' HO_412000.out).2.2)); (case side2 => exact (Kd.R_reads' HO_412000.out).2.1); rintro e w82 ⟨v432, rfl, ho0, hb⟩; refine ⟨_, rfl, ?_⟩; replace HO_425004 := rB_ HO_425004 hb; have HO433 := Aside0.mk (Kd.R_lower ((Kd.R_new' ho0 (Kd.R_lt (kr_ HO_412000.out)))) (keep_size (w := w) (g := g) (row := none) (kp4_ GW403.out GW411.out GW424.out GW430.out))); replace HO_412000 := Aside0.mk (Kd.R_elder' (kr_ HO_412000.out) (Kd.R_base ho0) hb); replace BK403 := bK_ BK403 hb; replace BK411 := bK_ BK411 hb; replace BK424 := bK_ BK424 hb; replace BK430 := bK_ BK430 hb; replace HK := Aside0.mk (KeepBut.trans (kp4_ GW403.out GW411.out GW424.out GW430.out) (KeepBut.of_below hb g none) (.inl rfl)); replace HB := Aside0.mk (below_step (hs5_ (IsS92.ge HI0.out) GE403.out GE411.out GE424.out GE430.out) hb); replace HI0 := Aside0.mk (IsS92.below (iS92_4_ NB0_403.out NB0_411.out NB0_424.out NB0_430.out) hb); (try clear hb); (try clear hb2); (try clear hk); (try clear hi); (try clear ho0)) | ((with_reducible refine gate_dst (N := 10) rfl ?_); refine bq_ (N := 10) #[.slice none 0 0] 31 ?_; intro gb435 hg w83 BK435 hb; replace HO_412000 := rB_ HO_412000 hb; replace HO_425004 := rB_ HO_425004 hb; replace HO433 := rB_ HO433 hb; replace HB := Aside0.mk (below_step (hs5_ (IsS92.ge HI0.out) GE403.out GE411.out GE424.out GE430.out) hb); have GW435 := Aside0.mk ((by rw [hg]; exact (keep_size (w := w) (g := g) (row := none) (kp4_ GW403.out GW411.out GW424.out GW430.out)) : w.heap.size ≤ gb435)); have GE435 := Aside0.mk ((Nat.le_trans HW0.out (by rw [hg]; exact (keep_size (w := w) (g := g) (row := none) (kp4_ GW403.out GW411.out GW424.out GW430.out)) : w.heap.size ≤ gb435) : w0.heap.size ≤ gb435)); replace HK := Aside0.mk (KeepBut.trans (kp4_ GW403.out GW411.out GW424.out GW430.out) (KeepBut.of_below hb g none) (.inl rfl)); have NB403_435 := nl_ BK403 hg; have NB435_403 := ng_ BK403 hg; replace BK403 := bK_ BK403 hb; have NB411_435 := nl_ BK411 hg; have NB435_411 := ng_ BK411 hg; replace BK411 := bK_ BK411 hb; have NB424_435 := nl_ BK424 hg; have NB435_424 := ng_ BK424 hg; replace BK424 := bK_ BK424 hb; have NB430_435 := nl_ BK430 hg; have NB435_430 := ng_ BK430 hg; replace BK430 := bK_ BK430 hb; have NB0_435 := Aside0.mk ((by rw [hg]; exact Nat.ne_of_lt (IsS92.lt (show IsS92 w0 _ g s0_0 t422 t423 from iS92_4_ NB0_403.out NB0_411.out NB0_424.out NB0_430.out)) : g ≠ gb435)); have NB435_0 := Aside0.mk ((by rw [hg]; exact Nat.ne_of_gt (IsS92.lt (show IsS92 w0 _ g s0_0 t422 t423 from iS92_4_ NB0_403.out NB0_411.out NB0_424.out NB0_430.out)) : gb435 ≠ g)); replace HI0 := Aside0.mk (IsS92.below (iS92_4_ NB0_403.out NB0_411.out NB0_424.out NB0_430.out) hb); clear hb hg; obtain ⟨Ao84, co84, eo84⟩ := Kd.R_slice HO433.out; subst eo84; have hnb85 := NB435_403.out; have hnc85 := NB403_435.out; have hnb86 := NB435_411.out; have hnc86 := NB411_435.out; have hnb87 := NB435_424.out; have hnc87 := NB424_435.out; have hnb88 := NB435_430.out; have hnc88 := NB430_435.out; have hnb89 := NB435_0.out; have hnc89 := NB0_435.out; obtain ⟨hcz90_0, hfz90_0⟩ := cf1_ BK435.out) | (go_at_call 72; (with_reducible refine (spec_l1Cur_one.calls g s0_0 t422 t423 3 false t437 t438 w0 _ ?side1 ?side2 A56.out).mono ?_); (case side1 => exact iS92_5_ NB0_403.out NB0_411.out NB0_424.out NB0_430.out NB0_435.out); (case side2 => exact hs6_ (IsS92.ge HI0.out) GE403.out GE411.out GE424.out GE430.out GE435.out); rintro e w91 ⟨rfl, hi, hb, hk⟩; replace HO_412000 := Aside0.mk (Kd.R_mono (Kd.R_keep (IsS92.apart (show IsS92 w0 _ g s0_0 t422 t423 from iS92_5_ NB0_403.out NB0_411.out NB0_424.out NB0_430.out NB0_435.out) (rF_ (Kd.R_mono (Kd.R_far (p := ⟨gb435, 0, none⟩) (Kd.R_types HO_412000.out BK435.out (by decide)) (fun _ hk => hk.2) (.slice Ao84 t431.length co84)) (fun _ h_ => h_.1))) (by decide)) hk (fun _ h => h.2)) (fun _ h => h.1)); replace HO_425004 := Aside0.mk (Kd.R_mono (Kd.R_keep (IsS92.apart (show IsS92 w0 _ g s0_0 t422 t423 from iS92_5_ NB0_403.out NB0_411.out NB0_424.out NB0_430.out NB0_435.out) (rF_ (Kd.R_mono (Kd.R_far (p := ⟨gb435, 0, none⟩) (Kd.R_types HO_425004.out BK435.out (by decide)) (fun _ hk => hk.2) (.slice Ao84 t431.length co84)) (fun _ h_ => h_.1))) (by decide)) hk (fun _ h => h.2)) (fun _ h => h.1)); replace BK403 := Aside0.mk (KeepBut.blk hk (g' := gb403) (o := .cells #[.slice none 0 0] 31 (0, 0)) (uf_ BK403 NB403_435.out) NB403_0.out (by simp)); replace BK411 := Aside0.mk (KeepBut.blk hk (g' := gb411) (o := .cells #[.slice Ao81 x412000_18.length co81] 31 (0, 0)) (uf_ BK411 NB411_435.out) NB411_0.out (by simp)); replace BK424 := Aside0.mk (KeepBut.blk hk (g' := gb424) (o := .cells #[.int .i64 x5_1, .int .i64 1, .int .i64 t417, .int .i64 t418, .slice Ao26 t419.length co26] 44 (0, 0)) (uf_ BK424 NB424_435.out) NB424_0.out (by simp)); replace BK430 := Aside0.mk (KeepBut.blk hk (g' := gb430) (o := .cells #[.slice Ao35 t426.length co35] 31 (0, 0)) (uf_ BK430 NB430_435.out) NB430_0.out (by simp)); replace HO433 := Aside0.mk (Kd.R_mono (Kd.R_keep (IsS92.apart (show IsS92 w0 _ g s0_0 t422 t423 from iS92_5_ NB0_403.out NB0_411.out NB0_424.out NB0_430.out NB0_435.out) (rF_ (Kd.R_mono (Kd.R_far (p := ⟨gb435, 0, none⟩) (Kd.R_types HO433.out BK435.out (by decide)) (fun _ hk => hk.2) (.slice Ao84 t431.length co84)) (fun _ h_ => h_.1))) (by decide)) hk (fun _ h => h.2)) (fun _ h => h.1)); replace BK435 := Aside0.mk (KeepBut.blk hk (g' := gb435) (o := .cells #[.slice Ao84 t431.length co84] 31 (0, 0)) (up_ BK435) NB435_0.out (by simp)); replace HK := Aside0.mk (KeepBut.trans (kp5_ GW403.out GW411.out GW424.out GW430.out GW435.out) hk (.inl rfl)); replace HB := Aside0.mk (hb); replace HI0 := Aside0.mk (hi); (try clear hb); (try clear hb2); (try clear hk); (try clear hi)))
       go_roundg kj18
       case measure => have := HK1.out; have := HJ18.out; omega
       case rel => exact ⟨(x5_18), (wrap64 (x6_1 - 1)), (t437), (t438), (x412000_18), (.slice Ao81 x412000_18.length co81), sr_, sr_, H', ⟨by have := HK1.out; have := HJ18.out; omega⟩, ⟨rF_ (Kd.R_mono HO_412000.out (fun _ hk => trivial))⟩, ⟨kb_ BK403.out⟩, ⟨kb_ BK411.out⟩, ⟨iS92_5_ NB0_403.out NB0_411.out NB0_424.out NB0_430.out NB0_435.out⟩, ⟨kp5_ GW403.out GW411.out GW424.out GW430.out GW435.out⟩, ⟨hs6_ (IsS92.ge HI0.out) GE403.out GE411.out GE424.out GE430.out GE435.out⟩⟩
      have H' := Aside0.mk H
      clear H
      have hnb58 := NB411_403.out
      have hnc58 := NB403_411.out
      have hnb59 := NB411_424.out
      have hnc59 := NB424_411.out
      have hnb60 := NB411_430.out
      have hnc60 := NB430_411.out
      have hnb61 := NB411_0.out
      have hnc61 := NB0_411.out
      obtain ⟨hcz62_0, hfz62_0⟩ := cf1_ BK411.out
      obtain ⟨Ao63, co63, eo63⟩ := Kd.R_slice HO_412000.out
      subst eo63
      go_wp2_with (first | ((with_reducible refine gate_callee (f := 37) rfl ?_); refine gl_ 50 Try.func37 #[.agg #[.slice Ao63 x412000_18.length co63], .int .i64 0] rfl ma_ ?_; (with_reducible refine (spec_SyncFile.calls kj18 _ _ x412000_18 0 t431 true _ ?side1 ?side2 A54.out).mono ?_); (case side1 => exact cs_ ((Kd.R_reads' HO_412000.out).2.2)); (case side2 => exact (Kd.R_reads' HO_412000.out).2.1); rintro e w64 ⟨v432, rfl, ho0, hb⟩; refine ⟨_, rfl, ?_⟩; replace HO_425004 := rB_ HO_425004 hb; have HO433 := Aside0.mk (Kd.R_lower ((Kd.R_new' ho0 (Kd.R_lt (kr_ HO_412000.out)))) (keep_size (w := w) (g := g) (row := none) (kp4_ GW403.out GW411.out GW424.out GW430.out))); replace HO_412000 := Aside0.mk (Kd.R_elder' (kr_ HO_412000.out) (Kd.R_base ho0) hb); replace BK403 := bK_ BK403 hb; replace BK411 := bK_ BK411 hb; replace BK424 := bK_ BK424 hb; replace BK430 := bK_ BK430 hb; replace HK := Aside0.mk (KeepBut.trans (kp4_ GW403.out GW411.out GW424.out GW430.out) (KeepBut.of_below hb g none) (.inl rfl)); replace HB := Aside0.mk (below_step (hs5_ (IsS92.ge HI0.out) GE403.out GE411.out GE424.out GE430.out) hb); replace HI0 := Aside0.mk (IsS92.below (iS92_4_ NB0_403.out NB0_411.out NB0_424.out NB0_430.out) hb); (try clear hb); (try clear hb2); (try clear hk); (try clear hi); (try clear ho0)) | ((with_reducible refine gate_dst (N := 10) rfl ?_); refine bq_ (N := 10) #[.slice none 0 0] 31 ?_; intro gb435 hg w65 BK435 hb; replace HO_412000 := rB_ HO_412000 hb; replace HO_425004 := rB_ HO_425004 hb; replace HO433 := rB_ HO433 hb; replace HB := Aside0.mk (below_step (hs5_ (IsS92.ge HI0.out) GE403.out GE411.out GE424.out GE430.out) hb); have GW435 := Aside0.mk ((by rw [hg]; exact (keep_size (w := w) (g := g) (row := none) (kp4_ GW403.out GW411.out GW424.out GW430.out)) : w.heap.size ≤ gb435)); have GE435 := Aside0.mk ((Nat.le_trans HW0.out (by rw [hg]; exact (keep_size (w := w) (g := g) (row := none) (kp4_ GW403.out GW411.out GW424.out GW430.out)) : w.heap.size ≤ gb435) : w0.heap.size ≤ gb435)); replace HK := Aside0.mk (KeepBut.trans (kp4_ GW403.out GW411.out GW424.out GW430.out) (KeepBut.of_below hb g none) (.inl rfl)); have NB403_435 := nl_ BK403 hg; have NB435_403 := ng_ BK403 hg; replace BK403 := bK_ BK403 hb; have NB411_435 := nl_ BK411 hg; have NB435_411 := ng_ BK411 hg; replace BK411 := bK_ BK411 hb; have NB424_435 := nl_ BK424 hg; have NB435_424 := ng_ BK424 hg; replace BK424 := bK_ BK424 hb; have NB430_435 := nl_ BK430 hg; have NB435_430 := ng_ BK430 hg; replace BK430 := bK_ BK430 hb; have NB0_435 := Aside0.mk ((by rw [hg]; exact Nat.ne_of_lt (IsS92.lt (show IsS92 w0 _ g s0_0 t422 t423 from iS92_4_ NB0_403.out NB0_411.out NB0_424.out NB0_430.out)) : g ≠ gb435)); have NB435_0 := Aside0.mk ((by rw [hg]; exact Nat.ne_of_gt (IsS92.lt (show IsS92 w0 _ g s0_0 t422 t423 from iS92_4_ NB0_403.out NB0_411.out NB0_424.out NB0_430.out)) : gb435 ≠ g)); replace HI0 := Aside0.mk (IsS92.below (iS92_4_ NB0_403.out NB0_411.out NB0_424.out NB0_430.out) hb); clear hb hg; obtain ⟨Ao66, co66, eo66⟩ := Kd.R_slice HO433.out; subst eo66; have hnb67 := NB435_403.out; have hnc67 := NB403_435.out; have hnb68 := NB435_411.out; have hnc68 := NB411_435.out; have hnb69 := NB435_424.out; have hnc69 := NB424_435.out; have hnb70 := NB435_430.out; have hnc70 := NB430_435.out; have hnb71 := NB435_0.out; have hnc71 := NB0_435.out; obtain ⟨hcz72_0, hfz72_0⟩ := cf1_ BK435.out) | (go_at_call 72; (with_reducible refine (spec_l1Cur_one.calls g s0_0 t422 t423 3 true t437 t438 w0 _ ?side1 ?side2 A56.out).mono ?_); (case side1 => exact iS92_5_ NB0_403.out NB0_411.out NB0_424.out NB0_430.out NB0_435.out); (case side2 => exact hs6_ (IsS92.ge HI0.out) GE403.out GE411.out GE424.out GE430.out GE435.out); rintro e w73 ⟨rfl, hi, hb, hk⟩; replace HO_412000 := Aside0.mk (Kd.R_mono (Kd.R_keep (IsS92.apart (show IsS92 w0 _ g s0_0 t422 t423 from iS92_5_ NB0_403.out NB0_411.out NB0_424.out NB0_430.out NB0_435.out) (rF_ (Kd.R_mono (Kd.R_far (p := ⟨gb435, 0, none⟩) (Kd.R_types HO_412000.out BK435.out (by decide)) (fun _ hk => hk.2) (.slice Ao66 t431.length co66)) (fun _ h_ => h_.1))) (by decide)) hk (fun _ h => h.2)) (fun _ h => h.1)); replace HO_425004 := Aside0.mk (Kd.R_mono (Kd.R_keep (IsS92.apart (show IsS92 w0 _ g s0_0 t422 t423 from iS92_5_ NB0_403.out NB0_411.out NB0_424.out NB0_430.out NB0_435.out) (rF_ (Kd.R_mono (Kd.R_far (p := ⟨gb435, 0, none⟩) (Kd.R_types HO_425004.out BK435.out (by decide)) (fun _ hk => hk.2) (.slice Ao66 t431.length co66)) (fun _ h_ => h_.1))) (by decide)) hk (fun _ h => h.2)) (fun _ h => h.1)); replace BK403 := Aside0.mk (KeepBut.blk hk (g' := gb403) (o := .cells #[.slice none 0 0] 31 (0, 0)) (uf_ BK403 NB403_435.out) NB403_0.out (by simp)); replace BK411 := Aside0.mk (KeepBut.blk hk (g' := gb411) (o := .cells #[.slice Ao63 x412000_18.length co63] 31 (0, 0)) (uf_ BK411 NB411_435.out) NB411_0.out (by simp)); replace BK424 := Aside0.mk (KeepBut.blk hk (g' := gb424) (o := .cells #[.int .i64 x5_1, .int .i64 1, .int .i64 t417, .int .i64 t418, .slice Ao26 t419.length co26] 44 (0, 0)) (uf_ BK424 NB424_435.out) NB424_0.out (by simp)); replace BK430 := Aside0.mk (KeepBut.blk hk (g' := gb430) (o := .cells #[.slice Ao35 t426.length co35] 31 (0, 0)) (uf_ BK430 NB430_435.out) NB430_0.out (by simp)); replace HO433 := Aside0.mk (Kd.R_mono (Kd.R_keep (IsS92.apart (show IsS92 w0 _ g s0_0 t422 t423 from iS92_5_ NB0_403.out NB0_411.out NB0_424.out NB0_430.out NB0_435.out) (rF_ (Kd.R_mono (Kd.R_far (p := ⟨gb435, 0, none⟩) (Kd.R_types HO433.out BK435.out (by decide)) (fun _ hk => hk.2) (.slice Ao66 t431.length co66)) (fun _ h_ => h_.1))) (by decide)) hk (fun _ h => h.2)) (fun _ h => h.1)); replace BK435 := Aside0.mk (KeepBut.blk hk (g' := gb435) (o := .cells #[.slice Ao66 t431.length co66] 31 (0, 0)) (up_ BK435) NB435_0.out (by simp)); replace HK := Aside0.mk (KeepBut.trans (kp5_ GW403.out GW411.out GW424.out GW430.out GW435.out) hk (.inl rfl)); replace HB := Aside0.mk (hb); replace HI0 := Aside0.mk (hi); (try clear hb); (try clear hb2); (try clear hk); (try clear hi); obtain ⟨hcz74_0, hfz74_0⟩ := cf1_ BK435.out; obtain ⟨hcz75_0, hfz75_0⟩ := cf1_ BK411.out))
      go_roundg kj18
      case measure => have := HK1.out; have := HJ18.out; omega
      case rel => exact ⟨(x5_18), (wrap64 (x6_1 - 1)), (t437), (t438), (t431), (.slice Ao66 t431.length co66), sr_, sr_, H', ⟨by have := HK1.out; have := HJ18.out; omega⟩, ⟨rF_ (Kd.R_mono (Kd.R_far (p := ⟨gb411, 0, none⟩) (Kd.R_types HO433.out BK411.out (by decide)) (fun _ hk => hk.2) (.slice Ao66 t431.length co66)) (fun _ hk => trivial))⟩, ⟨uf_ BK403 NB403_411.out⟩, ⟨up_ BK411⟩, ⟨iS92_5_ NB0_403.out NB0_411.out NB0_424.out NB0_430.out NB0_435.out⟩, ⟨kp5_ GW403.out GW411.out GW424.out GW430.out GW435.out⟩, ⟨hs6_ (IsS92.ge HI0.out) GE403.out GE411.out GE424.out GE430.out GE435.out⟩⟩
   have c14b0 := dgf_ c14
   clear c14
   replace H := bnd_ H
   obtain ⟨⟨t439, t440, t441⟩, A115, H⟩ := H
   replace H := red_ H
   obtain ⟨y442, hy442⟩ : ∃ y_ : List ByteArray, y_ = (([(⟨#[]⟩ : ByteArray), (⟨#[]⟩ : ByteArray), (⟨#[116, 111, 114, 110]⟩ : ByteArray), (⟨#[0, 14, 0]⟩ : ByteArray)] : List ByteArray)) := ⟨_, rfl⟩
   replace H : ((spec_l1Cur_of.f s0_0 t440 t441 y442).bind fun bt445 => ((spec_AppendTo.f k1 x412000_1 t439 bt445.1).bind fun bt448 => (if bt448.2 = true then (spec_l1Cur_disk.j2 k1 s0_0 bt445.2.1 bt445.2.2 bt448.1) else (spec_l1Cur_disk.j2 k1 s0_0 bt445.2.1 bt445.2.2 x412000_1)))) = some (r1, r2, r3) := by first | (rw [hy442]; with_reducible exact H) | (have H2_ := (Option.bind_some _ _).symm.trans H; rw [hy442]; with_reducible exact H2_) | (have H2_ := (Option.bind_some _ _).symm.trans H; with_reducible exact H2_) | with_reducible exact H | (rw [hy442]; exact H) | exact H
   have Ny442 := Aside0.mk hy442
   clear hy442
   replace H := bnd_ H
   obtain ⟨⟨t445, t446, t447⟩, A116, H⟩ := H
   replace H := red_ H
   replace H := bnd_ H
   obtain ⟨⟨t448, t451⟩, A117, H⟩ := H
   replace H := red_ H
   have HC118 := Aside0.mk H
   clear H
   obtain ⟨Ao119, co119, eo119⟩ := Kd.R_slice HO_412000.out
   subst eo119
   try go_wp2
   replace HO_412000 := qR_ HO_412000
   replace BK403 := qK_ BK403
   replace BK411 := qK_ BK411
   replace HI0 := Aside0.mk (IsS92.drew HI0.out)
   replace HK := Aside0.mk (keep_drew HK.out)
   replace HB := qH_ HB
   refine start_ (n := 16) (S := fun w' => w'.cell? ⟨gb411, 0, none⟩ = some (.slice Ao119 x412000_1.length co119)) (ds := []) (List.replicate 16 false).toArray (by kernel_rfl) rfl rfl (bt_ BK411 0) (fun hHeld => ?_); refine with_tabW spec_l1Cur_disk.tab17 spec_l1Cur_disk.bits17 (fun HT_ HW_ => ?_)
   generalize wr.drew = w120 at HO_412000 BK403 BK411 HI0 HK HB hHeld ⊢
   refine pv_ 1 61 ?_
   refine pv_ 2 62 ?_
   refine pv_ 6 66 ?_
   refine take_ (i := 0) (N := some 60) (v := ?_) (a' := ?_) #[true, true, true, false, false, false, true, false, false, false, false, false, false, false, false, false] rfl rfl (take_ofW HT_.out HW_.out (by kernel_rfl)) (fun _ _ _ h => h) (Or.inl ⟨by rfl, ?_⟩) hHeld ?_ ?_
   rotate_left
   ·intro w' s0
    go_simp
    with_reducible rfl
   rotate_left
   ·simp only [Act.put, List.setIfInBounds_toArray, List.set_cons_zero, List.set_cons_succ, i64_w, i32_w]
    rfl
   refine take_ (i := 3) (N := some 63) (v := ?_) (a' := ?_) #[true, true, true, true, false, false, true, false, false, false, false, false, false, false, false, false] rfl rfl (take_ofW HT_.out HW_.out (by kernel_rfl)) (fun _ _ _ h => h) (Or.inl ⟨by rfl, ?_⟩) hHeld ?_ ?_
   rotate_left
   ·intro w' s0
    go_simp
    with_reducible rfl
   rotate_left
   ·simp only [Act.put, List.setIfInBounds_toArray, List.set_cons_zero, List.set_cons_succ, i64_w, i32_w]
    rfl
   refine pv_ 4 64 ?_
   refine join_ (σ := Value × Value × Nat) 2 #[true, true, true, true, true, true, true, true, true, true, true, true, true, true, false, false] (fun s_ => [(65, .int .i64 t439), (67, s_.1), (68, .string t445), (69, .tuple #[.agg #[s_.2.1], .bool t451]), (12, .pointer (some ⟨s_.2.2, 0, none⟩)), (59, .tuple #[.agg #[s_.2.1], .bool t451]), (70, .agg #[s_.2.1]), (71, .bool t451)]) (fun s_ w' => (w'.cell? ⟨gb411, 0, none⟩ = some (.slice Ao119 x412000_1.length co119)) ∧ (Kd.R Kd.string 9 w' w.heap.size (fun _ => True) s_.1 y442) ∧ (Kd.R k56 56 w' w.heap.size (fun k_ => some k_ ≠ (.slice Ao119 x412000_1.length co119 : Value).ownBlock) s_.2.1 t448) ∧ (Kd.R k56 56 w' w.heap.size (fun k_ => some k_ ≠ (s_.2.1 : Value).ownBlock) (.slice Ao119 x412000_1.length co119) x412000_1) ∧ (w'.heap[gb403]? = some (.cells #[.slice none 0 0] 31 (0, 0))) ∧ (w'.heap[gb411]? = some (.cells #[.slice Ao119 x412000_1.length co119] 31 (0, 0))) ∧ (w'.heap[s_.2.2]? = some (.cells #[.slice none 0 0] 31 (0, 0))) ∧ (w.heap.size ≤ s_.2.2) ∧ (w0.heap.size ≤ s_.2.2) ∧ (g ≠ s_.2.2) ∧ (s_.2.2 ≠ g) ∧ (gb403 ≠ s_.2.2) ∧ (s_.2.2 ≠ gb403) ∧ (gb411 ≠ s_.2.2) ∧ (s_.2.2 ≠ gb411) ∧ (IsS92 w0 w' g s0_0 t446 t447) ∧ (KeepBut w w' g none) ∧ (Below w0.heap.size w0 w')) ?_ ?_
   rotate_left
   ·intro hJ5_7_8_9_13
    refine join_ (σ := Value × Value) 3 #[true, true, true, true, true, true, true, true, true, true, true, true, true, false, false, false] (fun s_ => [(65, .int .i64 t439), (67, s_.1), (68, .string t445), (69, .tuple #[.agg #[s_.2], .bool t451]), (59, .tuple #[.agg #[s_.2], .bool t451]), (70, .agg #[s_.2]), (71, .bool t451)]) (fun s_ w' => (w'.cell? ⟨gb411, 0, none⟩ = some (.slice Ao119 x412000_1.length co119)) ∧ (Kd.R Kd.string 9 w' w.heap.size (fun _ => True) s_.1 y442) ∧ (Kd.R k56 56 w' w.heap.size (fun k_ => some k_ ≠ (.slice Ao119 x412000_1.length co119 : Value).ownBlock) s_.2 t448) ∧ (Kd.R k56 56 w' w.heap.size (fun k_ => some k_ ≠ (s_.2 : Value).ownBlock) (.slice Ao119 x412000_1.length co119) x412000_1) ∧ (w'.heap[gb403]? = some (.cells #[.slice none 0 0] 31 (0, 0))) ∧ (w'.heap[gb411]? = some (.cells #[.slice Ao119 x412000_1.length co119] 31 (0, 0))) ∧ (IsS92 w0 w' g s0_0 t446 t447) ∧ (KeepBut w w' g none) ∧ (Below w0.heap.size w0 w')) ?_ ?_
    rotate_left
    ·intro hJ5_7_8_9
     refine join_ (σ := Value × Nat) 6 #[true, true, true, true, true, true, true, true, true, false, false, false, false, true, false, false] (fun s_ => [(65, .int .i64 t439), (67, s_.1), (68, .string t445), (12, .pointer (some ⟨s_.2, 0, none⟩))]) (fun s_ w' => (w'.cell? ⟨gb411, 0, none⟩ = some (.slice Ao119 x412000_1.length co119)) ∧ (Kd.R Kd.string 9 w' w.heap.size (fun _ => True) s_.1 y442) ∧ (Kd.R k56 56 w' w.heap.size (fun _ => True) (.slice Ao119 x412000_1.length co119) x412000_1) ∧ (w'.heap[gb403]? = some (.cells #[.slice none 0 0] 31 (0, 0))) ∧ (w'.heap[gb411]? = some (.cells #[.slice Ao119 x412000_1.length co119] 31 (0, 0))) ∧ (w'.heap[s_.2]? = some (.cells #[.slice none 0 0] 31 (0, 0))) ∧ (w.heap.size ≤ s_.2) ∧ (w0.heap.size ≤ s_.2) ∧ (g ≠ s_.2) ∧ (s_.2 ≠ g) ∧ (gb403 ≠ s_.2) ∧ (s_.2 ≠ gb403) ∧ (gb411 ≠ s_.2) ∧ (s_.2 ≠ gb411) ∧ (IsS92 w0 w' g s0_0 t446 t447) ∧ (KeepBut w w' g none) ∧ (Below w0.heap.size w0 w')) ?_ ?_
     rotate_left
     ·intro hJ5_7_8_13
      refine join_ (σ := Value) 7 #[true, true, true, true, true, true, true, true, true, false, false, false, false, false, false, false] (fun s_ => [(65, .int .i64 t439), (67, s_), (68, .string t445)]) (fun s_ w' => (w'.cell? ⟨gb411, 0, none⟩ = some (.slice Ao119 x412000_1.length co119)) ∧ (Kd.R Kd.string 9 w' w.heap.size (fun _ => True) s_ y442) ∧ (Kd.R k56 56 w' w.heap.size (fun _ => True) (.slice Ao119 x412000_1.length co119) x412000_1) ∧ (w'.heap[gb403]? = some (.cells #[.slice none 0 0] 31 (0, 0))) ∧ (w'.heap[gb411]? = some (.cells #[.slice Ao119 x412000_1.length co119] 31 (0, 0))) ∧ (IsS92 w0 w' g s0_0 t446 t447) ∧ (KeepBut w w' g none) ∧ (Below w0.heap.size w0 w')) ?_ ?_
      rotate_left
      ·intro hJ5_7_8
       refine join_ (σ := Value × Nat) 7 #[true, true, true, true, true, true, true, true, false, false, false, false, false, true, false, false] (fun s_ => [(65, .int .i64 t439), (67, s_.1), (12, .pointer (some ⟨s_.2, 0, none⟩))]) (fun s_ w' => (w'.cell? ⟨gb411, 0, none⟩ = some (.slice Ao119 x412000_1.length co119)) ∧ (Kd.R Kd.string 9 w' w.heap.size (fun _ => True) s_.1 y442) ∧ (Kd.R k56 56 w' w.heap.size (fun _ => True) (.slice Ao119 x412000_1.length co119) x412000_1) ∧ (w'.heap[gb403]? = some (.cells #[.slice none 0 0] 31 (0, 0))) ∧ (w'.heap[gb411]? = some (.cells #[.slice Ao119 x412000_1.length co119] 31 (0, 0))) ∧ (w'.heap[s_.2]? = some (.cells #[.slice none 0 0] 31 (0, 0))) ∧ (w.heap.size ≤ s_.2) ∧ (w0.heap.size ≤ s_.2) ∧ (g ≠ s_.2) ∧ (s_.2 ≠ g) ∧ (gb403 ≠ s_.2) ∧ (s_.2 ≠ gb403) ∧ (gb411 ≠ s_.2) ∧ (s_.2 ≠ gb411) ∧ (IsS92 w0 w' g s0_0 t440 t441) ∧ (KeepBut w w' g none) ∧ (Below w0.heap.size w0 w')) ?_ ?_
       rotate_left
       ·intro hJ5_7_13
        refine join_ (σ := Value) 8 #[true, true, true, true, true, true, true, true, false, false, false, false, false, false, false, false] (fun s_ => [(65, .int .i64 t439), (67, s_)]) (fun s_ w' => (w'.cell? ⟨gb411, 0, none⟩ = some (.slice Ao119 x412000_1.length co119)) ∧ (Kd.R Kd.string 9 w' w.heap.size (fun _ => True) s_ y442) ∧ (Kd.R k56 56 w' w.heap.size (fun _ => True) (.slice Ao119 x412000_1.length co119) x412000_1) ∧ (w'.heap[gb403]? = some (.cells #[.slice none 0 0] 31 (0, 0))) ∧ (w'.heap[gb411]? = some (.cells #[.slice Ao119 x412000_1.length co119] 31 (0, 0))) ∧ (IsS92 w0 w' g s0_0 t440 t441) ∧ (KeepBut w w' g none) ∧ (Below w0.heap.size w0 w')) ?_ ?_
        rotate_left
        ·intro hJ5_7
         refine join_ (σ := Nat) 8 #[true, true, true, true, true, true, true, false, false, false, false, false, false, true, false, false] (fun s_ => [(65, .int .i64 t439), (12, .pointer (some ⟨s_, 0, none⟩))]) (fun s_ w' => (w'.cell? ⟨gb411, 0, none⟩ = some (.slice Ao119 x412000_1.length co119)) ∧ (Kd.R k56 56 w' w.heap.size (fun _ => True) (.slice Ao119 x412000_1.length co119) x412000_1) ∧ (w'.heap[gb403]? = some (.cells #[.slice none 0 0] 31 (0, 0))) ∧ (w'.heap[gb411]? = some (.cells #[.slice Ao119 x412000_1.length co119] 31 (0, 0))) ∧ (w'.heap[s_]? = some (.cells #[.slice none 0 0] 31 (0, 0))) ∧ (w.heap.size ≤ s_) ∧ (w0.heap.size ≤ s_) ∧ (g ≠ s_) ∧ (s_ ≠ g) ∧ (gb403 ≠ s_) ∧ (s_ ≠ gb403) ∧ (gb411 ≠ s_) ∧ (s_ ≠ gb411) ∧ (IsS92 w0 w' g s0_0 t440 t441) ∧ (KeepBut w w' g none) ∧ (Below w0.heap.size w0 w')) ?_ ?_
         rotate_left
         ·intro hJ5_13
          refine join_ (σ := Value × Nat) 8 #[true, true, true, true, true, false, true, true, false, false, false, false, false, true, false, false] (fun s_ => [(67, s_.1), (12, .pointer (some ⟨s_.2, 0, none⟩))]) (fun s_ w' => (w'.cell? ⟨gb411, 0, none⟩ = some (.slice Ao119 x412000_1.length co119)) ∧ (Kd.R Kd.string 9 w' w.heap.size (fun _ => True) s_.1 y442) ∧ (Kd.R k56 56 w' w.heap.size (fun _ => True) (.slice Ao119 x412000_1.length co119) x412000_1) ∧ (w'.heap[gb403]? = some (.cells #[.slice none 0 0] 31 (0, 0))) ∧ (w'.heap[gb411]? = some (.cells #[.slice Ao119 x412000_1.length co119] 31 (0, 0))) ∧ (w'.heap[s_.2]? = some (.cells #[.slice none 0 0] 31 (0, 0))) ∧ (w.heap.size ≤ s_.2) ∧ (w0.heap.size ≤ s_.2) ∧ (g ≠ s_.2) ∧ (s_.2 ≠ g) ∧ (gb403 ≠ s_.2) ∧ (s_.2 ≠ gb403) ∧ (gb411 ≠ s_.2) ∧ (s_.2 ≠ gb411) ∧ (IsS92 w0 w' g s0_0 x1001_1 x1002_1) ∧ (KeepBut w w' g none) ∧ (Below w0.heap.size w0 w')) ?_ ?_
          rotate_left
          ·intro hJ7_13
           refine join_ (σ := Unit) 9 #[true, true, true, true, true, true, true, false, false, false, false, false, false, false, false, false] (fun s_ => [(65, .int .i64 t439)]) (fun s_ w' => (w'.cell? ⟨gb411, 0, none⟩ = some (.slice Ao119 x412000_1.length co119)) ∧ (Kd.R k56 56 w' w.heap.size (fun _ => True) (.slice Ao119 x412000_1.length co119) x412000_1) ∧ (w'.heap[gb403]? = some (.cells #[.slice none 0 0] 31 (0, 0))) ∧ (w'.heap[gb411]? = some (.cells #[.slice Ao119 x412000_1.length co119] 31 (0, 0))) ∧ (IsS92 w0 w' g s0_0 t440 t441) ∧ (KeepBut w w' g none) ∧ (Below w0.heap.size w0 w')) ?_ ?_
           rotate_left
           ·intro hJ5
            refine join_ (σ := Value) 9 #[true, true, true, true, true, false, true, true, false, false, false, false, false, false, false, false] (fun s_ => [(67, s_)]) (fun s_ w' => (w'.cell? ⟨gb411, 0, none⟩ = some (.slice Ao119 x412000_1.length co119)) ∧ (Kd.R Kd.string 9 w' w.heap.size (fun _ => True) s_ y442) ∧ (Kd.R k56 56 w' w.heap.size (fun _ => True) (.slice Ao119 x412000_1.length co119) x412000_1) ∧ (w'.heap[gb403]? = some (.cells #[.slice none 0 0] 31 (0, 0))) ∧ (w'.heap[gb411]? = some (.cells #[.slice Ao119 x412000_1.length co119] 31 (0, 0))) ∧ (IsS92 w0 w' g s0_0 x1001_1 x1002_1) ∧ (KeepBut w w' g none) ∧ (Below w0.heap.size w0 w')) ?_ ?_
            rotate_left
            ·intro hJ7
             refine join_ (σ := Nat) 9 #[true, true, true, true, true, false, true, false, false, false, false, false, false, true, false, false] (fun s_ => [(12, .pointer (some ⟨s_, 0, none⟩))]) (fun s_ w' => (w'.cell? ⟨gb411, 0, none⟩ = some (.slice Ao119 x412000_1.length co119)) ∧ (Kd.R k56 56 w' w.heap.size (fun _ => True) (.slice Ao119 x412000_1.length co119) x412000_1) ∧ (w'.heap[gb403]? = some (.cells #[.slice none 0 0] 31 (0, 0))) ∧ (w'.heap[gb411]? = some (.cells #[.slice Ao119 x412000_1.length co119] 31 (0, 0))) ∧ (w'.heap[s_]? = some (.cells #[.slice none 0 0] 31 (0, 0))) ∧ (w.heap.size ≤ s_) ∧ (w0.heap.size ≤ s_) ∧ (g ≠ s_) ∧ (s_ ≠ g) ∧ (gb403 ≠ s_) ∧ (s_ ≠ gb403) ∧ (gb411 ≠ s_) ∧ (s_ ≠ gb411) ∧ (IsS92 w0 w' g s0_0 x1001_1 x1002_1) ∧ (KeepBut w w' g none) ∧ (Below w0.heap.size w0 w')) ?_ ?_
             rotate_left
             ·intro hJ13
              refine three_ (i := 5) (j := 7) (k := 13) (Ni := some 65) (Nj := some 67) (Nk := some 12) #[true, true, true, true, true, true, true, false, false, false, false, false, false, false, false, false] #[true, true, true, true, true, false, true, true, false, false, false, false, false, false, false, false] #[true, true, true, true, true, false, true, false, false, false, false, false, false, true, false, false] rfl rfl rfl rfl rfl rfl (three_of HT_.out (by kernel_rfl)) (by decide) (by decide) (by decide) (fun K hK => ?_) (fun K hK => ?_) (fun K hK => ?_)
              ·skip
               refine gs_ Try.func74 #[.pointer (some ⟨g, 0, none⟩), .int .i64 (x412000_1.length : Int)] rfl ma_ ?_
               with_reducible refine (spec_l1Cur_pick.calls g s0_0 x1001_1 x1002_1 (x412000_1.length : Int) t439 t440 t441 w0 _ ?side1 ?side2 A115.out).mono ?_
               (case side1 => exact iS92_2_ NB0_403.out NB0_411.out)
               (case side2 => exact hs3_ (IsS92.ge HI0.out) GE403.out GE411.out)
               rintro e w121 ⟨rfl, hi, hb, hk⟩
               refine ⟨_, rfl, ?_⟩
               replace HO_412000 := Aside0.mk (Kd.R_mono (Kd.R_keep (IsS92.apart (show IsS92 w0 _ g s0_0 x1001_1 x1002_1 from iS92_2_ NB0_403.out NB0_411.out) (kr_ HO_412000.out) (by decide)) hk (fun _ h => h.2)) (fun _ h => h.1))
               replace BK403 := Aside0.mk (KeepBut.blk hk (g' := gb403) (o := .cells #[.slice none 0 0] 31 (0, 0)) (kb_ BK403.out) NB403_0.out (by simp))
               replace BK411 := Aside0.mk (KeepBut.blk hk (g' := gb411) (o := .cells #[.slice Ao119 x412000_1.length co119] 31 (0, 0)) (kb_ BK411.out) NB411_0.out (by simp))
               replace HK := Aside0.mk (KeepBut.trans (kp2_ GW403.out GW411.out) hk (.inl rfl))
               replace HB := Aside0.mk (hb)
               replace HI0 := Aside0.mk (hi)
               (try clear hb)
               (try clear hb2)
               (try clear hk)
               (try clear hi)
               refine hK.out _ _ (bt_ BK411 0) (fun hHeld => ?_)
               clear hK K
               refine no_ ?_
               exact nq_ (hJ5 () _ ⟨hHeld, (kr_ HO_412000.out), (kb_ BK403.out), (kb_ BK411.out), (iS92_2_ NB0_403.out NB0_411.out), (kp2_ GW403.out GW411.out), (hs3_ (IsS92.ge HI0.out) GE403.out GE411.out)⟩)
              ·skip
               refine Kd.R_lit_step Kd.string _ 9 ?hg (N := 67) ?hd (xs := ([(⟨#[]⟩ : ByteArray), (⟨#[]⟩ : ByteArray), (⟨#[116, 111, 114, 110]⟩ : ByteArray), (⟨#[0, 14, 0]⟩ : ByteArray)] : List ByteArray)) (inner := [.string (⟨#[]⟩ : ByteArray), .string (⟨#[]⟩ : ByteArray), .string (⟨#[116, 111, 114, 110]⟩ : ByteArray), .string (⟨#[0, 14, 0]⟩ : ByteArray)]) (ok := fun _ => True) (okp := fun _ => True) ?hr ?hp (fun _ hk => hk) trivial (Below.refl _ _) (Nat.le_refl _) (by simp) ?_; (case hd => rfl); (case hg => rfl); (case hr => first | (go_simp; done) | (go_simp; rfl)); (case hp => exact (Reps.one (show Kd.M Kd.string _ _ _ (⟨#[]⟩ : ByteArray) [.string (⟨#[]⟩ : ByteArray)] from rfl) (Reps.one (show Kd.M Kd.string _ _ _ (⟨#[]⟩ : ByteArray) [.string (⟨#[]⟩ : ByteArray)] from rfl) (Reps.one (show Kd.M Kd.string _ _ _ (⟨#[116, 111, 114, 110]⟩ : ByteArray) [.string (⟨#[116, 111, 114, 110]⟩ : ByteArray)] from rfl) (Reps.one (show Kd.M Kd.string _ _ _ (⟨#[0, 14, 0]⟩ : ByteArray) [.string (⟨#[0, 14, 0]⟩ : ByteArray)] from rfl) (Reps.none _ _))))))
               intro v443 w121 ho122 hb hg_ hnew_
               clear hg_ hnew_
               (first | rw [← Ny442.out] at ho122 | (simp only [Int.reduceToNat] at ho122; rw [← Ny442.out] at ho122))
               replace HO_412000 := rB_ HO_412000 hb
               have HO444 := Aside0.mk (Kd.R_lower ho122 (keep_size (w := w) (g := g) (row := none) (kp2_ GW403.out GW411.out)))
               replace BK403 := bK_ BK403 hb
               replace BK411 := bK_ BK411 hb
               replace HK := Aside0.mk (KeepBut.trans (kp2_ GW403.out GW411.out) (KeepBut.of_below hb g none) (.inl rfl))
               replace HB := Aside0.mk (below_step (hs3_ (IsS92.ge HI0.out) GE403.out GE411.out) hb)
               replace HI0 := Aside0.mk (IsS92.below (iS92_2_ NB0_403.out NB0_411.out) hb)
               clear hb ho122
               refine hK.out _ _ (bt_ BK411 0) (fun hHeld => ?_)
               clear hK K
               refine no_ ?_
               exact nq_ (hJ7 (v443) _ ⟨hHeld, (kr_ HO444.out), (kr_ HO_412000.out), (kb_ BK403.out), (kb_ BK411.out), (iS92_2_ NB0_403.out NB0_411.out), (kp2_ GW403.out GW411.out), (hs3_ (IsS92.ge HI0.out) GE403.out GE411.out)⟩)
              ·skip
               refine bs_ (N := 12) #[.slice none 0 0] 31 ?_
               intro gb452 hg w121 hbox hb
               replace HO_412000 := rB_ HO_412000 hb
               replace HB := Aside0.mk (below_step (hs3_ (IsS92.ge HI0.out) GE403.out GE411.out) hb)
               have BK452 := Aside0.mk (hbox)
               have GW452 := Aside0.mk ((by rw [hg]; exact (keep_size (w := w) (g := g) (row := none) (kp2_ GW403.out GW411.out)) : w.heap.size ≤ gb452))
               have GE452 := Aside0.mk ((Nat.le_trans HW0.out (by rw [hg]; exact (keep_size (w := w) (g := g) (row := none) (kp2_ GW403.out GW411.out)) : w.heap.size ≤ gb452) : w0.heap.size ≤ gb452))
               replace HK := Aside0.mk (KeepBut.trans (kp2_ GW403.out GW411.out) (KeepBut.of_below hb g none) (.inl rfl))
               have NB403_452 := nl_ BK403 hg
               have NB452_403 := ng_ BK403 hg
               replace BK403 := bK_ BK403 hb
               have NB411_452 := nl_ BK411 hg
               have NB452_411 := ng_ BK411 hg
               replace BK411 := bK_ BK411 hb
               have NB0_452 := Aside0.mk ((by rw [hg]; exact Nat.ne_of_lt (IsS92.lt (show IsS92 w0 _ g s0_0 x1001_1 x1002_1 from iS92_2_ NB0_403.out NB0_411.out)) : g ≠ gb452))
               have NB452_0 := Aside0.mk ((by rw [hg]; exact Nat.ne_of_gt (IsS92.lt (show IsS92 w0 _ g s0_0 x1001_1 x1002_1 from iS92_2_ NB0_403.out NB0_411.out)) : gb452 ≠ g))
               replace HI0 := Aside0.mk (IsS92.below (iS92_2_ NB0_403.out NB0_411.out) hb)
               clear hb hbox hg
               refine hK.out _ _ (bt_ BK411 0) (fun hHeld => ?_)
               clear hK K
               refine no_ ?_
               exact nq_ (hJ13 (gb452) _ ⟨hHeld, (kr_ HO_412000.out), (kb_ BK403.out), (kb_ BK411.out), (kb_ BK452.out), GW452.out, GE452.out, NB0_452.out, NB452_0.out, NB403_452.out, NB452_403.out, NB411_452.out, NB452_411.out, (iS92_3_ NB0_403.out NB0_411.out NB0_452.out), (kp3_ GW403.out GW411.out GW452.out), (hs4_ (IsS92.ge HI0.out) GE403.out GE411.out GE452.out)⟩)
             ·skip
              rintro gb452 w122 ⟨hS_, h0_, h1_, h2_, h3_, h4_, h5_, h6_, h7_, h8_, h9_, h10_, h11_, h12_, h13_, h14_⟩
              have n0_ : Aside0 (Kd.R k56 56 w122 w.heap.size (fun _ => True) (.slice Ao119 x412000_1.length co119) x412000_1) := ⟨h0_⟩
              have n1_ : Aside0 (w122.heap[gb403]? = some (.cells #[.slice none 0 0] 31 (0, 0))) := ⟨h1_⟩
              have n2_ : Aside0 (w122.heap[gb411]? = some (.cells #[.slice Ao119 x412000_1.length co119] 31 (0, 0))) := ⟨h2_⟩
              have n3_ : Aside0 (w122.heap[gb452]? = some (.cells #[.slice none 0 0] 31 (0, 0))) := ⟨h3_⟩
              have n4_ : Aside0 (w.heap.size ≤ gb452) := ⟨h4_⟩
              have n5_ : Aside0 (w0.heap.size ≤ gb452) := ⟨h5_⟩
              have n6_ : Aside0 (g ≠ gb452) := ⟨h6_⟩
              have n7_ : Aside0 (gb452 ≠ g) := ⟨h7_⟩
              have n8_ : Aside0 (gb403 ≠ gb452) := ⟨h8_⟩
              have n9_ : Aside0 (gb452 ≠ gb403) := ⟨h9_⟩
              have n10_ : Aside0 (gb411 ≠ gb452) := ⟨h10_⟩
              have n11_ : Aside0 (gb452 ≠ gb411) := ⟨h11_⟩
              have n12_ : Aside0 (IsS92 w0 w122 g s0_0 x1001_1 x1002_1) := ⟨h12_⟩
              have n13_ : Aside0 (KeepBut w w122 g none) := ⟨h13_⟩
              have n14_ : Aside0 (Below w0.heap.size w0 w122) := ⟨h14_⟩
              clear HO_412000
              clear BK403
              clear BK411
              clear HI0
              clear HK
              clear HB
              clear h0_ h1_ h2_ h3_ h4_ h5_ h6_ h7_ h8_ h9_ h10_ h11_ h12_ h13_ h14_
              have HO_412000 := n0_
              have BK403 := n1_
              have BK411 := n2_
              have BK452 := n3_
              have GW452 := n4_
              have GE452 := n5_
              have NB0_452 := n6_
              have NB452_0 := n7_
              have NB403_452 := n8_
              have NB452_403 := n9_
              have NB411_452 := n10_
              have NB452_411 := n11_
              have HI0 := n12_
              have HK := n13_
              have HB := n14_
              clear n0_ n1_ n2_ n3_ n4_ n5_ n6_ n7_ n8_ n9_ n10_ n11_ n12_ n13_ n14_
              have hHeld : w122.cell? ⟨gb411, 0, none⟩ = some (.slice Ao119 x412000_1.length co119) := hS_
              refine np_ ?_
              refine two_ (i := 5) (j := 7) (Ni := some 65) (Nj := some 67) #[true, true, true, true, true, true, true, false, false, false, false, false, false, true, false, false] #[true, true, true, true, true, false, true, true, false, false, false, false, false, true, false, false] rfl rfl rfl rfl (two_of HT_.out (by kernel_rfl)) (by decide) (by decide) (fun K hK => ?_) (fun K hK => ?_)
              ·skip
               refine gs_ Try.func74 #[.pointer (some ⟨g, 0, none⟩), .int .i64 (x412000_1.length : Int)] rfl ma_ ?_
               with_reducible refine (spec_l1Cur_pick.calls g s0_0 x1001_1 x1002_1 (x412000_1.length : Int) t439 t440 t441 w0 _ ?side1 ?side2 A115.out).mono ?_
               (case side1 => exact iS92_3_ NB0_403.out NB0_411.out NB0_452.out)
               (case side2 => exact hs4_ (IsS92.ge HI0.out) GE403.out GE411.out GE452.out)
               rintro e w123 ⟨rfl, hi, hb, hk⟩
               refine ⟨_, rfl, ?_⟩
               replace HO_412000 := Aside0.mk (Kd.R_mono (Kd.R_keep (IsS92.apart (show IsS92 w0 _ g s0_0 x1001_1 x1002_1 from iS92_3_ NB0_403.out NB0_411.out NB0_452.out) (kr_ HO_412000.out) (by decide)) hk (fun _ h => h.2)) (fun _ h => h.1))
               replace BK403 := Aside0.mk (KeepBut.blk hk (g' := gb403) (o := .cells #[.slice none 0 0] 31 (0, 0)) (kb_ BK403.out) NB403_0.out (by simp))
               replace BK411 := Aside0.mk (KeepBut.blk hk (g' := gb411) (o := .cells #[.slice Ao119 x412000_1.length co119] 31 (0, 0)) (kb_ BK411.out) NB411_0.out (by simp))
               replace BK452 := Aside0.mk (KeepBut.blk hk (g' := gb452) (o := .cells #[.slice none 0 0] 31 (0, 0)) (kb_ BK452.out) NB452_0.out (by simp))
               replace HK := Aside0.mk (KeepBut.trans (kp3_ GW403.out GW411.out GW452.out) hk (.inl rfl))
               replace HB := Aside0.mk (hb)
               replace HI0 := Aside0.mk (hi)
               (try clear hb)
               (try clear hb2)
               (try clear hk)
               (try clear hi)
               refine hK.out _ _ (bt_ BK411 0) (fun hHeld => ?_)
               clear hK K
               refine no_ ?_
               exact nq_ (hJ5_13 (gb452) _ ⟨hHeld, (kr_ HO_412000.out), (kb_ BK403.out), (kb_ BK411.out), (kb_ BK452.out), GW452.out, GE452.out, NB0_452.out, NB452_0.out, NB403_452.out, NB452_403.out, NB411_452.out, NB452_411.out, (iS92_3_ NB0_403.out NB0_411.out NB0_452.out), (kp3_ GW403.out GW411.out GW452.out), (hs4_ (IsS92.ge HI0.out) GE403.out GE411.out GE452.out)⟩)
              ·skip
               refine Kd.R_lit_step Kd.string _ 9 ?hg (N := 67) ?hd (xs := ([(⟨#[]⟩ : ByteArray), (⟨#[]⟩ : ByteArray), (⟨#[116, 111, 114, 110]⟩ : ByteArray), (⟨#[0, 14, 0]⟩ : ByteArray)] : List ByteArray)) (inner := [.string (⟨#[]⟩ : ByteArray), .string (⟨#[]⟩ : ByteArray), .string (⟨#[116, 111, 114, 110]⟩ : ByteArray), .string (⟨#[0, 14, 0]⟩ : ByteArray)]) (ok := fun _ => True) (okp := fun _ => True) ?hr ?hp (fun _ hk => hk) trivial (Below.refl _ _) (Nat.le_refl _) (by simp) ?_; (case hd => rfl); (case hg => rfl); (case hr => first | (go_simp; done) | (go_simp; rfl)); (case hp => exact (Reps.one (show Kd.M Kd.string _ _ _ (⟨#[]⟩ : ByteArray) [.string (⟨#[]⟩ : ByteArray)] from rfl) (Reps.one (show Kd.M Kd.string _ _ _ (⟨#[]⟩ : ByteArray) [.string (⟨#[]⟩ : ByteArray)] from rfl) (Reps.one (show Kd.M Kd.string _ _ _ (⟨#[116, 111, 114, 110]⟩ : ByteArray) [.string (⟨#[116, 111, 114, 110]⟩ : ByteArray)] from rfl) (Reps.one (show Kd.M Kd.string _ _ _ (⟨#[0, 14, 0]⟩ : ByteArray) [.string (⟨#[0, 14, 0]⟩ : ByteArray)] from rfl) (Reps.none _ _))))))
               intro v443 w123 ho124 hb hg_ hnew_
               clear hg_ hnew_
               (first | rw [← Ny442.out] at ho124 | (simp only [Int.reduceToNat] at ho124; rw [← Ny442.out] at ho124))
               replace HO_412000 := rB_ HO_412000 hb
               have HO444 := Aside0.mk (Kd.R_lower ho124 (keep_size (w := w) (g := g) (row := none) (kp3_ GW403.out GW411.out GW452.out)))
               replace BK403 := bK_ BK403 hb
               replace BK411 := bK_ BK411 hb
               replace BK452 := bK_ BK452 hb
               replace HK := Aside0.mk (KeepBut.trans (kp3_ GW403.out GW411.out GW452.out) (KeepBut.of_below hb g none) (.inl rfl))
               replace HB := Aside0.mk (below_step (hs4_ (IsS92.ge HI0.out) GE403.out GE411.out GE452.out) hb)
               replace HI0 := Aside0.mk (IsS92.below (iS92_3_ NB0_403.out NB0_411.out NB0_452.out) hb)
               clear hb ho124
               refine hK.out _ _ (bt_ BK411 0) (fun hHeld => ?_)
               clear hK K
               refine no_ ?_
               exact nq_ (hJ7_13 (v443, gb452) _ ⟨hHeld, (kr_ HO444.out), (kr_ HO_412000.out), (kb_ BK403.out), (kb_ BK411.out), (kb_ BK452.out), GW452.out, GE452.out, NB0_452.out, NB452_0.out, NB403_452.out, NB452_403.out, NB411_452.out, NB452_411.out, (iS92_3_ NB0_403.out NB0_411.out NB0_452.out), (kp3_ GW403.out GW411.out GW452.out), (hs4_ (IsS92.ge HI0.out) GE403.out GE411.out GE452.out)⟩)
            ·skip
             rintro v443 w123 ⟨hS_, h0_, h1_, h2_, h3_, h4_, h5_, h6_⟩
             have n0_ : Aside0 (Kd.R Kd.string 9 w123 w.heap.size (fun _ => True) v443 y442) := ⟨h0_⟩
             have n1_ : Aside0 (Kd.R k56 56 w123 w.heap.size (fun _ => True) (.slice Ao119 x412000_1.length co119) x412000_1) := ⟨h1_⟩
             have n2_ : Aside0 (w123.heap[gb403]? = some (.cells #[.slice none 0 0] 31 (0, 0))) := ⟨h2_⟩
             have n3_ : Aside0 (w123.heap[gb411]? = some (.cells #[.slice Ao119 x412000_1.length co119] 31 (0, 0))) := ⟨h3_⟩
             have n4_ : Aside0 (IsS92 w0 w123 g s0_0 x1001_1 x1002_1) := ⟨h4_⟩
             have n5_ : Aside0 (KeepBut w w123 g none) := ⟨h5_⟩
             have n6_ : Aside0 (Below w0.heap.size w0 w123) := ⟨h6_⟩
             clear HO_412000
             clear BK403
             clear BK411
             clear HI0
             clear HK
             clear HB
             clear h0_ h1_ h2_ h3_ h4_ h5_ h6_
             have HO444 := n0_
             have HO_412000 := n1_
             have BK403 := n2_
             have BK411 := n3_
             have HI0 := n4_
             have HK := n5_
             have HB := n6_
             clear n0_ n1_ n2_ n3_ n4_ n5_ n6_
             have hHeld : w123.cell? ⟨gb411, 0, none⟩ = some (.slice Ao119 x412000_1.length co119) := hS_
             refine np_ ?_
             refine two_ (i := 5) (j := 13) (Ni := some 65) (Nj := some 12) #[true, true, true, true, true, true, true, true, false, false, false, false, false, false, false, false] #[true, true, true, true, true, false, true, true, false, false, false, false, false, true, false, false] rfl rfl rfl rfl (two_of HT_.out (by kernel_rfl)) (by decide) (by decide) (fun K hK => ?_) (fun K hK => ?_)
             ·skip
              refine gs_ Try.func74 #[.pointer (some ⟨g, 0, none⟩), .int .i64 (x412000_1.length : Int)] rfl ma_ ?_
              with_reducible refine (spec_l1Cur_pick.calls g s0_0 x1001_1 x1002_1 (x412000_1.length : Int) t439 t440 t441 w0 _ ?side1 ?side2 A115.out).mono ?_
              (case side1 => exact iS92_2_ NB0_403.out NB0_411.out)
              (case side2 => exact hs3_ (IsS92.ge HI0.out) GE403.out GE411.out)
              rintro e w124 ⟨rfl, hi, hb, hk⟩
              refine ⟨_, rfl, ?_⟩
              replace HO_412000 := Aside0.mk (Kd.R_mono (Kd.R_keep (IsS92.apart (show IsS92 w0 _ g s0_0 x1001_1 x1002_1 from iS92_2_ NB0_403.out NB0_411.out) (kr_ HO_412000.out) (by decide)) hk (fun _ h => h.2)) (fun _ h => h.1))
              replace BK403 := Aside0.mk (KeepBut.blk hk (g' := gb403) (o := .cells #[.slice none 0 0] 31 (0, 0)) (kb_ BK403.out) NB403_0.out (by simp))
              replace BK411 := Aside0.mk (KeepBut.blk hk (g' := gb411) (o := .cells #[.slice Ao119 x412000_1.length co119] 31 (0, 0)) (kb_ BK411.out) NB411_0.out (by simp))
              replace HO444 := Aside0.mk (Kd.R_mono (Kd.R_keep (IsS92.apart (show IsS92 w0 _ g s0_0 x1001_1 x1002_1 from iS92_2_ NB0_403.out NB0_411.out) (kr_ HO444.out) (by decide)) hk (fun _ h => h.2)) (fun _ h => h.1))
              replace HK := Aside0.mk (KeepBut.trans (kp2_ GW403.out GW411.out) hk (.inl rfl))
              replace HB := Aside0.mk (hb)
              replace HI0 := Aside0.mk (hi)
              (try clear hb)
              (try clear hb2)
              (try clear hk)
              (try clear hi)
              refine hK.out _ _ (bt_ BK411 0) (fun hHeld => ?_)
              clear hK K
              refine no_ ?_
              exact nq_ (hJ5_7 (v443) _ ⟨hHeld, (kr_ HO444.out), (kr_ HO_412000.out), (kb_ BK403.out), (kb_ BK411.out), (iS92_2_ NB0_403.out NB0_411.out), (kp2_ GW403.out GW411.out), (hs3_ (IsS92.ge HI0.out) GE403.out GE411.out)⟩)
             ·skip
              refine bs_ (N := 12) #[.slice none 0 0] 31 ?_
              intro gb452 hg w124 hbox hb
              replace HO_412000 := rB_ HO_412000 hb
              replace HO444 := rB_ HO444 hb
              replace HB := Aside0.mk (below_step (hs3_ (IsS92.ge HI0.out) GE403.out GE411.out) hb)
              have BK452 := Aside0.mk (hbox)
              have GW452 := Aside0.mk ((by rw [hg]; exact (keep_size (w := w) (g := g) (row := none) (kp2_ GW403.out GW411.out)) : w.heap.size ≤ gb452))
              have GE452 := Aside0.mk ((Nat.le_trans HW0.out (by rw [hg]; exact (keep_size (w := w) (g := g) (row := none) (kp2_ GW403.out GW411.out)) : w.heap.size ≤ gb452) : w0.heap.size ≤ gb452))
              replace HK := Aside0.mk (KeepBut.trans (kp2_ GW403.out GW411.out) (KeepBut.of_below hb g none) (.inl rfl))
              have NB403_452 := nl_ BK403 hg
              have NB452_403 := ng_ BK403 hg
              replace BK403 := bK_ BK403 hb
              have NB411_452 := nl_ BK411 hg
              have NB452_411 := ng_ BK411 hg
              replace BK411 := bK_ BK411 hb
              have NB0_452 := Aside0.mk ((by rw [hg]; exact Nat.ne_of_lt (IsS92.lt (show IsS92 w0 _ g s0_0 x1001_1 x1002_1 from iS92_2_ NB0_403.out NB0_411.out)) : g ≠ gb452))
              have NB452_0 := Aside0.mk ((by rw [hg]; exact Nat.ne_of_gt (IsS92.lt (show IsS92 w0 _ g s0_0 x1001_1 x1002_1 from iS92_2_ NB0_403.out NB0_411.out)) : gb452 ≠ g))
              replace HI0 := Aside0.mk (IsS92.below (iS92_2_ NB0_403.out NB0_411.out) hb)
              clear hb hbox hg
              refine hK.out _ _ (bt_ BK411 0) (fun hHeld => ?_)
              clear hK K
              refine no_ ?_
              exact nq_ (hJ7_13 (v443, gb452) _ ⟨hHeld, (kr_ HO444.out), (kr_ HO_412000.out), (kb_ BK403.out), (kb_ BK411.out), (kb_ BK452.out), GW452.out, GE452.out, NB0_452.out, NB452_0.out, NB403_452.out, NB452_403.out, NB411_452.out, NB452_411.out, (iS92_3_ NB0_403.out NB0_411.out NB0_452.out), (kp3_ GW403.out GW411.out GW452.out), (hs4_ (IsS92.ge HI0.out) GE403.out GE411.out GE452.out)⟩)
           ·skip
            rintro _ w122 ⟨hS_, h0_, h1_, h2_, h3_, h4_, h5_⟩
            have n0_ : Aside0 (Kd.R k56 56 w122 w.heap.size (fun _ => True) (.slice Ao119 x412000_1.length co119) x412000_1) := ⟨h0_⟩
            have n1_ : Aside0 (w122.heap[gb403]? = some (.cells #[.slice none 0 0] 31 (0, 0))) := ⟨h1_⟩
            have n2_ : Aside0 (w122.heap[gb411]? = some (.cells #[.slice Ao119 x412000_1.length co119] 31 (0, 0))) := ⟨h2_⟩
            have n3_ : Aside0 (IsS92 w0 w122 g s0_0 t440 t441) := ⟨h3_⟩
            have n4_ : Aside0 (KeepBut w w122 g none) := ⟨h4_⟩
            have n5_ : Aside0 (Below w0.heap.size w0 w122) := ⟨h5_⟩
            clear HO_412000
            clear BK403
            clear BK411
            clear HI0
            clear HK
            clear HB
            clear h0_ h1_ h2_ h3_ h4_ h5_
            have HO_412000 := n0_
            have BK403 := n1_
            have BK411 := n2_
            have HI0 := n3_
            have HK := n4_
            have HB := n5_
            clear n0_ n1_ n2_ n3_ n4_ n5_
            have hHeld : w122.cell? ⟨gb411, 0, none⟩ = some (.slice Ao119 x412000_1.length co119) := hS_
            refine np_ ?_
            refine two_ (i := 7) (j := 13) (Ni := some 67) (Nj := some 12) #[true, true, true, true, true, true, true, true, false, false, false, false, false, false, false, false] #[true, true, true, true, true, true, true, false, false, false, false, false, false, true, false, false] rfl rfl rfl rfl (two_of HT_.out (by kernel_rfl)) (by decide) (by decide) (fun K hK => ?_) (fun K hK => ?_)
            ·skip
             refine Kd.R_lit_step Kd.string _ 9 ?hg (N := 67) ?hd (xs := ([(⟨#[]⟩ : ByteArray), (⟨#[]⟩ : ByteArray), (⟨#[116, 111, 114, 110]⟩ : ByteArray), (⟨#[0, 14, 0]⟩ : ByteArray)] : List ByteArray)) (inner := [.string (⟨#[]⟩ : ByteArray), .string (⟨#[]⟩ : ByteArray), .string (⟨#[116, 111, 114, 110]⟩ : ByteArray), .string (⟨#[0, 14, 0]⟩ : ByteArray)]) (ok := fun _ => True) (okp := fun _ => True) ?hr ?hp (fun _ hk => hk) trivial (Below.refl _ _) (Nat.le_refl _) (by simp) ?_; (case hd => rfl); (case hg => rfl); (case hr => first | (go_simp; done) | (go_simp; rfl)); (case hp => exact (Reps.one (show Kd.M Kd.string _ _ _ (⟨#[]⟩ : ByteArray) [.string (⟨#[]⟩ : ByteArray)] from rfl) (Reps.one (show Kd.M Kd.string _ _ _ (⟨#[]⟩ : ByteArray) [.string (⟨#[]⟩ : ByteArray)] from rfl) (Reps.one (show Kd.M Kd.string _ _ _ (⟨#[116, 111, 114, 110]⟩ : ByteArray) [.string (⟨#[116, 111, 114, 110]⟩ : ByteArray)] from rfl) (Reps.one (show Kd.M Kd.string _ _ _ (⟨#[0, 14, 0]⟩ : ByteArray) [.string (⟨#[0, 14, 0]⟩ : ByteArray)] from rfl) (Reps.none _ _))))))
             intro v443 w123 ho124 hb hg_ hnew_
             clear hg_ hnew_
             (first | rw [← Ny442.out] at ho124 | (simp only [Int.reduceToNat] at ho124; rw [← Ny442.out] at ho124))
             replace HO_412000 := rB_ HO_412000 hb
             have HO444 := Aside0.mk (Kd.R_lower ho124 (keep_size (w := w) (g := g) (row := none) (kp2_ GW403.out GW411.out)))
             replace BK403 := bK_ BK403 hb
             replace BK411 := bK_ BK411 hb
             replace HK := Aside0.mk (KeepBut.trans (kp2_ GW403.out GW411.out) (KeepBut.of_below hb g none) (.inl rfl))
             replace HB := Aside0.mk (below_step (hs3_ (IsS92.ge HI0.out) GE403.out GE411.out) hb)
             replace HI0 := Aside0.mk (IsS92.below (iS92_2_ NB0_403.out NB0_411.out) hb)
             clear hb ho124
             refine hK.out _ _ (bt_ BK411 0) (fun hHeld => ?_)
             clear hK K
             refine no_ ?_
             exact nq_ (hJ5_7 (v443) _ ⟨hHeld, (kr_ HO444.out), (kr_ HO_412000.out), (kb_ BK403.out), (kb_ BK411.out), (iS92_2_ NB0_403.out NB0_411.out), (kp2_ GW403.out GW411.out), (hs3_ (IsS92.ge HI0.out) GE403.out GE411.out)⟩)
            ·skip
             refine bs_ (N := 12) #[.slice none 0 0] 31 ?_
             intro gb452 hg w123 hbox hb
             replace HO_412000 := rB_ HO_412000 hb
             replace HB := Aside0.mk (below_step (hs3_ (IsS92.ge HI0.out) GE403.out GE411.out) hb)
             have BK452 := Aside0.mk (hbox)
             have GW452 := Aside0.mk ((by rw [hg]; exact (keep_size (w := w) (g := g) (row := none) (kp2_ GW403.out GW411.out)) : w.heap.size ≤ gb452))
             have GE452 := Aside0.mk ((Nat.le_trans HW0.out (by rw [hg]; exact (keep_size (w := w) (g := g) (row := none) (kp2_ GW403.out GW411.out)) : w.heap.size ≤ gb452) : w0.heap.size ≤ gb452))
             replace HK := Aside0.mk (KeepBut.trans (kp2_ GW403.out GW411.out) (KeepBut.of_below hb g none) (.inl rfl))
             have NB403_452 := nl_ BK403 hg
             have NB452_403 := ng_ BK403 hg
             replace BK403 := bK_ BK403 hb
             have NB411_452 := nl_ BK411 hg
             have NB452_411 := ng_ BK411 hg
             replace BK411 := bK_ BK411 hb
             have NB0_452 := Aside0.mk ((by rw [hg]; exact Nat.ne_of_lt (IsS92.lt (show IsS92 w0 _ g s0_0 t440 t441 from iS92_2_ NB0_403.out NB0_411.out)) : g ≠ gb452))
             have NB452_0 := Aside0.mk ((by rw [hg]; exact Nat.ne_of_gt (IsS92.lt (show IsS92 w0 _ g s0_0 t440 t441 from iS92_2_ NB0_403.out NB0_411.out)) : gb452 ≠ g))
             replace HI0 := Aside0.mk (IsS92.below (iS92_2_ NB0_403.out NB0_411.out) hb)
             clear hb hbox hg
             refine hK.out _ _ (bt_ BK411 0) (fun hHeld => ?_)
             clear hK K
             refine no_ ?_
             exact nq_ (hJ5_13 (gb452) _ ⟨hHeld, (kr_ HO_412000.out), (kb_ BK403.out), (kb_ BK411.out), (kb_ BK452.out), GW452.out, GE452.out, NB0_452.out, NB452_0.out, NB403_452.out, NB452_403.out, NB411_452.out, NB452_411.out, (iS92_3_ NB0_403.out NB0_411.out NB0_452.out), (kp3_ GW403.out GW411.out GW452.out), (hs4_ (IsS92.ge HI0.out) GE403.out GE411.out GE452.out)⟩)
          ·skip
           rintro ⟨v443, gb452⟩ w124 ⟨hS_, h0_, h1_, h2_, h3_, h4_, h5_, h6_, h7_, h8_, h9_, h10_, h11_, h12_, h13_, h14_, h15_⟩
           have n0_ : Aside0 (Kd.R Kd.string 9 w124 w.heap.size (fun _ => True) v443 y442) := ⟨h0_⟩
           have n1_ : Aside0 (Kd.R k56 56 w124 w.heap.size (fun _ => True) (.slice Ao119 x412000_1.length co119) x412000_1) := ⟨h1_⟩
           have n2_ : Aside0 (w124.heap[gb403]? = some (.cells #[.slice none 0 0] 31 (0, 0))) := ⟨h2_⟩
           have n3_ : Aside0 (w124.heap[gb411]? = some (.cells #[.slice Ao119 x412000_1.length co119] 31 (0, 0))) := ⟨h3_⟩
           have n4_ : Aside0 (w124.heap[gb452]? = some (.cells #[.slice none 0 0] 31 (0, 0))) := ⟨h4_⟩
           have n5_ : Aside0 (w.heap.size ≤ gb452) := ⟨h5_⟩
           have n6_ : Aside0 (w0.heap.size ≤ gb452) := ⟨h6_⟩
           have n7_ : Aside0 (g ≠ gb452) := ⟨h7_⟩
           have n8_ : Aside0 (gb452 ≠ g) := ⟨h8_⟩
           have n9_ : Aside0 (gb403 ≠ gb452) := ⟨h9_⟩
           have n10_ : Aside0 (gb452 ≠ gb403) := ⟨h10_⟩
           have n11_ : Aside0 (gb411 ≠ gb452) := ⟨h11_⟩
           have n12_ : Aside0 (gb452 ≠ gb411) := ⟨h12_⟩
           have n13_ : Aside0 (IsS92 w0 w124 g s0_0 x1001_1 x1002_1) := ⟨h13_⟩
           have n14_ : Aside0 (KeepBut w w124 g none) := ⟨h14_⟩
           have n15_ : Aside0 (Below w0.heap.size w0 w124) := ⟨h15_⟩
           clear HO_412000
           clear BK403
           clear BK411
           clear HI0
           clear HK
           clear HB
           clear h0_ h1_ h2_ h3_ h4_ h5_ h6_ h7_ h8_ h9_ h10_ h11_ h12_ h13_ h14_ h15_
           have HO444 := n0_
           have HO_412000 := n1_
           have BK403 := n2_
           have BK411 := n3_
           have BK452 := n4_
           have GW452 := n5_
           have GE452 := n6_
           have NB0_452 := n7_
           have NB452_0 := n8_
           have NB403_452 := n9_
           have NB452_403 := n10_
           have NB411_452 := n11_
           have NB452_411 := n12_
           have HI0 := n13_
           have HK := n14_
           have HB := n15_
           clear n0_ n1_ n2_ n3_ n4_ n5_ n6_ n7_ n8_ n9_ n10_ n11_ n12_ n13_ n14_ n15_
           have hHeld : w124.cell? ⟨gb411, 0, none⟩ = some (.slice Ao119 x412000_1.length co119) := hS_
           refine np_ ?_
           refine on_ 5 65 (fun K hK => ?_)
           refine gs_ Try.func74 #[.pointer (some ⟨g, 0, none⟩), .int .i64 (x412000_1.length : Int)] rfl ma_ ?_
           with_reducible refine (spec_l1Cur_pick.calls g s0_0 x1001_1 x1002_1 (x412000_1.length : Int) t439 t440 t441 w0 _ ?side1 ?side2 A115.out).mono ?_
           (case side1 => exact iS92_3_ NB0_403.out NB0_411.out NB0_452.out)
           (case side2 => exact hs4_ (IsS92.ge HI0.out) GE403.out GE411.out GE452.out)
           rintro e w125 ⟨rfl, hi, hb, hk⟩
           refine ⟨_, rfl, ?_⟩
           replace HO_412000 := Aside0.mk (Kd.R_mono (Kd.R_keep (IsS92.apart (show IsS92 w0 _ g s0_0 x1001_1 x1002_1 from iS92_3_ NB0_403.out NB0_411.out NB0_452.out) (kr_ HO_412000.out) (by decide)) hk (fun _ h => h.2)) (fun _ h => h.1))
           replace BK403 := Aside0.mk (KeepBut.blk hk (g' := gb403) (o := .cells #[.slice none 0 0] 31 (0, 0)) (kb_ BK403.out) NB403_0.out (by simp))
           replace BK411 := Aside0.mk (KeepBut.blk hk (g' := gb411) (o := .cells #[.slice Ao119 x412000_1.length co119] 31 (0, 0)) (kb_ BK411.out) NB411_0.out (by simp))
           replace HO444 := Aside0.mk (Kd.R_mono (Kd.R_keep (IsS92.apart (show IsS92 w0 _ g s0_0 x1001_1 x1002_1 from iS92_3_ NB0_403.out NB0_411.out NB0_452.out) (kr_ HO444.out) (by decide)) hk (fun _ h => h.2)) (fun _ h => h.1))
           replace BK452 := Aside0.mk (KeepBut.blk hk (g' := gb452) (o := .cells #[.slice none 0 0] 31 (0, 0)) (kb_ BK452.out) NB452_0.out (by simp))
           replace HK := Aside0.mk (KeepBut.trans (kp3_ GW403.out GW411.out GW452.out) hk (.inl rfl))
           replace HB := Aside0.mk (hb)
           replace HI0 := Aside0.mk (hi)
           (try clear hb)
           (try clear hb2)
           (try clear hk)
           (try clear hi)
           refine hK.out _ _ (bt_ BK411 0) (fun hHeld => ?_)
           clear hK K
           refine no_ ?_
           exact nq_ (hJ5_7_13 (v443, gb452) _ ⟨hHeld, (kr_ HO444.out), (kr_ HO_412000.out), (kb_ BK403.out), (kb_ BK411.out), (kb_ BK452.out), GW452.out, GE452.out, NB0_452.out, NB452_0.out, NB403_452.out, NB452_403.out, NB411_452.out, NB452_411.out, (iS92_3_ NB0_403.out NB0_411.out NB0_452.out), (kp3_ GW403.out GW411.out GW452.out), (hs4_ (IsS92.ge HI0.out) GE403.out GE411.out GE452.out)⟩)
         ·skip
          rintro gb452 w123 ⟨hS_, h0_, h1_, h2_, h3_, h4_, h5_, h6_, h7_, h8_, h9_, h10_, h11_, h12_, h13_, h14_⟩
          have n0_ : Aside0 (Kd.R k56 56 w123 w.heap.size (fun _ => True) (.slice Ao119 x412000_1.length co119) x412000_1) := ⟨h0_⟩
          have n1_ : Aside0 (w123.heap[gb403]? = some (.cells #[.slice none 0 0] 31 (0, 0))) := ⟨h1_⟩
          have n2_ : Aside0 (w123.heap[gb411]? = some (.cells #[.slice Ao119 x412000_1.length co119] 31 (0, 0))) := ⟨h2_⟩
          have n3_ : Aside0 (w123.heap[gb452]? = some (.cells #[.slice none 0 0] 31 (0, 0))) := ⟨h3_⟩
          have n4_ : Aside0 (w.heap.size ≤ gb452) := ⟨h4_⟩
          have n5_ : Aside0 (w0.heap.size ≤ gb452) := ⟨h5_⟩
          have n6_ : Aside0 (g ≠ gb452) := ⟨h6_⟩
          have n7_ : Aside0 (gb452 ≠ g) := ⟨h7_⟩
          have n8_ : Aside0 (gb403 ≠ gb452) := ⟨h8_⟩
          have n9_ : Aside0 (gb452 ≠ gb403) := ⟨h9_⟩
          have n10_ : Aside0 (gb411 ≠ gb452) := ⟨h10_⟩
          have n11_ : Aside0 (gb452 ≠ gb411) := ⟨h11_⟩
          have n12_ : Aside0 (IsS92 w0 w123 g s0_0 t440 t441) := ⟨h12_⟩
          have n13_ : Aside0 (KeepBut w w123 g none) := ⟨h13_⟩
          have n14_ : Aside0 (Below w0.heap.size w0 w123) := ⟨h14_⟩
          clear HO_412000
          clear BK403
          clear BK411
          clear HI0
          clear HK
          clear HB
          clear h0_ h1_ h2_ h3_ h4_ h5_ h6_ h7_ h8_ h9_ h10_ h11_ h12_ h13_ h14_
          have HO_412000 := n0_
          have BK403 := n1_
          have BK411 := n2_
          have BK452 := n3_
          have GW452 := n4_
          have GE452 := n5_
          have NB0_452 := n6_
          have NB452_0 := n7_
          have NB403_452 := n8_
          have NB452_403 := n9_
          have NB411_452 := n10_
          have NB452_411 := n11_
          have HI0 := n12_
          have HK := n13_
          have HB := n14_
          clear n0_ n1_ n2_ n3_ n4_ n5_ n6_ n7_ n8_ n9_ n10_ n11_ n12_ n13_ n14_
          have hHeld : w123.cell? ⟨gb411, 0, none⟩ = some (.slice Ao119 x412000_1.length co119) := hS_
          refine np_ ?_
          refine on_ 7 67 (fun K hK => ?_)
          refine Kd.R_lit_step Kd.string _ 9 ?hg (N := 67) ?hd (xs := ([(⟨#[]⟩ : ByteArray), (⟨#[]⟩ : ByteArray), (⟨#[116, 111, 114, 110]⟩ : ByteArray), (⟨#[0, 14, 0]⟩ : ByteArray)] : List ByteArray)) (inner := [.string (⟨#[]⟩ : ByteArray), .string (⟨#[]⟩ : ByteArray), .string (⟨#[116, 111, 114, 110]⟩ : ByteArray), .string (⟨#[0, 14, 0]⟩ : ByteArray)]) (ok := fun _ => True) (okp := fun _ => True) ?hr ?hp (fun _ hk => hk) trivial (Below.refl _ _) (Nat.le_refl _) (by simp) ?_; (case hd => rfl); (case hg => rfl); (case hr => first | (go_simp; done) | (go_simp; rfl)); (case hp => exact (Reps.one (show Kd.M Kd.string _ _ _ (⟨#[]⟩ : ByteArray) [.string (⟨#[]⟩ : ByteArray)] from rfl) (Reps.one (show Kd.M Kd.string _ _ _ (⟨#[]⟩ : ByteArray) [.string (⟨#[]⟩ : ByteArray)] from rfl) (Reps.one (show Kd.M Kd.string _ _ _ (⟨#[116, 111, 114, 110]⟩ : ByteArray) [.string (⟨#[116, 111, 114, 110]⟩ : ByteArray)] from rfl) (Reps.one (show Kd.M Kd.string _ _ _ (⟨#[0, 14, 0]⟩ : ByteArray) [.string (⟨#[0, 14, 0]⟩ : ByteArray)] from rfl) (Reps.none _ _))))))
          intro v443 w124 ho125 hb hg_ hnew_
          clear hg_ hnew_
          (first | rw [← Ny442.out] at ho125 | (simp only [Int.reduceToNat] at ho125; rw [← Ny442.out] at ho125))
          replace HO_412000 := rB_ HO_412000 hb
          have HO444 := Aside0.mk (Kd.R_lower ho125 (keep_size (w := w) (g := g) (row := none) (kp3_ GW403.out GW411.out GW452.out)))
          replace BK403 := bK_ BK403 hb
          replace BK411 := bK_ BK411 hb
          replace BK452 := bK_ BK452 hb
          replace HK := Aside0.mk (KeepBut.trans (kp3_ GW403.out GW411.out GW452.out) (KeepBut.of_below hb g none) (.inl rfl))
          replace HB := Aside0.mk (below_step (hs4_ (IsS92.ge HI0.out) GE403.out GE411.out GE452.out) hb)
          replace HI0 := Aside0.mk (IsS92.below (iS92_3_ NB0_403.out NB0_411.out NB0_452.out) hb)
          clear hb ho125
          refine hK.out _ _ (bt_ BK411 0) (fun hHeld => ?_)
          clear hK K
          refine no_ ?_
          exact nq_ (hJ5_7_13 (v443, gb452) _ ⟨hHeld, (kr_ HO444.out), (kr_ HO_412000.out), (kb_ BK403.out), (kb_ BK411.out), (kb_ BK452.out), GW452.out, GE452.out, NB0_452.out, NB452_0.out, NB403_452.out, NB452_403.out, NB411_452.out, NB452_411.out, (iS92_3_ NB0_403.out NB0_411.out NB0_452.out), (kp3_ GW403.out GW411.out GW452.out), (hs4_ (IsS92.ge HI0.out) GE403.out GE411.out GE452.out)⟩)
        ·skip
         rintro v443 w124 ⟨hS_, h0_, h1_, h2_, h3_, h4_, h5_, h6_⟩
         have n0_ : Aside0 (Kd.R Kd.string 9 w124 w.heap.size (fun _ => True) v443 y442) := ⟨h0_⟩
         have n1_ : Aside0 (Kd.R k56 56 w124 w.heap.size (fun _ => True) (.slice Ao119 x412000_1.length co119) x412000_1) := ⟨h1_⟩
         have n2_ : Aside0 (w124.heap[gb403]? = some (.cells #[.slice none 0 0] 31 (0, 0))) := ⟨h2_⟩
         have n3_ : Aside0 (w124.heap[gb411]? = some (.cells #[.slice Ao119 x412000_1.length co119] 31 (0, 0))) := ⟨h3_⟩
         have n4_ : Aside0 (IsS92 w0 w124 g s0_0 t440 t441) := ⟨h4_⟩
         have n5_ : Aside0 (KeepBut w w124 g none) := ⟨h5_⟩
         have n6_ : Aside0 (Below w0.heap.size w0 w124) := ⟨h6_⟩
         clear HO_412000
         clear BK403
         clear BK411
         clear HI0
         clear HK
         clear HB
         clear h0_ h1_ h2_ h3_ h4_ h5_ h6_
         have HO444 := n0_
         have HO_412000 := n1_
         have BK403 := n2_
         have BK411 := n3_
         have HI0 := n4_
         have HK := n5_
         have HB := n6_
         clear n0_ n1_ n2_ n3_ n4_ n5_ n6_
         have hHeld : w124.cell? ⟨gb411, 0, none⟩ = some (.slice Ao119 x412000_1.length co119) := hS_
         obtain ⟨Ao125, co125, eo125⟩ := Kd.R_slice HO444.out
         (first | subst eo125 | (injection eo125 with f1_ f2_ f3_; have f4_ := f1_.symm; have f5_ := f3_.symm; clear f1_ f2_ f3_; subst f4_; subst f5_))
         refine np_ ?_
         refine two_ (i := 8) (j := 13) (Ni := some 68) (Nj := some 12) #[true, true, true, true, true, true, true, true, true, false, false, false, false, false, false, false] #[true, true, true, true, true, true, true, true, false, false, false, false, false, true, false, false] rfl rfl rfl rfl (two_of HT_.out (by kernel_rfl)) (by decide) (by decide) (fun K hK => ?_) (fun K hK => ?_)
         ·skip
          refine gs_ Try.func75 #[.pointer (some ⟨g, 0, none⟩), .slice Ao125 y442.length co125] rfl ma_ ?_
          with_reducible refine (spec_l1Cur_of.calls g s0_0 t440 t441 _ _ y442 t445 t446 t447 w0 _ ?side1 ?side2 ?side3 ?side4 ?side5 A116.out).mono ?_
          (case side1 => exact iS92_2_ NB0_403.out NB0_411.out)
          (case side2 => exact hs3_ (IsS92.ge HI0.out) GE403.out GE411.out)
          (case side3 => exact cs_ ((Kd.R_reads' HO444.out).2.2))
          (case side4 => exact (Kd.R_reads' HO444.out).2.1)
          (case side5 => exact far_slice (IsS92.own_ne HI0.out HO444.out (by decide)))
          rintro e w126 ⟨rfl, hi, hb, hk⟩
          refine ⟨_, rfl, ?_⟩
          replace HO_412000 := Aside0.mk (Kd.R_mono (Kd.R_keep (IsS92.apart (show IsS92 w0 _ g s0_0 t440 t441 from iS92_2_ NB0_403.out NB0_411.out) (kr_ HO_412000.out) (by decide)) hk (fun _ h => h.2)) (fun _ h => h.1))
          replace BK403 := Aside0.mk (KeepBut.blk hk (g' := gb403) (o := .cells #[.slice none 0 0] 31 (0, 0)) (kb_ BK403.out) NB403_0.out (by simp))
          replace BK411 := Aside0.mk (KeepBut.blk hk (g' := gb411) (o := .cells #[.slice Ao119 x412000_1.length co119] 31 (0, 0)) (kb_ BK411.out) NB411_0.out (by simp))
          replace HO444 := Aside0.mk (Kd.R_mono (Kd.R_keep (IsS92.apart (show IsS92 w0 _ g s0_0 t440 t441 from iS92_2_ NB0_403.out NB0_411.out) (kr_ HO444.out) (by decide)) hk (fun _ h => h.2)) (fun _ h => h.1))
          replace HK := Aside0.mk (KeepBut.trans (kp2_ GW403.out GW411.out) hk (.inl rfl))
          replace HB := Aside0.mk (hb)
          replace HI0 := Aside0.mk (hi)
          (try clear hb)
          (try clear hb2)
          (try clear hk)
          (try clear hi)
          refine hK.out _ _ (bt_ BK411 0) (fun hHeld => ?_)
          clear hK K
          refine no_ ?_
          exact nq_ (hJ5_7_8 (.slice Ao125 y442.length co125) _ ⟨hHeld, (kr_ HO444.out), (kr_ HO_412000.out), (kb_ BK403.out), (kb_ BK411.out), (iS92_2_ NB0_403.out NB0_411.out), (kp2_ GW403.out GW411.out), (hs3_ (IsS92.ge HI0.out) GE403.out GE411.out)⟩)
         ·skip
          refine bs_ (N := 12) #[.slice none 0 0] 31 ?_
          intro gb452 hg w125 hbox hb
          replace HO_412000 := rB_ HO_412000 hb
          replace HO444 := rB_ HO444 hb
          replace HB := Aside0.mk (below_step (hs3_ (IsS92.ge HI0.out) GE403.out GE411.out) hb)
          have BK452 := Aside0.mk (hbox)
          have GW452 := Aside0.mk ((by rw [hg]; exact (keep_size (w := w) (g := g) (row := none) (kp2_ GW403.out GW411.out)) : w.heap.size ≤ gb452))
          have GE452 := Aside0.mk ((Nat.le_trans HW0.out (by rw [hg]; exact (keep_size (w := w) (g := g) (row := none) (kp2_ GW403.out GW411.out)) : w.heap.size ≤ gb452) : w0.heap.size ≤ gb452))
          replace HK := Aside0.mk (KeepBut.trans (kp2_ GW403.out GW411.out) (KeepBut.of_below hb g none) (.inl rfl))
          have NB403_452 := nl_ BK403 hg
          have NB452_403 := ng_ BK403 hg
          replace BK403 := bK_ BK403 hb
          have NB411_452 := nl_ BK411 hg
          have NB452_411 := ng_ BK411 hg
          replace BK411 := bK_ BK411 hb
          have NB0_452 := Aside0.mk ((by rw [hg]; exact Nat.ne_of_lt (IsS92.lt (show IsS92 w0 _ g s0_0 t440 t441 from iS92_2_ NB0_403.out NB0_411.out)) : g ≠ gb452))
          have NB452_0 := Aside0.mk ((by rw [hg]; exact Nat.ne_of_gt (IsS92.lt (show IsS92 w0 _ g s0_0 t440 t441 from iS92_2_ NB0_403.out NB0_411.out)) : gb452 ≠ g))
          replace HI0 := Aside0.mk (IsS92.below (iS92_2_ NB0_403.out NB0_411.out) hb)
          clear hb hbox hg
          refine hK.out _ _ (bt_ BK411 0) (fun hHeld => ?_)
          clear hK K
          refine no_ ?_
          exact nq_ (hJ5_7_13 (.slice Ao125 y442.length co125, gb452) _ ⟨hHeld, (kr_ HO444.out), (kr_ HO_412000.out), (kb_ BK403.out), (kb_ BK411.out), (kb_ BK452.out), GW452.out, GE452.out, NB0_452.out, NB452_0.out, NB403_452.out, NB452_403.out, NB411_452.out, NB452_411.out, (iS92_3_ NB0_403.out NB0_411.out NB0_452.out), (kp3_ GW403.out GW411.out GW452.out), (hs4_ (IsS92.ge HI0.out) GE403.out GE411.out GE452.out)⟩)
       ·skip
        rintro ⟨v443, gb452⟩ w125 ⟨hS_, h0_, h1_, h2_, h3_, h4_, h5_, h6_, h7_, h8_, h9_, h10_, h11_, h12_, h13_, h14_, h15_⟩
        have n0_ : Aside0 (Kd.R Kd.string 9 w125 w.heap.size (fun _ => True) v443 y442) := ⟨h0_⟩
        have n1_ : Aside0 (Kd.R k56 56 w125 w.heap.size (fun _ => True) (.slice Ao119 x412000_1.length co119) x412000_1) := ⟨h1_⟩
        have n2_ : Aside0 (w125.heap[gb403]? = some (.cells #[.slice none 0 0] 31 (0, 0))) := ⟨h2_⟩
        have n3_ : Aside0 (w125.heap[gb411]? = some (.cells #[.slice Ao119 x412000_1.length co119] 31 (0, 0))) := ⟨h3_⟩
        have n4_ : Aside0 (w125.heap[gb452]? = some (.cells #[.slice none 0 0] 31 (0, 0))) := ⟨h4_⟩
        have n5_ : Aside0 (w.heap.size ≤ gb452) := ⟨h5_⟩
        have n6_ : Aside0 (w0.heap.size ≤ gb452) := ⟨h6_⟩
        have n7_ : Aside0 (g ≠ gb452) := ⟨h7_⟩
        have n8_ : Aside0 (gb452 ≠ g) := ⟨h8_⟩
        have n9_ : Aside0 (gb403 ≠ gb452) := ⟨h9_⟩
        have n10_ : Aside0 (gb452 ≠ gb403) := ⟨h10_⟩
        have n11_ : Aside0 (gb411 ≠ gb452) := ⟨h11_⟩
        have n12_ : Aside0 (gb452 ≠ gb411) := ⟨h12_⟩
        have n13_ : Aside0 (IsS92 w0 w125 g s0_0 t440 t441) := ⟨h13_⟩
        have n14_ : Aside0 (KeepBut w w125 g none) := ⟨h14_⟩
        have n15_ : Aside0 (Below w0.heap.size w0 w125) := ⟨h15_⟩
        clear HO_412000
        clear BK403
        clear BK411
        clear HI0
        clear HK
        clear HB
        clear h0_ h1_ h2_ h3_ h4_ h5_ h6_ h7_ h8_ h9_ h10_ h11_ h12_ h13_ h14_ h15_
        have HO444 := n0_
        have HO_412000 := n1_
        have BK403 := n2_
        have BK411 := n3_
        have BK452 := n4_
        have GW452 := n5_
        have GE452 := n6_
        have NB0_452 := n7_
        have NB452_0 := n8_
        have NB403_452 := n9_
        have NB452_403 := n10_
        have NB411_452 := n11_
        have NB452_411 := n12_
        have HI0 := n13_
        have HK := n14_
        have HB := n15_
        clear n0_ n1_ n2_ n3_ n4_ n5_ n6_ n7_ n8_ n9_ n10_ n11_ n12_ n13_ n14_ n15_
        have hHeld : w125.cell? ⟨gb411, 0, none⟩ = some (.slice Ao119 x412000_1.length co119) := hS_
        obtain ⟨Ao126, co126, eo126⟩ := Kd.R_slice HO444.out
        (first | subst eo126 | (injection eo126 with f1_ f2_ f3_; have f4_ := f1_.symm; have f5_ := f3_.symm; clear f1_ f2_ f3_; subst f4_; subst f5_))
        refine np_ ?_
        refine on_ 8 68 (fun K hK => ?_)
        refine gs_ Try.func75 #[.pointer (some ⟨g, 0, none⟩), .slice Ao126 y442.length co126] rfl ma_ ?_
        with_reducible refine (spec_l1Cur_of.calls g s0_0 t440 t441 _ _ y442 t445 t446 t447 w0 _ ?side1 ?side2 ?side3 ?side4 ?side5 A116.out).mono ?_
        (case side1 => exact iS92_3_ NB0_403.out NB0_411.out NB0_452.out)
        (case side2 => exact hs4_ (IsS92.ge HI0.out) GE403.out GE411.out GE452.out)
        (case side3 => exact cs_ ((Kd.R_reads' HO444.out).2.2))
        (case side4 => exact (Kd.R_reads' HO444.out).2.1)
        (case side5 => exact far_slice (IsS92.own_ne HI0.out HO444.out (by decide)))
        rintro e w127 ⟨rfl, hi, hb, hk⟩
        refine ⟨_, rfl, ?_⟩
        replace HO_412000 := Aside0.mk (Kd.R_mono (Kd.R_keep (IsS92.apart (show IsS92 w0 _ g s0_0 t440 t441 from iS92_3_ NB0_403.out NB0_411.out NB0_452.out) (kr_ HO_412000.out) (by decide)) hk (fun _ h => h.2)) (fun _ h => h.1))
        replace BK403 := Aside0.mk (KeepBut.blk hk (g' := gb403) (o := .cells #[.slice none 0 0] 31 (0, 0)) (kb_ BK403.out) NB403_0.out (by simp))
        replace BK411 := Aside0.mk (KeepBut.blk hk (g' := gb411) (o := .cells #[.slice Ao119 x412000_1.length co119] 31 (0, 0)) (kb_ BK411.out) NB411_0.out (by simp))
        replace HO444 := Aside0.mk (Kd.R_mono (Kd.R_keep (IsS92.apart (show IsS92 w0 _ g s0_0 t440 t441 from iS92_3_ NB0_403.out NB0_411.out NB0_452.out) (kr_ HO444.out) (by decide)) hk (fun _ h => h.2)) (fun _ h => h.1))
        replace BK452 := Aside0.mk (KeepBut.blk hk (g' := gb452) (o := .cells #[.slice none 0 0] 31 (0, 0)) (kb_ BK452.out) NB452_0.out (by simp))
        replace HK := Aside0.mk (KeepBut.trans (kp3_ GW403.out GW411.out GW452.out) hk (.inl rfl))
        replace HB := Aside0.mk (hb)
        replace HI0 := Aside0.mk (hi)
        (try clear hb)
        (try clear hb2)
        (try clear hk)
        (try clear hi)
        refine hK.out _ _ (bt_ BK411 0) (fun hHeld => ?_)
        clear hK K
        refine no_ ?_
        exact nq_ (hJ5_7_8_13 (.slice Ao126 y442.length co126, gb452) _ ⟨hHeld, (kr_ HO444.out), (kr_ HO_412000.out), (kb_ BK403.out), (kb_ BK411.out), (kb_ BK452.out), GW452.out, GE452.out, NB0_452.out, NB452_0.out, NB403_452.out, NB452_403.out, NB411_452.out, NB452_411.out, (iS92_3_ NB0_403.out NB0_411.out NB0_452.out), (kp3_ GW403.out GW411.out GW452.out), (hs4_ (IsS92.ge HI0.out) GE403.out GE411.out GE452.out)⟩)
      ·skip
       rintro v443 w126 ⟨hS_, h0_, h1_, h2_, h3_, h4_, h5_, h6_⟩
       have n0_ : Aside0 (Kd.R Kd.string 9 w126 w.heap.size (fun _ => True) v443 y442) := ⟨h0_⟩
       have n1_ : Aside0 (Kd.R k56 56 w126 w.heap.size (fun _ => True) (.slice Ao119 x412000_1.length co119) x412000_1) := ⟨h1_⟩
       have n2_ : Aside0 (w126.heap[gb403]? = some (.cells #[.slice none 0 0] 31 (0, 0))) := ⟨h2_⟩
       have n3_ : Aside0 (w126.heap[gb411]? = some (.cells #[.slice Ao119 x412000_1.length co119] 31 (0, 0))) := ⟨h3_⟩
       have n4_ : Aside0 (IsS92 w0 w126 g s0_0 t446 t447) := ⟨h4_⟩
       have n5_ : Aside0 (KeepBut w w126 g none) := ⟨h5_⟩
       have n6_ : Aside0 (Below w0.heap.size w0 w126) := ⟨h6_⟩
       clear HO_412000
       clear BK403
       clear BK411
       clear HI0
       clear HK
       clear HB
       clear h0_ h1_ h2_ h3_ h4_ h5_ h6_
       have HO444 := n0_
       have HO_412000 := n1_
       have BK403 := n2_
       have BK411 := n3_
       have HI0 := n4_
       have HK := n5_
       have HB := n6_
       clear n0_ n1_ n2_ n3_ n4_ n5_ n6_
       have hHeld : w126.cell? ⟨gb411, 0, none⟩ = some (.slice Ao119 x412000_1.length co119) := hS_
       refine np_ ?_
       refine two_ (i := 9) (j := 13) (Ni := some 69) (Nj := some 12) #[true, true, true, true, true, true, true, true, true, true, false, false, false, false, false, false] #[true, true, true, true, true, true, true, true, true, false, false, false, false, true, false, false] rfl rfl rfl rfl (two_of HT_.out (by kernel_rfl)) (by decide) (by decide) (fun K hK => ?_) (fun K hK => ?_)
       ·skip
        refine gs_ Try.func32 #[.agg #[.slice Ao119 x412000_1.length co119], .int .i64 t439, .string t445] rfl ma_ ?_
        with_reducible refine (spec_AppendTo.calls k1 _ _ x412000_1 t439 t445 t448 t451 _ ?side1 ?side2 A117.out).mono ?_
        (case side1 => exact cs_ ((Kd.R_reads' HO_412000.out).2.2))
        (case side2 => exact (Kd.R_reads' HO_412000.out).2.1)
        rintro e w127 ⟨v449, rfl, ho0, hb⟩
        refine ⟨_, rfl, ?_⟩
        replace HO444 := rB_ HO444 hb
        have HO450 := Aside0.mk (Kd.R_lower (Kd.R_new' ho0 (Kd.R_lt (kr_ HO_412000.out))) (keep_size (w := w) (g := g) (row := none) (kp2_ GW403.out GW411.out)))
        replace HO_412000 := Aside0.mk (Kd.R_elder' (kr_ HO_412000.out) (Kd.R_base ho0) hb)
        replace BK403 := bK_ BK403 hb
        replace BK411 := bK_ BK411 hb
        replace HK := Aside0.mk (KeepBut.trans (kp2_ GW403.out GW411.out) (KeepBut.of_below hb g none) (.inl rfl))
        replace HB := Aside0.mk (below_step (hs3_ (IsS92.ge HI0.out) GE403.out GE411.out) hb)
        replace HI0 := Aside0.mk (IsS92.below (iS92_2_ NB0_403.out NB0_411.out) hb)
        (try clear hb)
        (try clear hb2)
        (try clear hk)
        (try clear hi)
        (try clear ho0)
        refine hK.out _ _ (bt_ BK411 0) (fun hHeld => ?_)
        clear hK K
        refine no_ ?_
        refine pv_ 10 59 ?_
        refine pv_ 11 70 ?_
        refine pv_ 12 71 ?_
        exact nq_ (hJ5_7_8_9 (v443, v449) _ ⟨hHeld, (kr_ HO444.out), (rF_ (Kd.R_mono HO450.out (fun _ hk => hk.2))), (rF_ (Kd.R_mono HO_412000.out (fun _ hk => hk.2))), (kb_ BK403.out), (kb_ BK411.out), (iS92_2_ NB0_403.out NB0_411.out), (kp2_ GW403.out GW411.out), (hs3_ (IsS92.ge HI0.out) GE403.out GE411.out)⟩)
       ·skip
        refine bs_ (N := 12) #[.slice none 0 0] 31 ?_
        intro gb452 hg w127 hbox hb
        replace HO_412000 := rB_ HO_412000 hb
        replace HO444 := rB_ HO444 hb
        replace HB := Aside0.mk (below_step (hs3_ (IsS92.ge HI0.out) GE403.out GE411.out) hb)
        have BK452 := Aside0.mk (hbox)
        have GW452 := Aside0.mk ((by rw [hg]; exact (keep_size (w := w) (g := g) (row := none) (kp2_ GW403.out GW411.out)) : w.heap.size ≤ gb452))
        have GE452 := Aside0.mk ((Nat.le_trans HW0.out (by rw [hg]; exact (keep_size (w := w) (g := g) (row := none) (kp2_ GW403.out GW411.out)) : w.heap.size ≤ gb452) : w0.heap.size ≤ gb452))
        replace HK := Aside0.mk (KeepBut.trans (kp2_ GW403.out GW411.out) (KeepBut.of_below hb g none) (.inl rfl))
        have NB403_452 := nl_ BK403 hg
        have NB452_403 := ng_ BK403 hg
        replace BK403 := bK_ BK403 hb
        have NB411_452 := nl_ BK411 hg
        have NB452_411 := ng_ BK411 hg
        replace BK411 := bK_ BK411 hb
        have NB0_452 := Aside0.mk ((by rw [hg]; exact Nat.ne_of_lt (IsS92.lt (show IsS92 w0 _ g s0_0 t446 t447 from iS92_2_ NB0_403.out NB0_411.out)) : g ≠ gb452))
        have NB452_0 := Aside0.mk ((by rw [hg]; exact Nat.ne_of_gt (IsS92.lt (show IsS92 w0 _ g s0_0 t446 t447 from iS92_2_ NB0_403.out NB0_411.out)) : gb452 ≠ g))
        replace HI0 := Aside0.mk (IsS92.below (iS92_2_ NB0_403.out NB0_411.out) hb)
        clear hb hbox hg
        refine hK.out _ _ (bt_ BK411 0) (fun hHeld => ?_)
        clear hK K
        refine no_ ?_
        exact nq_ (hJ5_7_8_13 (v443, gb452) _ ⟨hHeld, (kr_ HO444.out), (kr_ HO_412000.out), (kb_ BK403.out), (kb_ BK411.out), (kb_ BK452.out), GW452.out, GE452.out, NB0_452.out, NB452_0.out, NB403_452.out, NB452_403.out, NB411_452.out, NB452_411.out, (iS92_3_ NB0_403.out NB0_411.out NB0_452.out), (kp3_ GW403.out GW411.out GW452.out), (hs4_ (IsS92.ge HI0.out) GE403.out GE411.out GE452.out)⟩)
     ·skip
      rintro ⟨v443, gb452⟩ w127 ⟨hS_, h0_, h1_, h2_, h3_, h4_, h5_, h6_, h7_, h8_, h9_, h10_, h11_, h12_, h13_, h14_, h15_⟩
      have n0_ : Aside0 (Kd.R Kd.string 9 w127 w.heap.size (fun _ => True) v443 y442) := ⟨h0_⟩
      have n1_ : Aside0 (Kd.R k56 56 w127 w.heap.size (fun _ => True) (.slice Ao119 x412000_1.length co119) x412000_1) := ⟨h1_⟩
      have n2_ : Aside0 (w127.heap[gb403]? = some (.cells #[.slice none 0 0] 31 (0, 0))) := ⟨h2_⟩
      have n3_ : Aside0 (w127.heap[gb411]? = some (.cells #[.slice Ao119 x412000_1.length co119] 31 (0, 0))) := ⟨h3_⟩
      have n4_ : Aside0 (w127.heap[gb452]? = some (.cells #[.slice none 0 0] 31 (0, 0))) := ⟨h4_⟩
      have n5_ : Aside0 (w.heap.size ≤ gb452) := ⟨h5_⟩
      have n6_ : Aside0 (w0.heap.size ≤ gb452) := ⟨h6_⟩
      have n7_ : Aside0 (g ≠ gb452) := ⟨h7_⟩
      have n8_ : Aside0 (gb452 ≠ g) := ⟨h8_⟩
      have n9_ : Aside0 (gb403 ≠ gb452) := ⟨h9_⟩
      have n10_ : Aside0 (gb452 ≠ gb403) := ⟨h10_⟩
      have n11_ : Aside0 (gb411 ≠ gb452) := ⟨h11_⟩
      have n12_ : Aside0 (gb452 ≠ gb411) := ⟨h12_⟩
      have n13_ : Aside0 (IsS92 w0 w127 g s0_0 t446 t447) := ⟨h13_⟩
      have n14_ : Aside0 (KeepBut w w127 g none) := ⟨h14_⟩
      have n15_ : Aside0 (Below w0.heap.size w0 w127) := ⟨h15_⟩
      clear HO_412000
      clear BK403
      clear BK411
      clear HI0
      clear HK
      clear HB
      clear h0_ h1_ h2_ h3_ h4_ h5_ h6_ h7_ h8_ h9_ h10_ h11_ h12_ h13_ h14_ h15_
      have HO444 := n0_
      have HO_412000 := n1_
      have BK403 := n2_
      have BK411 := n3_
      have BK452 := n4_
      have GW452 := n5_
      have GE452 := n6_
      have NB0_452 := n7_
      have NB452_0 := n8_
      have NB403_452 := n9_
      have NB452_403 := n10_
      have NB411_452 := n11_
      have NB452_411 := n12_
      have HI0 := n13_
      have HK := n14_
      have HB := n15_
      clear n0_ n1_ n2_ n3_ n4_ n5_ n6_ n7_ n8_ n9_ n10_ n11_ n12_ n13_ n14_ n15_
      have hHeld : w127.cell? ⟨gb411, 0, none⟩ = some (.slice Ao119 x412000_1.length co119) := hS_
      refine np_ ?_
      refine on_ 9 69 (fun K hK => ?_)
      refine gs_ Try.func32 #[.agg #[.slice Ao119 x412000_1.length co119], .int .i64 t439, .string t445] rfl ma_ ?_
      with_reducible refine (spec_AppendTo.calls k1 _ _ x412000_1 t439 t445 t448 t451 _ ?side1 ?side2 A117.out).mono ?_
      (case side1 => exact cs_ ((Kd.R_reads' HO_412000.out).2.2))
      (case side2 => exact (Kd.R_reads' HO_412000.out).2.1)
      rintro e w128 ⟨v449, rfl, ho0, hb⟩
      refine ⟨_, rfl, ?_⟩
      replace HO444 := rB_ HO444 hb
      have HO450 := Aside0.mk (Kd.R_lower (Kd.R_new' ho0 (Kd.R_lt (kr_ HO_412000.out))) (keep_size (w := w) (g := g) (row := none) (kp3_ GW403.out GW411.out GW452.out)))
      replace HO_412000 := Aside0.mk (Kd.R_elder' (kr_ HO_412000.out) (Kd.R_base ho0) hb)
      replace BK403 := bK_ BK403 hb
      replace BK411 := bK_ BK411 hb
      replace BK452 := bK_ BK452 hb
      replace HK := Aside0.mk (KeepBut.trans (kp3_ GW403.out GW411.out GW452.out) (KeepBut.of_below hb g none) (.inl rfl))
      replace HB := Aside0.mk (below_step (hs4_ (IsS92.ge HI0.out) GE403.out GE411.out GE452.out) hb)
      replace HI0 := Aside0.mk (IsS92.below (iS92_3_ NB0_403.out NB0_411.out NB0_452.out) hb)
      (try clear hb)
      (try clear hb2)
      (try clear hk)
      (try clear hi)
      (try clear ho0)
      refine hK.out _ _ (bt_ BK411 0) (fun hHeld => ?_)
      clear hK K
      refine no_ ?_
      refine pv_ 10 59 ?_
      refine pv_ 11 70 ?_
      refine pv_ 12 71 ?_
      exact nq_ (hJ5_7_8_9_13 (v443, v449, gb452) _ ⟨hHeld, (kr_ HO444.out), (rF_ (Kd.R_mono HO450.out (fun _ hk => hk.2))), (rF_ (Kd.R_mono HO_412000.out (fun _ hk => hk.2))), (kb_ BK403.out), (kb_ BK411.out), (kb_ BK452.out), GW452.out, GE452.out, NB0_452.out, NB452_0.out, NB403_452.out, NB452_403.out, NB411_452.out, NB452_411.out, (iS92_3_ NB0_403.out NB0_411.out NB0_452.out), (kp3_ GW403.out GW411.out GW452.out), (hs4_ (IsS92.ge HI0.out) GE403.out GE411.out GE452.out)⟩)
    ·skip
     rintro ⟨v443, v449⟩ w127 ⟨hS_, h0_, h1_, h2_, h3_, h4_, h5_, h6_, h7_⟩
     have n0_ : Aside0 (Kd.R Kd.string 9 w127 w.heap.size (fun _ => True) v443 y442) := ⟨h0_⟩
     have n1_ : Aside0 (Kd.R k56 56 w127 w.heap.size (fun k_ => some k_ ≠ (.slice Ao119 x412000_1.length co119 : Value).ownBlock) v449 t448) := ⟨h1_⟩
     have n2_ : Aside0 (Kd.R k56 56 w127 w.heap.size (fun k_ => some k_ ≠ (v449 : Value).ownBlock) (.slice Ao119 x412000_1.length co119) x412000_1) := ⟨h2_⟩
     have n3_ : Aside0 (w127.heap[gb403]? = some (.cells #[.slice none 0 0] 31 (0, 0))) := ⟨h3_⟩
     have n4_ : Aside0 (w127.heap[gb411]? = some (.cells #[.slice Ao119 x412000_1.length co119] 31 (0, 0))) := ⟨h4_⟩
     have n5_ : Aside0 (IsS92 w0 w127 g s0_0 t446 t447) := ⟨h5_⟩
     have n6_ : Aside0 (KeepBut w w127 g none) := ⟨h6_⟩
     have n7_ : Aside0 (Below w0.heap.size w0 w127) := ⟨h7_⟩
     clear HO_412000
     clear BK403
     clear BK411
     clear HI0
     clear HK
     clear HB
     clear h0_ h1_ h2_ h3_ h4_ h5_ h6_ h7_
     have HO444 := n0_
     have HO450 := n1_
     have HO_412000 := n2_
     have BK403 := n3_
     have BK411 := n4_
     have HI0 := n5_
     have HK := n6_
     have HB := n7_
     clear n0_ n1_ n2_ n3_ n4_ n5_ n6_ n7_
     have hHeld : w127.cell? ⟨gb411, 0, none⟩ = some (.slice Ao119 x412000_1.length co119) := hS_
     refine np_ ?_
     refine on_ 13 12 (fun K hK => ?_)
     refine bs_ (N := 12) #[.slice none 0 0] 31 ?_
     intro gb452 hg w128 hbox hb
     replace HO_412000 := rB_ HO_412000 hb
     replace HO444 := rB_ HO444 hb
     replace HO450 := rB_ HO450 hb
     replace HB := Aside0.mk (below_step (hs3_ (IsS92.ge HI0.out) GE403.out GE411.out) hb)
     have BK452 := Aside0.mk (hbox)
     have GW452 := Aside0.mk ((by rw [hg]; exact (keep_size (w := w) (g := g) (row := none) (kp2_ GW403.out GW411.out)) : w.heap.size ≤ gb452))
     have GE452 := Aside0.mk ((Nat.le_trans HW0.out (by rw [hg]; exact (keep_size (w := w) (g := g) (row := none) (kp2_ GW403.out GW411.out)) : w.heap.size ≤ gb452) : w0.heap.size ≤ gb452))
     replace HK := Aside0.mk (KeepBut.trans (kp2_ GW403.out GW411.out) (KeepBut.of_below hb g none) (.inl rfl))
     have NB403_452 := nl_ BK403 hg
     have NB452_403 := ng_ BK403 hg
     replace BK403 := bK_ BK403 hb
     have NB411_452 := nl_ BK411 hg
     have NB452_411 := ng_ BK411 hg
     replace BK411 := bK_ BK411 hb
     have NB0_452 := Aside0.mk ((by rw [hg]; exact Nat.ne_of_lt (IsS92.lt (show IsS92 w0 _ g s0_0 t446 t447 from iS92_2_ NB0_403.out NB0_411.out)) : g ≠ gb452))
     have NB452_0 := Aside0.mk ((by rw [hg]; exact Nat.ne_of_gt (IsS92.lt (show IsS92 w0 _ g s0_0 t446 t447 from iS92_2_ NB0_403.out NB0_411.out)) : gb452 ≠ g))
     replace HI0 := Aside0.mk (IsS92.below (iS92_2_ NB0_403.out NB0_411.out) hb)
     clear hb hbox hg
     refine hK.out _ _ (bt_ BK411 0) (fun hHeld => ?_)
     clear hK K
     refine no_ ?_
     exact nq_ (hJ5_7_8_9_13 (v443, v449, gb452) _ ⟨hHeld, (kr_ HO444.out), (kr_ HO450.out), (kr_ HO_412000.out), (kb_ BK403.out), (kb_ BK411.out), (kb_ BK452.out), GW452.out, GE452.out, NB0_452.out, NB452_0.out, NB403_452.out, NB452_403.out, NB411_452.out, NB452_411.out, (iS92_3_ NB0_403.out NB0_411.out NB0_452.out), (kp3_ GW403.out GW411.out GW452.out), (hs4_ (IsS92.ge HI0.out) GE403.out GE411.out GE452.out)⟩)
   rintro ⟨v443, v449, gb452⟩ w128 ⟨hS_, h0_, h1_, h2_, h3_, h4_, h5_, h6_, h7_, h8_, h9_, h10_, h11_, h12_, h13_, h14_, h15_, h16_⟩
   have n0_ : Aside0 (Kd.R Kd.string 9 w128 w.heap.size (fun _ => True) v443 y442) := ⟨h0_⟩
   have n1_ : Aside0 (Kd.R k56 56 w128 w.heap.size (fun k_ => some k_ ≠ (.slice Ao119 x412000_1.length co119 : Value).ownBlock) v449 t448) := ⟨h1_⟩
   have n2_ : Aside0 (Kd.R k56 56 w128 w.heap.size (fun k_ => some k_ ≠ (v449 : Value).ownBlock) (.slice Ao119 x412000_1.length co119) x412000_1) := ⟨h2_⟩
   have n3_ : Aside0 (w128.heap[gb403]? = some (.cells #[.slice none 0 0] 31 (0, 0))) := ⟨h3_⟩
   have n4_ : Aside0 (w128.heap[gb411]? = some (.cells #[.slice Ao119 x412000_1.length co119] 31 (0, 0))) := ⟨h4_⟩
   have n5_ : Aside0 (w128.heap[gb452]? = some (.cells #[.slice none 0 0] 31 (0, 0))) := ⟨h5_⟩
   have n6_ : Aside0 (w.heap.size ≤ gb452) := ⟨h6_⟩
   have n7_ : Aside0 (w0.heap.size ≤ gb452) := ⟨h7_⟩
   have n8_ : Aside0 (g ≠ gb452) := ⟨h8_⟩
   have n9_ : Aside0 (gb452 ≠ g) := ⟨h9_⟩
   have n10_ : Aside0 (gb403 ≠ gb452) := ⟨h10_⟩
   have n11_ : Aside0 (gb452 ≠ gb403) := ⟨h11_⟩
   have n12_ : Aside0 (gb411 ≠ gb452) := ⟨h12_⟩
   have n13_ : Aside0 (gb452 ≠ gb411) := ⟨h13_⟩
   have n14_ : Aside0 (IsS92 w0 w128 g s0_0 t446 t447) := ⟨h14_⟩
   have n15_ : Aside0 (KeepBut w w128 g none) := ⟨h15_⟩
   have n16_ : Aside0 (Below w0.heap.size w0 w128) := ⟨h16_⟩
   clear HO_412000
   clear BK403
   clear BK411
   clear HI0
   clear HK
   clear HB
   clear h0_ h1_ h2_ h3_ h4_ h5_ h6_ h7_ h8_ h9_ h10_ h11_ h12_ h13_ h14_ h15_ h16_
   have HO444 := n0_
   have HO450 := n1_
   have HO_412000 := n2_
   have BK403 := n3_
   have BK411 := n4_
   have BK452 := n5_
   have GW452 := n6_
   have GE452 := n7_
   have NB0_452 := n8_
   have NB452_0 := n9_
   have NB403_452 := n10_
   have NB452_403 := n11_
   have NB411_452 := n12_
   have NB452_411 := n13_
   have HI0 := n14_
   have HK := n15_
   have HB := n16_
   clear n0_ n1_ n2_ n3_ n4_ n5_ n6_ n7_ n8_ n9_ n10_ n11_ n12_ n13_ n14_ n15_ n16_
   have hHeld : w128.cell? ⟨gb411, 0, none⟩ = some (.slice Ao119 x412000_1.length co119) := hS_
   obtain ⟨Ao129, co129, eo129⟩ := Kd.R_slice HO450.out
   (first | subst eo129 | (injection eo129 with f1_ f2_ f3_; have f4_ := f1_.symm; have f5_ := f3_.symm; clear f1_ f2_ f3_; subst f4_; subst f5_))
   refine np_ ?_
   refine one_ (i := 14) (N := none) #[true, true, true, true, true, true, true, true, true, true, true, true, true, true, true, false] rfl rfl (one_of HT_.out (by kernel_rfl)) (by decide) (fun K hK => ?_)
   obtain ⟨hs130, hfs130⟩ := cf1_ BK452.out
   have hns130_0 := NB403_452.out
   have hns130_1 := NB411_452.out
   have hms130_0 := NB452_403.out
   have hms130_1 := NB452_411.out
   refine skip_ (w1 := ?_) (by rfl) rfl ?_ ?_
   rotate_left
   ·go_simp
    rfl
   refine hK.out _ _ (((cell_far (p := ⟨gb452, _, none⟩) NB411_452.out _).trans (hHeld))) (fun hHeld => ?_)
   clear hK K
   refine pv_ 15 13 ?_
   refine done_ (done_of HT_.out (by kernel_rfl)) ?_
   go_upto_if 72 with (fail)
   go_cut [] (fun wc => ∃ (kq : Nat) (x412000_117 : List (S56)) (u412000 : Value), Aside0 (spec_l1Cur_disk.j2 kq s0_0 t446 t447 x412000_117 = some (r1, r2, r3)) ∧ Aside0 (kq ≤ k1) ∧ Aside0 (Kd.R k56 56 wc w.heap.size (fun _ => True) u412000 x412000_117) ∧ Aside0 (wc.heap[gb403]? = some (.cells #[(.slice none 0 0)] 31 (0, 0))) ∧ Aside0 (wc.heap[gb411]? = some (.cells #[u412000] 31 (0, 0))) ∧ Aside0 (wc.heap[gb452]? = some (.cells #[(.slice Ao129 t448.length co129)] 31 (0, 0))) ∧ Aside0 (IsS92 w0 wc g s0_0 t446 t447) ∧ Aside0 (KeepBut w wc g none) ∧ Aside0 (Below w0.heap.size w0 wc))
   case first =>
    have H := HC118.out
    clear HC118
    replace H := ifb_ H
    obtain ⟨rfl, H⟩ | ⟨rfl, H⟩ := H
    rotate_left
    ·have H' := Aside0.mk H
     clear H
     go_wp2
     go_meet
     case rel => exact ⟨_, (x412000_1), (.slice Ao119 x412000_1.length co119), H', ⟨by have := HK1.out; first | omega | exact Nat.le_refl _⟩, ⟨rF_ (Kd.R_mono (Kd.R_far (p := ⟨gb452, 0, none⟩) (Kd.R_types HO_412000.out BK452.out (by decide)) (fun _ hk => hk.2) (.slice Ao129 t448.length co129)) (fun _ _ => trivial))⟩, ⟨uf_ BK403 NB403_452.out⟩, ⟨uf_ BK411 NB411_452.out⟩, ⟨up_ BK452⟩, ⟨iS92_3_ NB0_403.out NB0_411.out NB0_452.out⟩, ⟨kp3_ GW403.out GW411.out GW452.out⟩, ⟨hs4_ (IsS92.ge HI0.out) GE403.out GE411.out GE452.out⟩⟩
    have H' := Aside0.mk H
    clear H
    have hnb132 := NB452_403.out
    have hnc132 := NB403_452.out
    have hnb133 := NB452_411.out
    have hnc133 := NB411_452.out
    have hnb134 := NB452_0.out
    have hnc134 := NB0_452.out
    obtain ⟨hcz135_0, hfz135_0⟩ := cf1_ BK452.out
    have hnb136 := NB411_403.out
    have hnc136 := NB403_411.out
    have hnb137 := NB411_0.out
    have hnc137 := NB0_411.out
    obtain ⟨hcz138_0, hfz138_0⟩ := cf1_ BK411.out
    go_wp2
    go_meet
    case rel => exact ⟨_, (t448), (.slice Ao129 t448.length co129), H', ⟨by have := HK1.out; first | omega | exact Nat.le_refl _⟩, ⟨rF_ (Kd.R_mono (Kd.R_far (p := ⟨gb411, 0, none⟩) (Kd.R_far (p := ⟨gb452, 0, none⟩) (Kd.R_types (Kd.R_types HO450.out BK452.out (by decide)) BK411.out (by decide)) (fun _ hk => hk.1.2) (.slice Ao129 t448.length co129)) (fun _ hk => hk.2) (.slice Ao129 t448.length co129)) (fun _ _ => trivial))⟩, ⟨ug_ BK403 NB403_411.out NB403_452.out⟩, ⟨by (with_reducible repeat (first | refine blk_drewN ?_ _ | refine blk_drew ?_ | refine blk_alloc ?_ _)); refine blk_put (cs := #[.slice Ao119 x412000_1.length co119]) ?_ 0 _ rfl; (with_reducible repeat (first | refine blk_drewN ?_ _ | refine blk_drew ?_ | refine blk_alloc ?_ _)); refine blk_far ?_ NB411_452.out _; (with_reducible repeat (first | refine blk_drewN ?_ _ | refine blk_drew ?_ | refine blk_alloc ?_ _)); exact BK411.out⟩, ⟨by (with_reducible repeat (first | refine blk_drewN ?_ _ | refine blk_drew ?_ | refine blk_alloc ?_ _)); refine blk_far ?_ NB452_411.out _; (with_reducible repeat (first | refine blk_drewN ?_ _ | refine blk_drew ?_ | refine blk_alloc ?_ _)); refine blk_put (cs := #[.slice none 0 0]) ?_ 0 _ rfl; (with_reducible repeat (first | refine blk_drewN ?_ _ | refine blk_drew ?_ | refine blk_alloc ?_ _)); exact BK452.out⟩, ⟨iS92_3_ NB0_403.out NB0_411.out NB0_452.out⟩, ⟨kp3_ GW403.out GW411.out GW452.out⟩, ⟨hs4_ (IsS92.ge HI0.out) GE403.out GE411.out GE452.out⟩⟩
   case rest =>
    clear HC118
    obtain ⟨kq, x412000_117, u412000, HA, HJ117, HO_412000, BK403, BK411, BK452, HI0, HK, HB⟩ := hcut
    cases kq with
    | zero => exact absurd HA.out (by simp [spec_l1Cur_disk.j2])
    | succ kj117 =>
     have H := HA.out
     clear HA
     simp only [spec_l1Cur_disk.j2] at H
     replace H := bnd_ H
     obtain ⟨⟨t453, t454, t455⟩, A139, H⟩ := H
     replace H := red_ H
     replace H := ifb_ H
     obtain ⟨rfl, H⟩ | ⟨rfl, H⟩ := H
     rotate_left
     ·simp only [Option.some.injEq, Prod.mk.injEq] at H
      obtain ⟨rfl, rfl, rfl⟩ := H
      go_wp2_with (first | ((with_reducible refine gate_callee (f := 72) rfl ?_); refine gl_ 75 Try.func72 #[.pointer (some ⟨g, 0, none⟩), .int .i64 20] rfl ma_ ?_; (with_reducible refine (spec_l1Cur_one.calls g s0_0 t446 t447 20 false t454 t455 w0 _ ?side1 ?side2 A139.out).mono ?_); (case side1 => exact iS92_3_ NB0_403.out NB0_411.out NB0_452.out); (case side2 => exact hs4_ (IsS92.ge HI0.out) GE403.out GE411.out GE452.out); rintro e w160 ⟨rfl, hi, hb, hk⟩; refine ⟨_, rfl, ?_⟩; replace HO_412000 := Aside0.mk (Kd.R_mono (Kd.R_keep (IsS92.apart (show IsS92 w0 _ g s0_0 t446 t447 from iS92_3_ NB0_403.out NB0_411.out NB0_452.out) (kr_ HO_412000.out) (by decide)) hk (fun _ h => h.2)) (fun _ h => h.1)); replace BK403 := Aside0.mk (KeepBut.blk hk (g' := gb403) (o := .cells #[.slice none 0 0] 31 (0, 0)) (kb_ BK403.out) NB403_0.out (by simp)); replace BK411 := Aside0.mk (KeepBut.blk hk (g' := gb411) (o := .cells #[u412000] 31 (0, 0)) (kb_ BK411.out) NB411_0.out (by simp)); replace BK452 := Aside0.mk (KeepBut.blk hk (g' := gb452) (o := .cells #[.slice Ao129 t448.length co129] 31 (0, 0)) (kb_ BK452.out) NB452_0.out (by simp)); replace HK := Aside0.mk (KeepBut.trans (kp3_ GW403.out GW411.out GW452.out) hk (.inl rfl)); replace HB := Aside0.mk (hb); replace HI0 := Aside0.mk (hi); (try clear hb); (try clear hb2); (try clear hk); (try clear hi); have hnb161 := NB411_403.out; have hnc161 := NB403_411.out; have hnb162 := NB411_452.out; have hnc162 := NB452_411.out; have hnb163 := NB411_0.out; have hnc163 := NB0_411.out; obtain ⟨hcz164_0, hfz164_0⟩ := cf1_ BK411.out; obtain ⟨Ao165, co165, eo165⟩ := Kd.R_slice HO_412000.out; subst eo165; have hnb166 := NB403_452.out; have hnc166 := NB452_403.out; have hnb167 := NB403_0.out; have hnc167 := NB0_403.out; obtain ⟨hcz168_0, hfz168_0⟩ := cf1_ BK403.out))
      refine bodyPost_ret (results_cell_row rfl _ _ gb403 31 #[.slice Ao165 x412000_117.length co165] (0, 0) _ rfl (up_ BK403) Try.underlying31 rfl (by kernel_rfl)) rfl ?_
      exact ⟨_, er_, rF_ (Kd.R_mono (Kd.R_far (p := ⟨gb403, 0, none⟩) (Kd.R_types HO_412000.out BK403.out (by decide)) (fun _ hk => hk.2) (.slice Ao165 x412000_117.length co165)) (fun _ hk => trivial)), iS92_3_ NB0_403.out NB0_411.out NB0_452.out, hs4_ (IsS92.ge HI0.out) GE403.out GE411.out GE452.out, kp3_ GW403.out GW411.out GW452.out⟩
     replace H := ifs_ H
     obtain ⟨c141, H⟩ := H
     have c141b0 := decide_eq_true c141
     have c141b1 : decide (0 < x412000_117.length) = true := decide_eq_true (by omega)
     clear c141
     obtain ⟨y458, hy458⟩ : ∃ y_ : List Int, y_ = (([(-1), 0, (((rd_T56 x412000_117 0).f0).size : Int), wrap64 ((((rd_T56 x412000_117 0).f0).size : Int) + 1)] : List Int)) := ⟨_, rfl⟩
     replace H : ((spec_l1Cur_among.f s0_0 t454 t455 y458).bind fun bt461 => (some ((x412000_117.set (0 : Int).toNat (⟨(rd_T56 x412000_117 0).f0, bt461.1⟩ : S56)), bt461.2.1, bt461.2.2))) = some (r1, r2, r3) := by first | (rw [hy458]; with_reducible exact H) | (have H2_ := (Option.bind_some _ _).symm.trans H; rw [hy458]; with_reducible exact H2_) | (have H2_ := (Option.bind_some _ _).symm.trans H; with_reducible exact H2_) | with_reducible exact H | (rw [hy458]; exact H) | exact H
     have Ny458 := Aside0.mk hy458
     clear hy458
     replace H := bnd_ H
     obtain ⟨⟨t461, t462, t463⟩, A142, H⟩ := H
     replace H := red_ H
     obtain ⟨y464, hy464⟩ : ∃ y_ : List (S56), y_ = (x412000_117.set (0 : Int).toNat (⟨(rd_T56 x412000_117 0).f0, t461⟩ : S56)) := ⟨_, rfl⟩
     replace H : (some (y464, t462, t463)) = some (r1, r2, r3) := by first | (rw [hy464]; with_reducible exact H) | (have H2_ := (Option.bind_some _ _).symm.trans H; rw [hy464]; with_reducible exact H2_) | (have H2_ := (Option.bind_some _ _).symm.trans H; with_reducible exact H2_) | with_reducible exact H | (rw [hy464]; exact H) | exact H
     have Ny464 := Aside0.mk hy464
     clear hy464
     simp only [Option.some.injEq, Prod.mk.injEq] at H
     obtain ⟨rfl, rfl, rfl⟩ := H
     try go_wp2_with (first | ((with_reducible refine gate_callee (f := 72) rfl ?_); refine gl_ 75 Try.func72 #[.pointer (some ⟨g, 0, none⟩), .int .i64 20] rfl ma_ ?_; (with_reducible refine (spec_l1Cur_one.calls g s0_0 t446 t447 20 true t454 t455 w0 _ ?side1 ?side2 A139.out).mono ?_); (case side1 => exact iS92_3_ NB0_403.out NB0_411.out NB0_452.out); (case side2 => exact hs4_ (IsS92.ge HI0.out) GE403.out GE411.out GE452.out); rintro e w144 ⟨rfl, hi, hb, hk⟩; refine ⟨_, rfl, ?_⟩; replace HO_412000 := Aside0.mk (Kd.R_mono (Kd.R_keep (IsS92.apart (show IsS92 w0 _ g s0_0 t446 t447 from iS92_3_ NB0_403.out NB0_411.out NB0_452.out) (kr_ HO_412000.out) (by decide)) hk (fun _ h => h.2)) (fun _ h => h.1)); replace BK403 := Aside0.mk (KeepBut.blk hk (g' := gb403) (o := .cells #[.slice none 0 0] 31 (0, 0)) (kb_ BK403.out) NB403_0.out (by simp)); replace BK411 := Aside0.mk (KeepBut.blk hk (g' := gb411) (o := .cells #[u412000] 31 (0, 0)) (kb_ BK411.out) NB411_0.out (by simp)); replace BK452 := Aside0.mk (KeepBut.blk hk (g' := gb452) (o := .cells #[.slice Ao129 t448.length co129] 31 (0, 0)) (kb_ BK452.out) NB452_0.out (by simp)); replace HK := Aside0.mk (KeepBut.trans (kp3_ GW403.out GW411.out GW452.out) hk (.inl rfl)); replace HB := Aside0.mk (hb); replace HI0 := Aside0.mk (hi); (try clear hb); (try clear hb2); (try clear hk); (try clear hi)))
     replace HO_412000 := qR_ HO_412000
     replace BK403 := qK_ BK403
     replace BK411 := qK_ BK411
     replace BK452 := qK_ BK452
     replace HI0 := Aside0.mk (IsS92.drew HI0.out)
     replace HK := Aside0.mk (keep_drew HK.out)
     replace HB := qH_ HB
     obtain ⟨Ao146, co146, eo146⟩ := Kd.R_slice HO_412000.out
     (first | subst eo146 | (injection eo146 with f1_ f2_ f3_; have f4_ := f1_.symm; have f5_ := f3_.symm; clear f1_ f2_ f3_; subst f4_; subst f5_))
     have p456 : 0 ≤ (0 : Int) := (by omega)
     have q456 : 0 < (x412000_117.length : Int) := oa_
     obtain ⟨ad456, e456, hx456_0, hx456_1⟩ := at_T56 (Kd.R_reads' HO_412000.out).2.2 0 p456 q456
     cases e456
     have qi456 : (0 < x412000_117.length) = True := eq_true (by omega)
     (try rw [show ((0 : Int)).toNat = 0 from rfl] at hx456_0)
     (try rw [show 0 * 2 = 0 from rfl] at hx456_0)
     (try rw [Addr.add_zero'] at hx456_0)
     (try rw [show ((0 : Int)).toNat = 0 from rfl] at hx456_1)
     (try rw [show 0 * 2 = 0 from rfl] at hx456_1)
     (try rw [Addr.add_zero'] at hx456_1)
     replace p456 := eq_true p456
     replace q456 := eq_true q456
     have p457 : 0 ≤ (0 : Int) := (by omega)
     have q457 : 0 < (x412000_117.length : Int) := oa_
     obtain ⟨ad457, e457, hx457_0, hx457_1⟩ := at_T56 (Kd.R_reads' HO_412000.out).2.2 0 p457 q457
     obtain rfl : ad456 = ad457 := (by injection e457)
     have qi457 : (0 < x412000_117.length) = True := eq_true (by omega)
     (try rw [show ((0 : Int)).toNat = 0 from rfl] at hx457_0)
     (try rw [show 0 * 2 = 0 from rfl] at hx457_0)
     (try rw [Addr.add_zero'] at hx457_0)
     (try rw [show ((0 : Int)).toNat = 0 from rfl] at hx457_1)
     (try rw [show 0 * 2 = 0 from rfl] at hx457_1)
     (try rw [Addr.add_zero'] at hx457_1)
     replace p457 := eq_true p457
     replace q457 := eq_true q457
     refine start_ (n := 21) (S := fun w' => w'.cell? ⟨gb411, 0, none⟩ = some (.slice (some ad456) x412000_117.length co146) ∧ w'.cell? ad456 = some (.string ((rd_T56 x412000_117 0).f0)) ∧ w'.cell? ⟨ad456.block, ad456.off + 1, none⟩ = some (.int .i64 ((rd_T56 x412000_117 0).f1)) ∧ w'.cell? ad456 = some (.string ((rd_T56 x412000_117 0).f0)) ∧ w'.cell? ⟨ad456.block, ad456.off + 1, none⟩ = some (.int .i64 ((rd_T56 x412000_117 0).f1))) (ds := [20]) (List.replicate 21 false).toArray (by kernel_rfl) rfl rfl ⟨bt_ BK411 0, hx456_0, hx456_1, hx457_0, hx457_1⟩ (fun hHeld => ?_); refine with_tabW spec_l1Cur_disk.tab21 spec_l1Cur_disk.bits21 (fun HT_ HW_ => ?_)
     generalize w144.drew = w145 at HO_412000 BK403 BK411 BK452 HI0 HK HB hx456_0 hx456_1 hx457_0 hx457_1 hHeld ⊢
     refine pv_ 0 76 ?_
     refine pv_ 2 78 ?_
     refine pv_ 3 79 ?_
     refine pv_ 9 85 ?_
     refine tk_ 1 77 ?_
     refine tk_ 4 80 ?_
     refine pv_ 5 81 ?_
     refine pv_ 6 82 ?_
     refine tk_ 7 83 ?_
     refine pv_ 8 84 ?_
     refine tk_ 10 86 ?_
     refine pv_ 11 87 ?_
     refine pv_ 12 88 ?_
     refine tk_ 13 89 ?_
     refine pv_ 14 90 ?_
     refine pv_ 15 91 ?_
     refine on_ 16 92 (fun K hK => ?_)
     refine Kd.R_lit_step (Kd.int .i64) _ 3 ?hg (N := 92) ?hd (xs := ([(-1), 0, (((rd_T56 x412000_117 0).f0).size : Int), wrap64 ((((rd_T56 x412000_117 0).f0).size : Int) + 1)] : List Int)) (inner := [.int .i64 (-1), .int .i64 0, .int .i64 (((rd_T56 x412000_117 0).f0).size : Int), .int .i64 (wrap64 ((((rd_T56 x412000_117 0).f0).size : Int) + 1))]) (ok := fun _ => True) (okp := fun _ => True) ?hr ?hp (fun _ hk => hk) trivial (Below.refl _ _) (Nat.le_refl _) (by simp) ?_; (case hd => rfl); (case hg => rfl); (case hr => first | (go_simp; done) | (go_simp; rfl)); (case hp => exact (Reps.one (show Kd.M (Kd.int .i64) _ _ _ (-1) [.int .i64 (-1)] from rfl) (Reps.one (show Kd.M (Kd.int .i64) _ _ _ 0 [.int .i64 0] from rfl) (Reps.one (show Kd.M (Kd.int .i64) _ _ _ (((rd_T56 x412000_117 0).f0).size : Int) [.int .i64 (((rd_T56 x412000_117 0).f0).size : Int)] from rfl) (Reps.one (show Kd.M (Kd.int .i64) _ _ _ (wrap64 ((((rd_T56 x412000_117 0).f0).size : Int) + 1)) [.int .i64 (wrap64 ((((rd_T56 x412000_117 0).f0).size : Int) + 1))] from rfl) (Reps.none _ _))))))
     intro v459 w147 ho148 hb hg_ hnew_
     have HS1_ := (hb.cell (World.block_lt_of_cell? _ _ (hHeld.2.1))).trans (hHeld.2.1)
     have HS2_ := (hb.cell (World.block_lt_of_cell? _ _ (hHeld.2.2.1))).trans (hHeld.2.2.1)
     have HS3_ := (hb.cell (World.block_lt_of_cell? _ _ (hHeld.2.2.2.1))).trans (hHeld.2.2.2.1)
     have HS4_ := (hb.cell (World.block_lt_of_cell? _ _ (hHeld.2.2.2.2))).trans (hHeld.2.2.2.2)
     clear hg_ hnew_
     (first | rw [← Ny458.out] at ho148 | (simp only [Int.reduceToNat] at ho148; rw [← Ny458.out] at ho148))
     replace HO_412000 := rB_ HO_412000 hb
     have HO460 := Aside0.mk (Kd.R_lower ho148 (keep_size (w := w) (g := g) (row := none) (kp3_ GW403.out GW411.out GW452.out)))
     replace BK403 := bK_ BK403 hb
     replace BK411 := bK_ BK411 hb
     replace BK452 := bK_ BK452 hb
     replace HK := Aside0.mk (KeepBut.trans (kp3_ GW403.out GW411.out GW452.out) (KeepBut.of_below hb g none) (.inl rfl))
     replace HB := Aside0.mk (below_step (hs4_ (IsS92.ge HI0.out) GE403.out GE411.out GE452.out) hb)
     replace HI0 := Aside0.mk (IsS92.below (iS92_3_ NB0_403.out NB0_411.out NB0_452.out) hb)
     clear hb ho148
     obtain ⟨Ao149, co149, eo149⟩ := Kd.R_slice HO460.out
     (first | subst eo149 | (injection eo149 with f1_ f2_ f3_; have f4_ := f1_.symm; have f5_ := f3_.symm; clear f1_ f2_ f3_; subst f4_; subst f5_))
     refine hK.out _ _ ⟨bt_ BK411 0, HS1_, HS2_, HS3_, HS4_⟩ (fun hHeld => ?_)
     clear hK K
     refine no_ ?_
     refine on_ 17 93 (fun K hK => ?_)
     refine gs_ Try.func92 #[.pointer (some ⟨g, 0, none⟩), .slice Ao149 y458.length co149] rfl ma_ ?_
     with_reducible refine (spec_l1Cur_among.calls g s0_0 t454 t455 _ _ y458 t461 t462 t463 w0 _ ?side1 ?side2 ?side3 ?side4 ?side5 A142.out).mono ?_
     (case side1 => exact iS92_3_ NB0_403.out NB0_411.out NB0_452.out)
     (case side2 => exact hs4_ (IsS92.ge HI0.out) GE403.out GE411.out GE452.out)
     (case side3 => exact cs_ ((Kd.R_reads' HO460.out).2.2))
     (case side4 => exact (Kd.R_reads' HO460.out).2.1)
     (case side5 => exact far_slice (IsS92.own_ne HI0.out HO460.out (by decide)))
     rintro e w150 ⟨rfl, hi, hb, hk⟩
     have HS1_ := keep_cell hk (hHeld.2.1) (by first | (rw [add_block]; exact Kd.own_blk (IsS92.own_ne HI0.out HO_412000.out (by decide))) | (show (Addr.add _ _).block ≠ _; rw [add_block]; exact Kd.own_blk (IsS92.own_ne HI0.out HO_412000.out (by decide))) | exact Kd.own_blk (IsS92.own_ne HI0.out HO_412000.out (by decide)) | (have h_ := Kd.own_blk (IsS92.own_ne HI0.out HO_412000.out (by decide)); exact h_))
     have HS2_ := keep_cell hk (hHeld.2.2.1) (by first | (rw [add_block]; exact Kd.own_blk (IsS92.own_ne HI0.out HO_412000.out (by decide))) | (show (Addr.add _ _).block ≠ _; rw [add_block]; exact Kd.own_blk (IsS92.own_ne HI0.out HO_412000.out (by decide))) | exact Kd.own_blk (IsS92.own_ne HI0.out HO_412000.out (by decide)) | (have h_ := Kd.own_blk (IsS92.own_ne HI0.out HO_412000.out (by decide)); exact h_))
     have HS3_ := keep_cell hk (hHeld.2.2.2.1) (by first | (rw [add_block]; exact Kd.own_blk (IsS92.own_ne HI0.out HO_412000.out (by decide))) | (show (Addr.add _ _).block ≠ _; rw [add_block]; exact Kd.own_blk (IsS92.own_ne HI0.out HO_412000.out (by decide))) | exact Kd.own_blk (IsS92.own_ne HI0.out HO_412000.out (by decide)) | (have h_ := Kd.own_blk (IsS92.own_ne HI0.out HO_412000.out (by decide)); exact h_))
     have HS4_ := keep_cell hk (hHeld.2.2.2.2) (by first | (rw [add_block]; exact Kd.own_blk (IsS92.own_ne HI0.out HO_412000.out (by decide))) | (show (Addr.add _ _).block ≠ _; rw [add_block]; exact Kd.own_blk (IsS92.own_ne HI0.out HO_412000.out (by decide))) | exact Kd.own_blk (IsS92.own_ne HI0.out HO_412000.out (by decide)) | (have h_ := Kd.own_blk (IsS92.own_ne HI0.out HO_412000.out (by decide)); exact h_))
     refine ⟨_, rfl, ?_⟩
     replace HO_412000 := Aside0.mk (Kd.R_mono (Kd.R_keep (IsS92.apart (show IsS92 w0 _ g s0_0 t454 t455 from iS92_3_ NB0_403.out NB0_411.out NB0_452.out) (kr_ HO_412000.out) (by decide)) hk (fun _ h => h.2)) (fun _ h => h.1))
     replace BK403 := Aside0.mk (KeepBut.blk hk (g' := gb403) (o := .cells #[.slice none 0 0] 31 (0, 0)) (kb_ BK403.out) NB403_0.out (by simp))
     replace BK411 := Aside0.mk (KeepBut.blk hk (g' := gb411) (o := .cells #[.slice (some ad456) x412000_117.length co146] 31 (0, 0)) (kb_ BK411.out) NB411_0.out (by simp))
     replace BK452 := Aside0.mk (KeepBut.blk hk (g' := gb452) (o := .cells #[.slice Ao129 t448.length co129] 31 (0, 0)) (kb_ BK452.out) NB452_0.out (by simp))
     replace HO460 := Aside0.mk (Kd.R_mono (Kd.R_keep (IsS92.apart (show IsS92 w0 _ g s0_0 t454 t455 from iS92_3_ NB0_403.out NB0_411.out NB0_452.out) (kr_ HO460.out) (by decide)) hk (fun _ h => h.2)) (fun _ h => h.1))
     replace HK := Aside0.mk (KeepBut.trans (kp3_ GW403.out GW411.out GW452.out) hk (.inl rfl))
     replace HB := Aside0.mk (hb)
     replace HI0 := Aside0.mk (hi)
     (try clear hb)
     (try clear hb2)
     (try clear hk)
     (try clear hi)
     have p143 : 0 ≤ (0 : Int) := (by omega)
     have q143 : (0 : Int) < ((x412000_117.length : Int) : Int) := oa_
     have qi143 : (0 < x412000_117.length) = True := eq_true (by omega)
     obtain ⟨go143, co143, eo143, gb143, gl143, cl143, HG143⟩ := Kd.R_form HO_412000.out (by omega)
     (first | cases eo143 | (injection eo143 with ea_ en_ ec_; (first | subst ea_ | (injection ea_ with ea_; subst ea_)); subst ec_; clear en_))
     have GB143 := Aside0.mk gb143
     have GG143 := Aside0.mk HG143
     clear gb143 gl143 HG143
     (first | simp only [add_plain] at hx456_0 | skip)
     (first | simp only [add_plain] at hx456_1 | skip)
     (first | simp only [add_plain] at hx457_0 | skip)
     (first | simp only [add_plain] at hx457_1 | skip)
     obtain ⟨ce143, hcl143, hM143, hcc143, hfr143⟩ := Kd.R_elem HO_412000.out z56 (0 : Int) p143 q143
     obtain rfl := k56_openM hM143
     have hx143_0 : World.cell? _ ⟨go143, (0 : Int).toNat * 2, none⟩ = some (.string ((rd_T56 x412000_117 0).f0)) := hcc143 0 _ rfl
     have hx143_1 : World.cell? _ ⟨go143, (0 : Int).toNat * 2 + 1, none⟩ = some (.int .i64 ((rd_T56 x412000_117 0).f1)) := hcc143 1 _ rfl
     have hf143_0 : World.frozen? _ ⟨go143, (0 : Int).toNat * 2, none⟩ = false := hfr143 0
     have hf143_1 : World.frozen? _ ⟨go143, (0 : Int).toNat * 2 + 1, none⟩ = false := hfr143 1
     clear hcl143 hcc143 hfr143; (try clear hM143)
     (try rw [show ((0 : Int)).toNat = 0 from rfl] at hx143_0)
     (try simp only [Nat.reduceMul, Nat.zero_mul, Nat.zero_add, Nat.reduceAdd] at hx143_0)
     (try rw [show ((0 : Int)).toNat = 0 from rfl] at hf143_0)
     (try simp only [Nat.reduceMul, Nat.zero_mul, Nat.zero_add, Nat.reduceAdd] at hf143_0)
     (try rw [show ((0 : Int)).toNat = 0 from rfl] at hx143_1)
     (try simp only [Nat.reduceMul, Nat.zero_mul, Nat.zero_add, Nat.reduceAdd] at hx143_1)
     (try rw [show ((0 : Int)).toNat = 0 from rfl] at hf143_1)
     (try simp only [Nat.reduceMul, Nat.zero_mul, Nat.zero_add, Nat.reduceAdd] at hf143_1)
     replace p143 := eq_true p143
     replace q143 := eq_true q143
     have HN0_go143 := Aside0.mk (show g ≠ go143 from by have h_ := IsS92.own_ne HI0.out HO_412000.out (by decide); intro e_; exact h_ (by rw [e_]; rfl))
     obtain ⟨ce151, hcl151, hM151, hcc151, hfr151⟩ := Kd.R_elem HO_412000.out z56 (0 : Int) (by omega) (by have h_ : (0 : Int) < ((x412000_117.length : Int) : Int) := oa_; first | exact h_ | (have e_ := (Kd.R_reads' HO_412000.out).1; omega) | simpa using h_)
     obtain rfl := k56_openM hM151
     have HP151 := (Kd.R_seg HO_412000.out (0 : Int) (by omega) (by have h_ : (0 : Int) < ((x412000_117.length : Int) : Int) := oa_; first | exact h_ | (have e_ := (Kd.R_reads' HO_412000.out).1; omega) | simpa using h_) (seg := [.int .i64 t461]) (j := 1) hcl151 hcc151 (show 2 ≤ 2 from by decide) (x' := (⟨(rd_T56 x412000_117 0).f0, t461⟩ : S56)) (k56_mkM _ _ _ (⟨(rd_T56 x412000_117 0).f0, t461⟩ : S56) ) (fun _ hk => hk)).1
     rw [← Ny464.out] at HP151
     have HQ151 := Aside0.mk HP151
     clear hcl151 hcc151 hfr151 HP151; (try clear hM151)
     refine hK.out _ _ ⟨bt_ BK411 0, HS1_, HS2_, HS3_, HS4_⟩ (fun hHeld => ?_)
     clear hK K
     refine no_ ?_
     refine pv_ 18 94 ?_
     refine pv_ 19 95 ?_
     refine last_ (i := 20) (N := none) #[true, true, true, true, true, true, true, true, true, true, true, true, true, true, true, true, true, true, true, true, true] rfl rfl (one_of HT_.out (by kernel_rfl)) (by decide) (fun K hK => ?_)
     refine skip_ (w1 := ?_) (by rfl) rfl ?_ ?_
     rotate_left
     ·go_simp
      rfl
     refine hK.out _ _ ?_
     clear hK K
     refine done_ (done_of HT_.out (by kernel_rfl)) ?_
     have n0_ : Aside0 (Kd.R k56 56 (w150.setCell ⟨go143, 1, none⟩ (.int .i64 t461)) w.heap.size (fun _ => True) (.slice (some ⟨go143, 0, none⟩) x412000_117.length co146) y464) := ⟨kr_ HQ151.out⟩
     have n2_ : Aside0 (Kd.R (Kd.int .i64) 3 (w150.setCell ⟨go143, 1, none⟩ (.int .i64 t461)) w.heap.size (fun _ => True) (.slice Ao149 y458.length co149) y458) := ⟨rF_ (Kd.R_mono (Kd.R_far (p := ⟨go143, 1, none⟩) (Kd.R_types HO460.out GG143.out (by decide)) (fun _ hk => hk.2) (.int .i64 t461)) (fun _ hk => trivial))⟩
     have n3_ : Aside0 ((w150.setCell ⟨go143, 1, none⟩ (.int .i64 t461)).heap[gb403]? = some (.cells #[.slice none 0 0] 31 (0, 0))) := ⟨by (with_reducible repeat (first | refine blk_drewN ?_ _ | refine blk_drew ?_ | refine blk_alloc ?_ _)); refine blk_far ?_ (by have h_ := Kd.R_ne HO_412000.out BK403.out (by decide); intro e_; exact h_ (by rw [e_]; rfl)) _; (with_reducible repeat (first | refine blk_drewN ?_ _ | refine blk_drew ?_ | refine blk_alloc ?_ _)); exact BK403.out⟩
     have n4_ : Aside0 ((w150.setCell ⟨go143, 1, none⟩ (.int .i64 t461)).heap[gb411]? = some (.cells #[.slice (some ⟨go143, 0, none⟩) x412000_117.length co146] 31 (0, 0))) := ⟨by (with_reducible repeat (first | refine blk_drewN ?_ _ | refine blk_drew ?_ | refine blk_alloc ?_ _)); refine blk_far ?_ (by have h_ := Kd.R_ne HO_412000.out BK411.out (by decide); intro e_; exact h_ (by rw [e_]; rfl)) _; (with_reducible repeat (first | refine blk_drewN ?_ _ | refine blk_drew ?_ | refine blk_alloc ?_ _)); exact BK411.out⟩
     have n5_ : Aside0 ((w150.setCell ⟨go143, 1, none⟩ (.int .i64 t461)).heap[gb452]? = some (.cells #[.slice Ao129 t448.length co129] 31 (0, 0))) := ⟨by (with_reducible repeat (first | refine blk_drewN ?_ _ | refine blk_drew ?_ | refine blk_alloc ?_ _)); refine blk_far ?_ (by have h_ := Kd.R_ne HO_412000.out BK452.out (by decide); intro e_; exact h_ (by rw [e_]; rfl)) _; (with_reducible repeat (first | refine blk_drewN ?_ _ | refine blk_drew ?_ | refine blk_alloc ?_ _)); exact BK452.out⟩
     have n6_ : Aside0 (IsS92 w0 (w150.setCell ⟨go143, 1, none⟩ (.int .i64 t461)) g s0_0 t462 t463) := ⟨iS92_4_ HN0_go143.out NB0_403.out NB0_411.out NB0_452.out⟩
     have n7_ : Aside0 (KeepBut w (w150.setCell ⟨go143, 1, none⟩ (.int .i64 t461)) g none) := ⟨kp4_ GB143.out GW403.out GW411.out GW452.out⟩
     have n8_ : Aside0 (Below w0.heap.size w0 (w150.setCell ⟨go143, 1, none⟩ (.int .i64 t461))) := ⟨hs5_ (Nat.le_trans HL.out GB143.out) (IsS92.ge HI0.out) GE403.out GE411.out GE452.out⟩
     (try clear HO_412000)
     (try clear HO460)
     (try clear BK403)
     (try clear BK411)
     (try clear BK452)
     (try clear HI0)
     (try clear HK)
     (try clear HB)
     generalize (w150.setCell ⟨go143, 1, none⟩ (.int .i64 t461)) = w152 at n0_ n2_ n3_ n4_ n5_ n6_ n7_ n8_ ⊢
     have HO_412000 := n0_
     have HO460 := n2_
     have BK403 := n3_
     have BK411 := n4_
     have BK452 := n5_
     have HI0 := n6_
     have HK := n7_
     have HB := n8_
     clear n0_ n2_ n3_ n4_ n5_ n6_ n7_ n8_
     have hnb153 := NB411_403.out
     have hnc153 := NB403_411.out
     have hnb154 := NB411_452.out
     have hnc154 := NB452_411.out
     have hnb155 := NB411_0.out
     have hnc155 := NB0_411.out
     obtain ⟨hcz156_0, hfz156_0⟩ := cf1_ BK411.out
     have hnb157 := NB403_452.out
     have hnc157 := NB452_403.out
     have hnb158 := NB403_0.out
     have hnc158 := NB0_403.out
     obtain ⟨hcz159_0, hfz159_0⟩ := cf1_ BK403.out
     try go_wp2
     refine bodyPost_ret (results_cell_row rfl _ _ gb403 31 #[.slice (some ⟨go143, 0, none⟩) x412000_117.length co146] (0, 0) _ rfl (up_ BK403) Try.underlying31 rfl (by kernel_rfl)) rfl ?_
     exact ⟨_, er_, rF_ (Kd.R_mono (Kd.R_far (p := ⟨gb403, 0, none⟩) (Kd.R_types HO_412000.out BK403.out (by decide)) (fun _ hk => hk.2) (.slice (some ⟨go143, 0, none⟩) x412000_117.length co146)) (fun _ hk => trivial)), iS92_3_ NB0_403.out NB0_411.out NB0_452.out, hs4_ (IsS92.ge HI0.out) GE403.out GE411.out GE452.out, kp3_ GW403.out GW411.out GW452.out⟩
end Go.Proofs.Ytpdpipfkllfhmaa.QFnTorn
