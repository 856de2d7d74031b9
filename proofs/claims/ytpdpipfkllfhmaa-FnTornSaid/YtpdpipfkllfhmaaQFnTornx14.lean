/- Functions that one statement reaches: of each a plain function, and the proof that calls come to it. Conditions: those that each contract names. Written by a program of this repository. -/
import Derived.Test.YtpdpipfkllfhmaaVFnTorna
import Derived.Test.YtpdpipfkllfhmaaQFnTornx2
import Derived.Test.YtpdpipfkllfhmaaQFnTornx13
namespace Go.Proofs.Ytpdpipfkllfhmaa.QFnTorn
open Go.RowKit Go.Proofs.YtpdpipfkllfhmaaW.PrintWords Go.Proofs.YtpdpipfkllfhmaaW.PrintLast Go.Proofs.YtpdpipfkllfhmaaW.PrintMore
attribute [local go_sem] max2_int min2_int max_two min_two max_three min_three max_four min_four Go.Proofs.YtpdpipfkllfhmaaW.PrintMore2.isSome_setCell   -- for this text's walks alone
set_option linter.unusedVariables false
set_option linter.unusedSimpArgs false

/-! ### spec_l1Cur_batch: function 71 -/
def spec_l1Cur_batch.l0 : Nat → Int → List Int → Int → Int → Int → Int → Int → Int → List ByteArray → Option (Int × Int × Int × Int × List ByteArray × Int × Int)
 | 0, _, _, _, _, _, _, _, _, _ => none
 | k + 1, x4, x1000, x1001, x1002, x375000, x375001, x375002, x375003, x375004 => if x4 > 0 then ((spec_l1Cur_recordText.f x1000 x1001 x1002).bind fun bt378 => (if x375004.length < 8796093022208 then (spec_l1Cur_batch.l0 k (wrap64 (x4 - 1)) x1000 bt378.2.1 bt378.2.2 x375000 x375001 x375002 x375003 (x375004 ++ [bt378.1])) else (none))) else ((spec_l1Cur_pick.f x1000 x1001 x1002 40).bind fun bt384 => (if bt384.1 = 0 then ((spec_l1Cur_among.f x1000 bt384.2.1 bt384.2.2 (([(-1), 100000, 100001] : List Int))).bind fun bt390 => (some (bt390.1, x375001, x375002, x375003, x375004, bt390.2.1, bt390.2.2))) else (if bt384.1 = 1 then (some (x375000, x375001, x375002, x375003, ([] : List ByteArray), bt384.2.1, bt384.2.2)) else (if bt384.1 = 2 then ((spec_l1Cur_among.f x1000 bt384.2.1 bt384.2.2 (([(-1), 1000, 1001] : List Int))).bind fun bt396 => (some (x375000, bt396.1, x375002, x375003, x375004, bt396.2.1, bt396.2.2))) else (if bt384.1 = 3 then (if 0 < (x375004.length : Int) then (some (x375000, x375001, x375002, x375003, (x375004.set (0 : Int).toNat (⟨#[97, 32, 116, 101, 120, 116, 32, 111, 102, 32, 109, 111, 114, 101, 32, 116, 104, 97, 110, 32, 50, 48]⟩ : ByteArray)), bt384.2.1, bt384.2.2)) else (none)) else (some (x375000, x375001, x375002, x375003, x375004, bt384.2.1, bt384.2.2)))))))
def spec_l1Cur_batch.f (k : Nat) (s0_0 : List Int) (s0_1 : Int) (s0_2 : Int) : Option (Int × Int × Int × Int × List ByteArray × Int × Int) := (spec_l1Cur_pick.f s0_0 s0_1 s0_2 50).bind fun bt362 => ((spec_l1Cur_pick.f s0_0 bt362.2.1 bt362.2.2 4).bind fun bt365 => ((spec_l1Cur_pick.f s0_0 bt365.2.1 bt365.2.2 3).bind fun bt368 => ((spec_l1Cur_pick.f s0_0 bt368.2.1 bt368.2.2 9).bind fun bt371 => ((spec_l1Cur_pick.f s0_0 bt371.2.1 bt371.2.2 3).bind fun bt375 => (spec_l1Cur_batch.l0 k (wrap64 (1 + bt375.1)) s0_0 bt375.2.1 bt375.2.2 bt362.1 bt365.1 bt368.1 bt371.1 ([] : List ByteArray))))))
theorem spec_l1Cur_batch.mono_l : ∀ k, (∀ y0 y1 y2 y3 y4 y5 y6 y7 y8, LeO (spec_l1Cur_batch.l0 k y0 y1 y2 y3 y4 y5 y6 y7 y8) (spec_l1Cur_batch.l0 (k + 1) y0 y1 y2 y3 y4 y5 y6 y7 y8))
 | 0 => fun _ _ _ _ _ _ _ _ _ r h => by simp [spec_l1Cur_batch.l0] at h
 | k + 1 => by
  have ih0 := spec_l1Cur_batch.mono_l k
  ·intro y0 y1 y2 y3 y4 y5 y6 y7 y8
   unfold spec_l1Cur_batch.l0
   repeat' first
   | (with_reducible first | apply ih0 | exact LeO.refl _ | exact LeO.none _ | refine LeO.ite ?_ ?_ | refine LeO.bind ?_ (fun _ => ?_))
theorem spec_l1Cur_batch.mono : ∀ a0 a1 a2 k, LeO (spec_l1Cur_batch.f k a0 a1 a2) (spec_l1Cur_batch.f (k + 1) a0 a1 a2) := by
 intro a0 a1 a2 k
 have ih0 := spec_l1Cur_batch.mono_l k
 unfold spec_l1Cur_batch.f
 repeat' first
   | (with_reducible first | apply ih0 | exact LeO.refl _ | exact LeO.none _ | refine LeO.ite ?_ ?_ | refine LeO.bind ?_ (fun _ => ?_))
def spec_l1Cur_batch.T5 : Bool × List (List Nat × List Nat) := (true, [([], []), ([0], [0]), ([], []), ([2], [2]), ([3], [3]), ([1, 4, 3], [1, 4]), ([0, 1, 2, 3, 4, 5], []), ([6, 5, 5, 0, 1, 2, 3, 4, 5], [5, 6])])
def spec_l1Cur_batch.B5 : List Nat := [0, 1, 0, 4, 12, 31, 63, 127]
theorem spec_l1Cur_batch.tab5 : rtab .any (opsOf Try.f71 5) = spec_l1Cur_batch.T5 := by kernel_rfl
theorem spec_l1Cur_batch.bits5 : waitsOk spec_l1Cur_batch.T5.2 spec_l1Cur_batch.B5 = true := by kernel_rfl
set_option maxHeartbeats 8000000 in
set_option maxRecDepth 100000 in
theorem spec_l1Cur_batch.calls (k : Nat) (g : Nat) (s0_0 : List Int) (s0_1 : Int) (s0_2 : Int) (r1 : Int) (r2 : Int) (r3 : Int) (r4 : Int) (r5 : List ByteArray) (r6 : Int) (r7 : Int) (w0 w : World) (hI : IsS92 w0 w g s0_0 s0_1 s0_2) (hB : Below w0.heap.size w0 w) (h : spec_l1Cur_batch.f k s0_0 s0_1 s0_2 = some (r1, r2, r3, r4, r5, r6, r7)) :
  Calls Try.prog 71 #[.pointer (some ⟨g, 0, none⟩)] w fun e w' => ∃ v4_ : Value, e = .returned (.agg #[.int .i64 r1, .int .i64 r2, .int .i64 r3, .int .i64 r4, v4_]) ∧ Kd.R Kd.string 9 w' w.heap.size (fun _ => True) v4_ r5 ∧ IsS92 w0 w' g s0_0 r6 r7 ∧ Below w0.heap.size w0 w' ∧ KeepBut w w' g none := by
 have hu44 := Try.underlying44
 have HI0 := Aside0.mk hI
 have HK := Aside0.mk (KeepBut.refl w g none)
 have HL := Aside0.mk hB.size
 clear hI
 have HW0 := Aside0.mk hB.size
 have HB := Aside0.mk hB
 clear hB
 have H : ((spec_l1Cur_pick.f s0_0 s0_1 s0_2 50).bind fun bt362 => ((spec_l1Cur_pick.f s0_0 bt362.2.1 bt362.2.2 4).bind fun bt365 => ((spec_l1Cur_pick.f s0_0 bt365.2.1 bt365.2.2 3).bind fun bt368 => ((spec_l1Cur_pick.f s0_0 bt368.2.1 bt368.2.2 9).bind fun bt371 => ((spec_l1Cur_pick.f s0_0 bt371.2.1 bt371.2.2 3).bind fun bt375 => (spec_l1Cur_batch.l0 k (wrap64 (1 + bt375.1)) s0_0 bt375.2.1 bt375.2.2 bt362.1 bt365.1 bt368.1 bt371.1 ([] : List ByteArray))))))) = some (r1, r2, r3, r4, r5, r6, r7) := h
 clear h
 replace H := bnd_ H
 obtain ⟨⟨t362, t363, t364⟩, A2, H⟩ := H
 replace H := red_ H
 replace H := bnd_ H
 obtain ⟨⟨t365, t366, t367⟩, A3, H⟩ := H
 replace H := red_ H
 replace H := bnd_ H
 obtain ⟨⟨t368, t369, t370⟩, A4, H⟩ := H
 replace H := red_ H
 replace H := bnd_ H
 obtain ⟨⟨t371, t372, t373⟩, A5, H⟩ := H
 replace H := red_ H
 replace H := bnd_ H
 obtain ⟨⟨t375, t376, t377⟩, A6, H⟩ := H
 replace H := red_ H
 have H' := Aside0.mk H
 clear H
 go_enter Try.func71, Try.ntmps71
 go_wp2_with (first | ((with_reducible refine gate_dst (N := 2) rfl ?_); refine bq_ (N := 2) #[.int .i64 0, .int .i64 0, .int .i64 0, .int .i64 0, .slice none 0 0] 44 ?_; intro gb361 hg w7 BK361 hb; replace HB := Aside0.mk (below_step (hs_ (IsS92.ge HI0.out)) hb); have GW361 := Aside0.mk ((by rw [hg]; exact (keep_size (w := w) (g := g) (row := none) (kp0_)) : w.heap.size ≤ gb361)); have GE361 := Aside0.mk ((Nat.le_trans HW0.out (by rw [hg]; exact (keep_size (w := w) (g := g) (row := none) (kp0_)) : w.heap.size ≤ gb361) : w0.heap.size ≤ gb361)); replace HK := Aside0.mk (KeepBut.trans (kp0_) (KeepBut.of_below hb g none) (.inl rfl)); have NB0_361 := Aside0.mk ((by rw [hg]; exact Nat.ne_of_lt (IsS92.lt (show IsS92 w0 _ g s0_0 s0_1 s0_2 from iS92_0_)) : g ≠ gb361)); have NB361_0 := Aside0.mk ((by rw [hg]; exact Nat.ne_of_gt (IsS92.lt (show IsS92 w0 _ g s0_0 s0_1 s0_2 from iS92_0_)) : gb361 ≠ g)); replace HI0 := Aside0.mk (IsS92.below (iS92_0_) hb); clear hb hg) | ((with_reducible refine gate_callee (f := 74) rfl ?_); refine gl_ 6 Try.func74 #[.pointer (some ⟨g, 0, none⟩), .int .i64 50] rfl ma_ ?_; (with_reducible refine (spec_l1Cur_pick.calls g s0_0 s0_1 s0_2 50 t362 t363 t364 w0 _ ?side1 ?side2 A2.out).mono ?_); (case side1 => exact iS92_1_ NB0_361.out); (case side2 => exact hs2_ (IsS92.ge HI0.out) GE361.out); rintro e w8 ⟨rfl, hi, hb, hk⟩; refine ⟨_, rfl, ?_⟩; replace BK361 := Aside0.mk (KeepBut.blk hk (g' := gb361) (o := .cells #[.int .i64 0, .int .i64 0, .int .i64 0, .int .i64 0, .slice none 0 0] 44 (0, 0)) (kb_ BK361.out) NB361_0.out (by simp)); replace HK := Aside0.mk (KeepBut.trans (kp1_ GW361.out) hk (.inl rfl)); replace HB := Aside0.mk (hb); replace HI0 := Aside0.mk (hi); (try clear hb); (try clear hb2); (try clear hk); (try clear hi)) | ((with_reducible refine gate_callee (f := 74) rfl ?_); refine gl_ 8 Try.func74 #[.pointer (some ⟨g, 0, none⟩), .int .i64 4] rfl ma_ ?_; (with_reducible refine (spec_l1Cur_pick.calls g s0_0 t363 t364 4 t365 t366 t367 w0 _ ?side1 ?side2 A3.out).mono ?_); (case side1 => exact iS92_1_ NB0_361.out); (case side2 => exact hs2_ (IsS92.ge HI0.out) GE361.out); rintro e w9 ⟨rfl, hi, hb, hk⟩; refine ⟨_, rfl, ?_⟩; replace BK361 := Aside0.mk (KeepBut.blk hk (g' := gb361) (o := .cells #[.int .i64 0, .int .i64 0, .int .i64 0, .int .i64 0, .slice none 0 0] 44 (0, 0)) (kb_ BK361.out) NB361_0.out (by simp)); replace HK := Aside0.mk (KeepBut.trans (kp1_ GW361.out) hk (.inl rfl)); replace HB := Aside0.mk (hb); replace HI0 := Aside0.mk (hi); (try clear hb); (try clear hb2); (try clear hk); (try clear hi)) | ((with_reducible refine gate_callee (f := 74) rfl ?_); refine gl_ 10 Try.func74 #[.pointer (some ⟨g, 0, none⟩), .int .i64 3] rfl ma_ ?_; (with_reducible refine (spec_l1Cur_pick.calls g s0_0 t366 t367 3 t368 t369 t370 w0 _ ?side1 ?side2 A4.out).mono ?_); (case side1 => exact iS92_1_ NB0_361.out); (case side2 => exact hs2_ (IsS92.ge HI0.out) GE361.out); rintro e w10 ⟨rfl, hi, hb, hk⟩; refine ⟨_, rfl, ?_⟩; replace BK361 := Aside0.mk (KeepBut.blk hk (g' := gb361) (o := .cells #[.int .i64 0, .int .i64 0, .int .i64 0, .int .i64 0, .slice none 0 0] 44 (0, 0)) (kb_ BK361.out) NB361_0.out (by simp)); replace HK := Aside0.mk (KeepBut.trans (kp1_ GW361.out) hk (.inl rfl)); replace HB := Aside0.mk (hb); replace HI0 := Aside0.mk (hi); (try clear hb); (try clear hb2); (try clear hk); (try clear hi)) | ((with_reducible refine gate_callee (f := 74) rfl ?_); refine gl_ 12 Try.func74 #[.pointer (some ⟨g, 0, none⟩), .int .i64 9] rfl ma_ ?_; (with_reducible refine (spec_l1Cur_pick.calls g s0_0 t369 t370 9 t371 t372 t373 w0 _ ?side1 ?side2 A5.out).mono ?_); (case side1 => exact iS92_1_ NB0_361.out); (case side2 => exact hs2_ (IsS92.ge HI0.out) GE361.out); rintro e w11 ⟨rfl, hi, hb, hk⟩; refine ⟨_, rfl, ?_⟩; replace BK361 := Aside0.mk (KeepBut.blk hk (g' := gb361) (o := .cells #[.int .i64 0, .int .i64 0, .int .i64 0, .int .i64 0, .slice none 0 0] 44 (0, 0)) (kb_ BK361.out) NB361_0.out (by simp)); replace HK := Aside0.mk (KeepBut.trans (kp1_ GW361.out) hk (.inl rfl)); replace HB := Aside0.mk (hb); replace HI0 := Aside0.mk (hi); (try clear hb); (try clear hb2); (try clear hk); (try clear hi)) | ((with_reducible refine gate_dst (N := 3) rfl ?_); refine bq_ (N := 3) #[.int .i64 0, .int .i64 0, .int .i64 0, .int .i64 0, .slice none 0 0] 44 ?_; intro gb374 hg w12 BK374 hb; replace HB := Aside0.mk (below_step (hs2_ (IsS92.ge HI0.out) GE361.out) hb); have GW374 := Aside0.mk ((by rw [hg]; exact (keep_size (w := w) (g := g) (row := none) (kp1_ GW361.out)) : w.heap.size ≤ gb374)); have GE374 := Aside0.mk ((Nat.le_trans HW0.out (by rw [hg]; exact (keep_size (w := w) (g := g) (row := none) (kp1_ GW361.out)) : w.heap.size ≤ gb374) : w0.heap.size ≤ gb374)); replace HK := Aside0.mk (KeepBut.trans (kp1_ GW361.out) (KeepBut.of_below hb g none) (.inl rfl)); have NB361_374 := nl_ BK361 hg; have NB374_361 := ng_ BK361 hg; replace BK361 := bK_ BK361 hb; have NB0_374 := Aside0.mk ((by rw [hg]; exact Nat.ne_of_lt (IsS92.lt (show IsS92 w0 _ g s0_0 t372 t373 from iS92_1_ NB0_361.out)) : g ≠ gb374)); have NB374_0 := Aside0.mk ((by rw [hg]; exact Nat.ne_of_gt (IsS92.lt (show IsS92 w0 _ g s0_0 t372 t373 from iS92_1_ NB0_361.out)) : gb374 ≠ g)); replace HI0 := Aside0.mk (IsS92.below (iS92_1_ NB0_361.out) hb); clear hb hg; have hnb13 := NB374_361.out; have hnc13 := NB361_374.out; have hnb14 := NB374_0.out; have hnc14 := NB0_374.out; obtain ⟨hcz15_0, hcz15_1, hcz15_2, hcz15_3, hcz15_4, hfz15_0, hfz15_1, hfz15_2, hfz15_3, hfz15_4⟩ := cf5_ BK374.out) | ((with_reducible refine gate_callee (f := 74) rfl ?_); refine gl_ 15 Try.func74 #[.pointer (some ⟨g, 0, none⟩), .int .i64 3] rfl ma_ ?_; (with_reducible refine (spec_l1Cur_pick.calls g s0_0 t372 t373 3 t375 t376 t377 w0 _ ?side1 ?side2 A6.out).mono ?_); (case side1 => exact iS92_2_ NB0_361.out NB0_374.out); (case side2 => exact hs3_ (IsS92.ge HI0.out) GE361.out GE374.out); rintro e w16 ⟨rfl, hi, hb, hk⟩; refine ⟨_, rfl, ?_⟩; replace BK361 := Aside0.mk (KeepBut.blk hk (g' := gb361) (o := .cells #[.int .i64 0, .int .i64 0, .int .i64 0, .int .i64 0, .slice none 0 0] 44 (0, 0)) (uf_ BK361 NB361_374.out) NB361_0.out (by simp)); replace BK374 := Aside0.mk (KeepBut.blk hk (g' := gb374) (o := .cells #[.int .i64 t362, .int .i64 t365, .int .i64 t368, .int .i64 t371, .slice none 0 0] 44 (0, 0)) (up_ BK374) NB374_0.out (by simp)); replace HK := Aside0.mk (KeepBut.trans (kp2_ GW361.out GW374.out) hk (.inl rfl)); replace HB := Aside0.mk (hb); replace HI0 := Aside0.mk (hi); (try clear hb); (try clear hb2); (try clear hk); (try clear hi)))
 go_loopg [4] k (fun kq v4 w' => ∃ (x4_1 : Int) (x1001_1 : Int) (x1002_1 : Int) (x375004_1 : List ByteArray) (u375004 : Value), v4 = .int .i64 x4_1 ∧ Aside0 (spec_l1Cur_batch.l0 kq x4_1 s0_0 x1001_1 x1002_1 t362 t365 t368 t371 x375004_1 = some (r1, r2, r3, r4, r5, r6, r7)) ∧ Aside0 (kq ≤ k) ∧ Aside0 (Kd.R Kd.string 9 w' w.heap.size (fun _ => True) u375004 x375004_1) ∧ Aside0 (w'.heap[gb361]? = some (.cells #[.int .i64 0, .int .i64 0, .int .i64 0, .int .i64 0, (.slice none 0 0)] 44 (0, 0))) ∧ Aside0 (w'.heap[gb374]? = some (.cells #[.int .i64 t362, .int .i64 t365, .int .i64 t368, .int .i64 t371, u375004] 44 (0, 0))) ∧ Aside0 (IsS92 w0 w' g s0_0 x1001_1 x1002_1) ∧ Aside0 (KeepBut w w' g none) ∧ Aside0 (Below w0.heap.size w0 w'))
 case atStart => exact ⟨(wrap64 (1 + t375)), (t376), (t377), (([] : List ByteArray)), (.slice none 0 0), sr_, H', ⟨Nat.le_refl _⟩, ⟨ni_⟩, ⟨kb_ BK361.out⟩, ⟨kb_ BK374.out⟩, ⟨iS92_2_ NB0_361.out NB0_374.out⟩, ⟨kp2_ GW361.out GW374.out⟩, ⟨hs3_ (IsS92.ge HI0.out) GE361.out GE374.out⟩⟩
 case round =>
  clear H'
  try clear hcz15_0
  try clear hcz15_1
  try clear hcz15_2
  try clear hcz15_3
  try clear hcz15_4
  try clear hfz15_0
  try clear hfz15_1
  try clear hfz15_2
  try clear hfz15_3
  try clear hfz15_4
  obtain ⟨x4_1, x1001_1, x1002_1, x375004_1, u375004, rfl, HA, HK1, HO_375004, BK361, BK374, HI0, HK, HB⟩ := hrel
  cases gk with
  | zero => exact absurd HA.out (by simp [spec_l1Cur_batch.l0])
  | succ k1 =>
   have H := HA.out
   clear HA
   simp only [spec_l1Cur_batch.l0] at H
   replace H := ite_ H
   obtain ⟨c17, H⟩ | ⟨c17, H⟩ := H
   ·have c17b0 := dgt_ c17
    clear c17
    replace H := bnd_ H
    obtain ⟨⟨t378, t379, t380⟩, A18, H⟩ := H
    replace H := red_ H
    replace H := ifs_ H
    obtain ⟨c19, H⟩ := H
    have LMc19 := Aside0.mk c19
    clear c19
    obtain ⟨y381, hy381⟩ : ∃ y_ : List ByteArray, y_ = (x375004_1 ++ [t378]) := ⟨_, rfl⟩
    replace H : (spec_l1Cur_batch.l0 k1 (wrap64 (x4_1 - 1)) s0_0 t379 t380 t362 t365 t368 t371 y381) = some (r1, r2, r3, r4, r5, r6, r7) := by first | (rw [hy381]; with_reducible exact H) | (have H2_ := (Option.bind_some _ _).symm.trans H; rw [hy381]; with_reducible exact H2_) | (have H2_ := (Option.bind_some _ _).symm.trans H; with_reducible exact H2_) | with_reducible exact H | (rw [hy381]; exact H) | exact H
    have Ny381 := Aside0.mk hy381
    clear hy381
    have H' := Aside0.mk H
    clear H
    try go_wp2
    replace HO_375004 := qR_ HO_375004
    replace BK361 := qK_ BK361
    replace BK374 := qK_ BK374
    replace HI0 := Aside0.mk (IsS92.drew HI0.out)
    replace HK := Aside0.mk (keep_drew HK.out)
    replace HB := qH_ HB
    refine start_ (n := 8) (S := fun w' => w'.cell? ⟨gb374, 0, none⟩ = some (.int .i64 t362) ∧ w'.cell? ⟨gb374, 1, none⟩ = some (.int .i64 t365) ∧ w'.cell? ⟨gb374, 2, none⟩ = some (.int .i64 t368) ∧ w'.cell? ⟨gb374, 3, none⟩ = some (.int .i64 t371) ∧ w'.cell? ⟨gb374, 4, none⟩ = some (u375004)) (ds := [7]) #[false, false, false, false, false, false, false, false] (by kernel_rfl) rfl rfl ⟨bt_ BK374 0, bt_ BK374 1, bt_ BK374 2, bt_ BK374 3, bt_ BK374 4⟩ (fun hHeld => ?_); refine with_tabW spec_l1Cur_batch.tab5 spec_l1Cur_batch.bits5 (fun HT_ HW_ => ?_)
    generalize wr.drew = w20 at HO_375004 BK361 BK374 HI0 HK HB hHeld ⊢
    refine pv_ 0 21 ?_
    refine pv_ 2 23 ?_
    refine tk_ 1 22 ?_
    refine on_ 3 24 (fun K hK => ?_)
    refine gs_ Try.func93 #[.pointer (some ⟨g, 0, none⟩)] rfl ma_ ?_
    with_reducible refine (spec_l1Cur_recordText.calls g s0_0 x1001_1 x1002_1 t378 t379 t380 w0 _ ?side1 ?side2 A18.out).mono ?_
    (case side1 => exact iS92_2_ NB0_361.out NB0_374.out)
    (case side2 => exact hs3_ (IsS92.ge HI0.out) GE361.out GE374.out)
    rintro e w21 ⟨rfl, hi, hb, hk⟩
    refine ⟨_, rfl, ?_⟩
    replace HO_375004 := Aside0.mk (Kd.R_mono (Kd.R_keep (IsS92.apart (show IsS92 w0 _ g s0_0 x1001_1 x1002_1 from iS92_2_ NB0_361.out NB0_374.out) (kr_ HO_375004.out) (by decide)) hk (fun _ h => h.2)) (fun _ h => h.1))
    replace BK361 := Aside0.mk (KeepBut.blk hk (g' := gb361) (o := .cells #[.int .i64 0, .int .i64 0, .int .i64 0, .int .i64 0, .slice none 0 0] 44 (0, 0)) (kb_ BK361.out) NB361_0.out (by simp))
    replace BK374 := Aside0.mk (KeepBut.blk hk (g' := gb374) (o := .cells #[.int .i64 t362, .int .i64 t365, .int .i64 t368, .int .i64 t371, u375004] 44 (0, 0)) (kb_ BK374.out) NB374_0.out (by simp))
    replace HK := Aside0.mk (KeepBut.trans (kp2_ GW361.out GW374.out) hk (.inl rfl))
    replace HB := Aside0.mk (hb)
    replace HI0 := Aside0.mk (hi)
    (try clear hb)
    (try clear hb2)
    (try clear hk)
    (try clear hi)
    refine hK.out _ _ ⟨bt_ BK374 0, bt_ BK374 1, bt_ BK374 2, bt_ BK374 3, bt_ BK374 4⟩ (fun hHeld => ?_)
    clear hK K
    refine no_ ?_
    refine on_ 4 25 (fun K hK => ?_)
    refine value_ (w1 := ?_) (v := ?_) (by rfl) rfl ?_ ?_
    rotate_left 2
    ·go_simp
     constructor
     ·rfl
     ·rfl
    refine hK.out _ _ ⟨(blk_cell (blk_alloc BK374.out _) 0).trans rfl, (blk_cell (blk_alloc BK374.out _) 1).trans rfl, (blk_cell (blk_alloc BK374.out _) 2).trans rfl, (blk_cell (blk_alloc BK374.out _) 3).trans rfl, (blk_cell (blk_alloc BK374.out _) 4).trans rfl⟩ (fun hHeld => ?_)
    clear hK K
    refine no_ ?_
    refine on_ 5 26 (fun K hK => ?_)
    refine Kd.R_append_step Kd.string w.heap.size (by rfl) (.tmp 22) (.tmp 25) 38 9 (.string ⟨#[]⟩) 16 rfl Try.underlying38 info9 rfl (by decide) (by omega) u375004 x375004_1 t378 [.string t378] (fun _ => True) (fun _ => False) rfl rfl ?aP (fun _ hk => hk.elim) ?aF ?aO (Below.refl _ _) ?aS ?aL ?_
    (case aP => exact rfl)
    (case aF => exact (fun _ _ => trivial))
    (case aO => exact (kr_ HO_375004.out))
    (case aS => exact (keep_size (w := w) (g := g) (row := none) (kp2_ GW361.out GW374.out)))
    (case aL => have := LMc19.out; omega)
    intro v382 w22 ho hb hg hat
    rw [← Ny381.out] at ho
    replace BK361 := Aside0.mk (blk_grown (g := gb361) (o := .cells #[.int .i64 0, .int .i64 0, .int .i64 0, .int .i64 0, .slice none 0 0] 44 (0, 0)) (kb_ BK361.out) hg (Kd.R_ne HO_375004.out BK361.out (by decide)))
    replace BK374 := Aside0.mk (blk_grown (g := gb374) (o := .cells #[.int .i64 t362, .int .i64 t365, .int .i64 t368, .int .i64 t371, u375004] 44 (0, 0)) (kb_ BK374.out) hg (Kd.R_ne HO_375004.out BK374.out (by decide)))
    replace HB := Aside0.mk (below_weaken (hs3_ (IsS92.ge HI0.out) GE361.out GE374.out) HL.out hb)
    replace HI0 := Aside0.mk (IsS92.grown (iS92_2_ NB0_361.out NB0_374.out) hg (IsS92.own_ne HI0.out HO_375004.out (by decide)))
    replace HK := Aside0.mk (KeepBut.trans (kp2_ GW361.out GW374.out) (KeepBut.of_grown hg g) (Kd.R_base2 HO_375004.out))
    have HO383 := Aside0.mk (ho)
    clear HO_375004
    clear ho hb hg hat
    obtain ⟨Ao23, co23, eo23⟩ := Kd.R_slice HO383.out
    (first | subst eo23 | (injection eo23 with f1_ f2_ f3_; have f4_ := f1_.symm; have f5_ := f3_.symm; clear f1_ f2_ f3_; subst f4_; subst f5_))
    refine hK.out _ _ ⟨bt_ BK374 0, bt_ BK374 1, bt_ BK374 2, bt_ BK374 3, bt_ BK374 4⟩ (fun hHeld => ?_)
    clear hK K
    refine no_ ?_
    refine pv_ 6 27 ?_
    refine last_ (i := 7) (N := none) #[true, true, true, true, true, true, true, true] rfl rfl (one_of HT_.out (by kernel_rfl)) (by decide) (fun K hK => ?_)
    have hs24 : w22.cell? ⟨gb374, 4, none⟩ = some (u375004) := bt_ BK374 4
    have hfs24 := blk_frozen BK374.out 4
    have hns24_0 := NB361_374.out
    have hms24_0 := NB374_361.out
    refine skip_ (w1 := ?_) (by rfl) rfl ?_ ?_
    rotate_left
    ·go_simp
     rfl
    refine hK.out _ _ ?_
    clear hK K
    refine done_ (done_of HT_.out (by kernel_rfl)) ?_
    try go_wp2
    go_roundg k1
    case measure => have := HK1.out; omega
    case rel => exact ⟨(wrap64 (x4_1 - 1)), (t379), (t380), (y381), (.slice Ao23 y381.length co23), sr_, H', ⟨by have := HK1.out; omega⟩, ⟨rF_ (Kd.R_mono (Kd.R_far (p := ⟨gb374, 4, none⟩) (Kd.R_types HO383.out BK374.out (by decide)) (fun _ hk => hk.2) (.slice Ao23 y381.length co23)) (fun _ hk => trivial))⟩, ⟨uf_ BK361 NB361_374.out⟩, ⟨up_ BK374⟩, ⟨iS92_2_ NB0_361.out NB0_374.out⟩, ⟨kp2_ GW361.out GW374.out⟩, ⟨hs3_ (IsS92.ge HI0.out) GE361.out GE374.out⟩⟩
   have c17b0 := dgf_ c17
   clear c17
   replace H := bnd_ H
   obtain ⟨⟨t384, t385, t386⟩, A25, H⟩ := H
   replace H := red_ H
   replace H := ite_ H
   obtain ⟨c26, H⟩ | ⟨c26, H⟩ := H
   ·have c26b0 : (t384 == 0) = true := beq_iff_eq.mpr c26
    have c26b1 : (t384 != 0) = false := bne_eq_false_iff_eq.mpr c26
    clear c26
    obtain ⟨y387, hy387⟩ : ∃ y_ : List Int, y_ = (([(-1), 100000, 100001] : List Int)) := ⟨_, rfl⟩
    replace H : ((spec_l1Cur_among.f s0_0 t385 t386 y387).bind fun bt390 => (some (bt390.1, t365, t368, t371, x375004_1, bt390.2.1, bt390.2.2))) = some (r1, r2, r3, r4, r5, r6, r7) := by first | (rw [hy387]; with_reducible exact H) | (have H2_ := (Option.bind_some _ _).symm.trans H; rw [hy387]; with_reducible exact H2_) | (have H2_ := (Option.bind_some _ _).symm.trans H; with_reducible exact H2_) | with_reducible exact H | (rw [hy387]; exact H) | exact H
    have Ny387 := Aside0.mk hy387
    clear hy387
    replace H := bnd_ H
    obtain ⟨⟨t390, t391, t392⟩, A27, H⟩ := H
    replace H := red_ H
    simp only [Option.some.injEq, Prod.mk.injEq] at H
    obtain ⟨rfl, rfl, rfl, rfl, rfl, rfl, rfl⟩ := H
    go_wp2_with (first | ((with_reducible refine gate_callee (f := 74) rfl ?_); refine gl_ 29 Try.func74 #[.pointer (some ⟨g, 0, none⟩), .int .i64 40] rfl ma_ ?_; (with_reducible refine (spec_l1Cur_pick.calls g s0_0 x1001_1 x1002_1 40 t384 t385 t386 w0 _ ?side1 ?side2 A25.out).mono ?_); (case side1 => exact iS92_2_ NB0_361.out NB0_374.out); (case side2 => exact hs3_ (IsS92.ge HI0.out) GE361.out GE374.out); rintro e w28 ⟨rfl, hi, hb, hk⟩; refine ⟨_, rfl, ?_⟩; replace HO_375004 := Aside0.mk (Kd.R_mono (Kd.R_keep (IsS92.apart (show IsS92 w0 _ g s0_0 x1001_1 x1002_1 from iS92_2_ NB0_361.out NB0_374.out) (kr_ HO_375004.out) (by decide)) hk (fun _ h => h.2)) (fun _ h => h.1)); replace BK361 := Aside0.mk (KeepBut.blk hk (g' := gb361) (o := .cells #[.int .i64 0, .int .i64 0, .int .i64 0, .int .i64 0, .slice none 0 0] 44 (0, 0)) (kb_ BK361.out) NB361_0.out (by simp)); replace BK374 := Aside0.mk (KeepBut.blk hk (g' := gb374) (o := .cells #[.int .i64 t362, .int .i64 t365, .int .i64 t368, .int .i64 t371, u375004] 44 (0, 0)) (kb_ BK374.out) NB374_0.out (by simp)); replace HK := Aside0.mk (KeepBut.trans (kp2_ GW361.out GW374.out) hk (.inl rfl)); replace HB := Aside0.mk (hb); replace HI0 := Aside0.mk (hi); (try clear hb); (try clear hb2); (try clear hk); (try clear hi)) | ((with_reducible refine gate_dst (N := 33) rfl ?_); refine Kd.R_lit (Kd.int .i64) _ 3 ?hg (N := 33) ?hd (xs := ([(-1), 100000, 100001] : List Int)) (inner := [.int .i64 (-1), .int .i64 100000, .int .i64 100001]) (ok := fun _ => True) (okp := fun _ => True) ?hr ?hp (fun _ hk => hk) trivial (Below.refl _ _) (Nat.le_refl _) (by simp) ?_; (case hd => rfl); (case hg => rfl); (case hr => first | (go_simp; done) | (go_simp; rfl)); (case hp => exact (Reps.one (show Kd.M (Kd.int .i64) _ _ _ (-1) [.int .i64 (-1)] from rfl) (Reps.one (show Kd.M (Kd.int .i64) _ _ _ 100000 [.int .i64 100000] from rfl) (Reps.one (show Kd.M (Kd.int .i64) _ _ _ 100001 [.int .i64 100001] from rfl) (Reps.none _ _))))); intro v388 w29 ho30 hb hg_ hnew_; clear hg_ hnew_; (first | rw [← Ny387.out] at ho30 | (simp only [Int.reduceToNat] at ho30; rw [← Ny387.out] at ho30)); replace HO_375004 := rB_ HO_375004 hb; have HO389 := Aside0.mk (Kd.R_lower ho30 (keep_size (w := w) (g := g) (row := none) (kp2_ GW361.out GW374.out))); replace BK361 := bK_ BK361 hb; replace BK374 := bK_ BK374 hb; replace HK := Aside0.mk (KeepBut.trans (kp2_ GW361.out GW374.out) (KeepBut.of_below hb g none) (.inl rfl)); replace HB := Aside0.mk (below_step (hs3_ (IsS92.ge HI0.out) GE361.out GE374.out) hb); replace HI0 := Aside0.mk (IsS92.below (iS92_2_ NB0_361.out NB0_374.out) hb); clear hb ho30; obtain ⟨Ao31, co31, eo31⟩ := Kd.R_slice HO389.out; subst eo31) | ((with_reducible refine gate_callee (f := 92) rfl ?_); refine gl_ 34 Try.func92 #[.pointer (some ⟨g, 0, none⟩), .slice Ao31 y387.length co31] rfl ma_ ?_; (with_reducible refine (spec_l1Cur_among.calls g s0_0 t385 t386 _ _ y387 t390 t391 t392 w0 _ ?side1 ?side2 ?side3 ?side4 ?side5 A27.out).mono ?_); (case side1 => exact iS92_2_ NB0_361.out NB0_374.out); (case side2 => exact hs3_ (IsS92.ge HI0.out) GE361.out GE374.out); (case side3 => exact cs_ ((Kd.R_reads' HO389.out).2.2)); (case side4 => exact (Kd.R_reads' HO389.out).2.1); (case side5 => exact far_slice (IsS92.own_ne HI0.out HO389.out (by decide))); rintro e w32 ⟨rfl, hi, hb, hk⟩; refine ⟨_, rfl, ?_⟩; replace HO_375004 := Aside0.mk (Kd.R_mono (Kd.R_keep (IsS92.apart (show IsS92 w0 _ g s0_0 t385 t386 from iS92_2_ NB0_361.out NB0_374.out) (kr_ HO_375004.out) (by decide)) hk (fun _ h => h.2)) (fun _ h => h.1)); replace BK361 := Aside0.mk (KeepBut.blk hk (g' := gb361) (o := .cells #[.int .i64 0, .int .i64 0, .int .i64 0, .int .i64 0, .slice none 0 0] 44 (0, 0)) (kb_ BK361.out) NB361_0.out (by simp)); replace BK374 := Aside0.mk (KeepBut.blk hk (g' := gb374) (o := .cells #[.int .i64 t362, .int .i64 t365, .int .i64 t368, .int .i64 t371, u375004] 44 (0, 0)) (kb_ BK374.out) NB374_0.out (by simp)); replace HO389 := Aside0.mk (Kd.R_mono (Kd.R_keep (IsS92.apart (show IsS92 w0 _ g s0_0 t385 t386 from iS92_2_ NB0_361.out NB0_374.out) (kr_ HO389.out) (by decide)) hk (fun _ h => h.2)) (fun _ h => h.1)); replace HK := Aside0.mk (KeepBut.trans (kp2_ GW361.out GW374.out) hk (.inl rfl)); replace HB := Aside0.mk (hb); replace HI0 := Aside0.mk (hi); (try clear hb); (try clear hb2); (try clear hk); (try clear hi); have hnb33 := NB374_361.out; have hnc33 := NB361_374.out; have hnb34 := NB374_0.out; have hnc34 := NB0_374.out; obtain ⟨hcz35_0, hcz35_1, hcz35_2, hcz35_3, hcz35_4, hfz35_0, hfz35_1, hfz35_2, hfz35_3, hfz35_4⟩ := cf5_ BK374.out; have hnb36 := NB361_0.out; have hnc36 := NB0_361.out; obtain ⟨hcz37_0, hcz37_1, hcz37_2, hcz37_3, hcz37_4, hfz37_0, hfz37_1, hfz37_2, hfz37_3, hfz37_4⟩ := cf5_ BK361.out; obtain ⟨Ao38, co38, eo38⟩ := Kd.R_slice HO_375004.out; subst eo38))
    refine bodyPost_ret (results_cell_row rfl _ _ gb361 44 #[.int .i64 t390, .int .i64 t365, .int .i64 t368, .int .i64 t371, .slice Ao38 x375004_1.length co38] (0, 0) _ rfl (by (with_reducible repeat (first | refine blk_drewN ?_ _ | refine blk_drew ?_ | refine blk_alloc ?_ _)); refine blk_put (cs := #[.int .i64 t390, .int .i64 t365, .int .i64 t368, .int .i64 t371, .slice none 0 0]) ?_ 4 _ rfl; (with_reducible repeat (first | refine blk_drewN ?_ _ | refine blk_drew ?_ | refine blk_alloc ?_ _)); refine blk_put (cs := #[.int .i64 t390, .int .i64 t365, .int .i64 t368, .int .i64 0, .slice none 0 0]) ?_ 3 _ rfl; (with_reducible repeat (first | refine blk_drewN ?_ _ | refine blk_drew ?_ | refine blk_alloc ?_ _)); refine blk_put (cs := #[.int .i64 t390, .int .i64 t365, .int .i64 0, .int .i64 0, .slice none 0 0]) ?_ 2 _ rfl; (with_reducible repeat (first | refine blk_drewN ?_ _ | refine blk_drew ?_ | refine blk_alloc ?_ _)); refine blk_put (cs := #[.int .i64 t390, .int .i64 0, .int .i64 0, .int .i64 0, .slice none 0 0]) ?_ 1 _ rfl; (with_reducible repeat (first | refine blk_drewN ?_ _ | refine blk_drew ?_ | refine blk_alloc ?_ _)); refine blk_put (cs := #[.int .i64 0, .int .i64 0, .int .i64 0, .int .i64 0, .slice none 0 0]) ?_ 0 _ rfl; (with_reducible repeat (first | refine blk_drewN ?_ _ | refine blk_drew ?_ | refine blk_alloc ?_ _)); refine blk_far ?_ NB361_374.out _; (with_reducible repeat (first | refine blk_drewN ?_ _ | refine blk_drew ?_ | refine blk_alloc ?_ _)); exact BK361.out) Try.underlying44 rfl (by kernel_rfl)) rfl ?_
    exact ⟨_, er_, Kd.R_mono (rF_ (Kd.R_far (p := ⟨gb374, 0, none⟩) (Kd.R_types (Kd.R_types HO_375004.out BK374.out (by decide)) BK361.out (by decide)) (fun _ hk => hk.1.2) (.int .i64 t390))) (fun _ hk => trivial), iS92_2_ NB0_361.out NB0_374.out, hs3_ (IsS92.ge HI0.out) GE361.out GE374.out, kp2_ GW361.out GW374.out⟩
   have c26b0 : (t384 == 0) = false := beq_eq_false_iff_ne.mpr c26
   have c26b1 : (t384 != 0) = true := bne_iff_ne.mpr c26
   replace H := ite_ H
   obtain ⟨c39, H⟩ | ⟨c39, H⟩ := H
   ·have c39b0 : (t384 == 1) = true := beq_iff_eq.mpr c39
    have c39b1 : (t384 != 1) = false := bne_eq_false_iff_eq.mpr c39
    clear c39
    simp only [Option.some.injEq, Prod.mk.injEq] at H
    obtain ⟨rfl, rfl, rfl, rfl, rfl, rfl, rfl⟩ := H
    go_wp2_with (first | ((with_reducible refine gate_callee (f := 74) rfl ?_); refine gl_ 29 Try.func74 #[.pointer (some ⟨g, 0, none⟩), .int .i64 40] rfl ma_ ?_; (with_reducible refine (spec_l1Cur_pick.calls g s0_0 x1001_1 x1002_1 40 t384 t385 t386 w0 _ ?side1 ?side2 A25.out).mono ?_); (case side1 => exact iS92_2_ NB0_361.out NB0_374.out); (case side2 => exact hs3_ (IsS92.ge HI0.out) GE361.out GE374.out); rintro e w40 ⟨rfl, hi, hb, hk⟩; refine ⟨_, rfl, ?_⟩; replace HO_375004 := Aside0.mk (Kd.R_mono (Kd.R_keep (IsS92.apart (show IsS92 w0 _ g s0_0 x1001_1 x1002_1 from iS92_2_ NB0_361.out NB0_374.out) (kr_ HO_375004.out) (by decide)) hk (fun _ h => h.2)) (fun _ h => h.1)); replace BK361 := Aside0.mk (KeepBut.blk hk (g' := gb361) (o := .cells #[.int .i64 0, .int .i64 0, .int .i64 0, .int .i64 0, .slice none 0 0] 44 (0, 0)) (kb_ BK361.out) NB361_0.out (by simp)); replace BK374 := Aside0.mk (KeepBut.blk hk (g' := gb374) (o := .cells #[.int .i64 t362, .int .i64 t365, .int .i64 t368, .int .i64 t371, u375004] 44 (0, 0)) (kb_ BK374.out) NB374_0.out (by simp)); replace HK := Aside0.mk (KeepBut.trans (kp2_ GW361.out GW374.out) hk (.inl rfl)); replace HB := Aside0.mk (hb); replace HI0 := Aside0.mk (hi); (try clear hb); (try clear hb2); (try clear hk); (try clear hi); have hnb41 := NB374_361.out; have hnc41 := NB361_374.out; have hnb42 := NB374_0.out; have hnc42 := NB0_374.out; obtain ⟨hcz43_0, hcz43_1, hcz43_2, hcz43_3, hcz43_4, hfz43_0, hfz43_1, hfz43_2, hfz43_3, hfz43_4⟩ := cf5_ BK374.out; have hnb44 := NB361_0.out; have hnc44 := NB0_361.out; obtain ⟨hcz45_0, hcz45_1, hcz45_2, hcz45_3, hcz45_4, hfz45_0, hfz45_1, hfz45_2, hfz45_3, hfz45_4⟩ := cf5_ BK361.out))
    refine bodyPost_ret (results_cell_row rfl _ _ gb361 44 #[.int .i64 t362, .int .i64 t365, .int .i64 t368, .int .i64 t371, .slice none 0 0] (0, 0) _ rfl (by (with_reducible repeat (first | refine blk_drewN ?_ _ | refine blk_drew ?_ | refine blk_alloc ?_ _)); refine blk_put (cs := #[.int .i64 t362, .int .i64 t365, .int .i64 t368, .int .i64 t371, .slice none 0 0]) ?_ 4 _ rfl; (with_reducible repeat (first | refine blk_drewN ?_ _ | refine blk_drew ?_ | refine blk_alloc ?_ _)); refine blk_put (cs := #[.int .i64 t362, .int .i64 t365, .int .i64 t368, .int .i64 0, .slice none 0 0]) ?_ 3 _ rfl; (with_reducible repeat (first | refine blk_drewN ?_ _ | refine blk_drew ?_ | refine blk_alloc ?_ _)); refine blk_put (cs := #[.int .i64 t362, .int .i64 t365, .int .i64 0, .int .i64 0, .slice none 0 0]) ?_ 2 _ rfl; (with_reducible repeat (first | refine blk_drewN ?_ _ | refine blk_drew ?_ | refine blk_alloc ?_ _)); refine blk_put (cs := #[.int .i64 t362, .int .i64 0, .int .i64 0, .int .i64 0, .slice none 0 0]) ?_ 1 _ rfl; (with_reducible repeat (first | refine blk_drewN ?_ _ | refine blk_drew ?_ | refine blk_alloc ?_ _)); refine blk_put (cs := #[.int .i64 0, .int .i64 0, .int .i64 0, .int .i64 0, .slice none 0 0]) ?_ 0 _ rfl; (with_reducible repeat (first | refine blk_drewN ?_ _ | refine blk_drew ?_ | refine blk_alloc ?_ _)); refine blk_far ?_ NB361_374.out _; (with_reducible repeat (first | refine blk_drewN ?_ _ | refine blk_drew ?_ | refine blk_alloc ?_ _)); exact BK361.out) Try.underlying44 rfl (by kernel_rfl)) rfl ?_
    exact ⟨_, er_, ni_, iS92_2_ NB0_361.out NB0_374.out, hs3_ (IsS92.ge HI0.out) GE361.out GE374.out, kp2_ GW361.out GW374.out⟩
   have c39b0 : (t384 == 1) = false := beq_eq_false_iff_ne.mpr c39
   have c39b1 : (t384 != 1) = true := bne_iff_ne.mpr c39
   replace H := ite_ H
   obtain ⟨c46, H⟩ | ⟨c46, H⟩ := H
   ·have c46b0 : (t384 == 2) = true := beq_iff_eq.mpr c46
    have c46b1 : (t384 != 2) = false := bne_eq_false_iff_eq.mpr c46
    clear c46
    obtain ⟨y393, hy393⟩ : ∃ y_ : List Int, y_ = (([(-1), 1000, 1001] : List Int)) := ⟨_, rfl⟩
    replace H : ((spec_l1Cur_among.f s0_0 t385 t386 y393).bind fun bt396 => (some (t362, bt396.1, t368, t371, x375004_1, bt396.2.1, bt396.2.2))) = some (r1, r2, r3, r4, r5, r6, r7) := by first | (rw [hy393]; with_reducible exact H) | (have H2_ := (Option.bind_some _ _).symm.trans H; rw [hy393]; with_reducible exact H2_) | (have H2_ := (Option.bind_some _ _).symm.trans H; with_reducible exact H2_) | with_reducible exact H | (rw [hy393]; exact H) | exact H
    have Ny393 := Aside0.mk hy393
    clear hy393
    replace H := bnd_ H
    obtain ⟨⟨t396, t397, t398⟩, A47, H⟩ := H
    replace H := red_ H
    simp only [Option.some.injEq, Prod.mk.injEq] at H
    obtain ⟨rfl, rfl, rfl, rfl, rfl, rfl, rfl⟩ := H
    go_wp2_with (first | ((with_reducible refine gate_callee (f := 74) rfl ?_); refine gl_ 29 Try.func74 #[.pointer (some ⟨g, 0, none⟩), .int .i64 40] rfl ma_ ?_; (with_reducible refine (spec_l1Cur_pick.calls g s0_0 x1001_1 x1002_1 40 t384 t385 t386 w0 _ ?side1 ?side2 A25.out).mono ?_); (case side1 => exact iS92_2_ NB0_361.out NB0_374.out); (case side2 => exact hs3_ (IsS92.ge HI0.out) GE361.out GE374.out); rintro e w48 ⟨rfl, hi, hb, hk⟩; refine ⟨_, rfl, ?_⟩; replace HO_375004 := Aside0.mk (Kd.R_mono (Kd.R_keep (IsS92.apart (show IsS92 w0 _ g s0_0 x1001_1 x1002_1 from iS92_2_ NB0_361.out NB0_374.out) (kr_ HO_375004.out) (by decide)) hk (fun _ h => h.2)) (fun _ h => h.1)); replace BK361 := Aside0.mk (KeepBut.blk hk (g' := gb361) (o := .cells #[.int .i64 0, .int .i64 0, .int .i64 0, .int .i64 0, .slice none 0 0] 44 (0, 0)) (kb_ BK361.out) NB361_0.out (by simp)); replace BK374 := Aside0.mk (KeepBut.blk hk (g' := gb374) (o := .cells #[.int .i64 t362, .int .i64 t365, .int .i64 t368, .int .i64 t371, u375004] 44 (0, 0)) (kb_ BK374.out) NB374_0.out (by simp)); replace HK := Aside0.mk (KeepBut.trans (kp2_ GW361.out GW374.out) hk (.inl rfl)); replace HB := Aside0.mk (hb); replace HI0 := Aside0.mk (hi); (try clear hb); (try clear hb2); (try clear hk); (try clear hi)) | ((with_reducible refine gate_dst (N := 42) rfl ?_); refine Kd.R_lit (Kd.int .i64) _ 3 ?hg (N := 42) ?hd (xs := ([(-1), 1000, 1001] : List Int)) (inner := [.int .i64 (-1), .int .i64 1000, .int .i64 1001]) (ok := fun _ => True) (okp := fun _ => True) ?hr ?hp (fun _ hk => hk) trivial (Below.refl _ _) (Nat.le_refl _) (by simp) ?_; (case hd => rfl); (case hg => rfl); (case hr => first | (go_simp; done) | (go_simp; rfl)); (case hp => exact (Reps.one (show Kd.M (Kd.int .i64) _ _ _ (-1) [.int .i64 (-1)] from rfl) (Reps.one (show Kd.M (Kd.int .i64) _ _ _ 1000 [.int .i64 1000] from rfl) (Reps.one (show Kd.M (Kd.int .i64) _ _ _ 1001 [.int .i64 1001] from rfl) (Reps.none _ _))))); intro v394 w49 ho50 hb hg_ hnew_; clear hg_ hnew_; (first | rw [← Ny393.out] at ho50 | (simp only [Int.reduceToNat] at ho50; rw [← Ny393.out] at ho50)); replace HO_375004 := rB_ HO_375004 hb; have HO395 := Aside0.mk (Kd.R_lower ho50 (keep_size (w := w) (g := g) (row := none) (kp2_ GW361.out GW374.out))); replace BK361 := bK_ BK361 hb; replace BK374 := bK_ BK374 hb; replace HK := Aside0.mk (KeepBut.trans (kp2_ GW361.out GW374.out) (KeepBut.of_below hb g none) (.inl rfl)); replace HB := Aside0.mk (below_step (hs3_ (IsS92.ge HI0.out) GE361.out GE374.out) hb); replace HI0 := Aside0.mk (IsS92.below (iS92_2_ NB0_361.out NB0_374.out) hb); clear hb ho50; obtain ⟨Ao51, co51, eo51⟩ := Kd.R_slice HO395.out; subst eo51) | ((with_reducible refine gate_callee (f := 92) rfl ?_); refine gl_ 43 Try.func92 #[.pointer (some ⟨g, 0, none⟩), .slice Ao51 y393.length co51] rfl ma_ ?_; (with_reducible refine (spec_l1Cur_among.calls g s0_0 t385 t386 _ _ y393 t396 t397 t398 w0 _ ?side1 ?side2 ?side3 ?side4 ?side5 A47.out).mono ?_); (case side1 => exact iS92_2_ NB0_361.out NB0_374.out); (case side2 => exact hs3_ (IsS92.ge HI0.out) GE361.out GE374.out); (case side3 => exact cs_ ((Kd.R_reads' HO395.out).2.2)); (case side4 => exact (Kd.R_reads' HO395.out).2.1); (case side5 => exact far_slice (IsS92.own_ne HI0.out HO395.out (by decide))); rintro e w52 ⟨rfl, hi, hb, hk⟩; refine ⟨_, rfl, ?_⟩; replace HO_375004 := Aside0.mk (Kd.R_mono (Kd.R_keep (IsS92.apart (show IsS92 w0 _ g s0_0 t385 t386 from iS92_2_ NB0_361.out NB0_374.out) (kr_ HO_375004.out) (by decide)) hk (fun _ h => h.2)) (fun _ h => h.1)); replace BK361 := Aside0.mk (KeepBut.blk hk (g' := gb361) (o := .cells #[.int .i64 0, .int .i64 0, .int .i64 0, .int .i64 0, .slice none 0 0] 44 (0, 0)) (kb_ BK361.out) NB361_0.out (by simp)); replace BK374 := Aside0.mk (KeepBut.blk hk (g' := gb374) (o := .cells #[.int .i64 t362, .int .i64 t365, .int .i64 t368, .int .i64 t371, u375004] 44 (0, 0)) (kb_ BK374.out) NB374_0.out (by simp)); replace HO395 := Aside0.mk (Kd.R_mono (Kd.R_keep (IsS92.apart (show IsS92 w0 _ g s0_0 t385 t386 from iS92_2_ NB0_361.out NB0_374.out) (kr_ HO395.out) (by decide)) hk (fun _ h => h.2)) (fun _ h => h.1)); replace HK := Aside0.mk (KeepBut.trans (kp2_ GW361.out GW374.out) hk (.inl rfl)); replace HB := Aside0.mk (hb); replace HI0 := Aside0.mk (hi); (try clear hb); (try clear hb2); (try clear hk); (try clear hi); have hnb53 := NB374_361.out; have hnc53 := NB361_374.out; have hnb54 := NB374_0.out; have hnc54 := NB0_374.out; obtain ⟨hcz55_0, hcz55_1, hcz55_2, hcz55_3, hcz55_4, hfz55_0, hfz55_1, hfz55_2, hfz55_3, hfz55_4⟩ := cf5_ BK374.out; have hnb56 := NB361_0.out; have hnc56 := NB0_361.out; obtain ⟨hcz57_0, hcz57_1, hcz57_2, hcz57_3, hcz57_4, hfz57_0, hfz57_1, hfz57_2, hfz57_3, hfz57_4⟩ := cf5_ BK361.out; obtain ⟨Ao58, co58, eo58⟩ := Kd.R_slice HO_375004.out; subst eo58))
    refine bodyPost_ret (results_cell_row rfl _ _ gb361 44 #[.int .i64 t362, .int .i64 t396, .int .i64 t368, .int .i64 t371, .slice Ao58 x375004_1.length co58] (0, 0) _ rfl (by (with_reducible repeat (first | refine blk_drewN ?_ _ | refine blk_drew ?_ | refine blk_alloc ?_ _)); refine blk_put (cs := #[.int .i64 t362, .int .i64 t396, .int .i64 t368, .int .i64 t371, .slice none 0 0]) ?_ 4 _ rfl; (with_reducible repeat (first | refine blk_drewN ?_ _ | refine blk_drew ?_ | refine blk_alloc ?_ _)); refine blk_put (cs := #[.int .i64 t362, .int .i64 t396, .int .i64 t368, .int .i64 0, .slice none 0 0]) ?_ 3 _ rfl; (with_reducible repeat (first | refine blk_drewN ?_ _ | refine blk_drew ?_ | refine blk_alloc ?_ _)); refine blk_put (cs := #[.int .i64 t362, .int .i64 t396, .int .i64 0, .int .i64 0, .slice none 0 0]) ?_ 2 _ rfl; (with_reducible repeat (first | refine blk_drewN ?_ _ | refine blk_drew ?_ | refine blk_alloc ?_ _)); refine blk_put (cs := #[.int .i64 t362, .int .i64 0, .int .i64 0, .int .i64 0, .slice none 0 0]) ?_ 1 _ rfl; (with_reducible repeat (first | refine blk_drewN ?_ _ | refine blk_drew ?_ | refine blk_alloc ?_ _)); refine blk_put (cs := #[.int .i64 0, .int .i64 0, .int .i64 0, .int .i64 0, .slice none 0 0]) ?_ 0 _ rfl; (with_reducible repeat (first | refine blk_drewN ?_ _ | refine blk_drew ?_ | refine blk_alloc ?_ _)); refine blk_far ?_ NB361_374.out _; (with_reducible repeat (first | refine blk_drewN ?_ _ | refine blk_drew ?_ | refine blk_alloc ?_ _)); exact BK361.out) Try.underlying44 rfl (by kernel_rfl)) rfl ?_
    exact ⟨_, er_, Kd.R_mono (rF_ (Kd.R_far (p := ⟨gb374, 1, none⟩) (Kd.R_types (Kd.R_types HO_375004.out BK374.out (by decide)) BK361.out (by decide)) (fun _ hk => hk.1.2) (.int .i64 t396))) (fun _ hk => trivial), iS92_2_ NB0_361.out NB0_374.out, hs3_ (IsS92.ge HI0.out) GE361.out GE374.out, kp2_ GW361.out GW374.out⟩
   have c46b0 : (t384 == 2) = false := beq_eq_false_iff_ne.mpr c46
   have c46b1 : (t384 != 2) = true := bne_iff_ne.mpr c46
   replace H := ite_ H
   obtain ⟨c59, H⟩ | ⟨c59, H⟩ := H
   rotate_left
   ·have c59b0 : (t384 == 3) = false := beq_eq_false_iff_ne.mpr c59
    have c59b1 : (t384 != 3) = true := bne_iff_ne.mpr c59
    simp only [Option.some.injEq, Prod.mk.injEq] at H
    obtain ⟨rfl, rfl, rfl, rfl, rfl, rfl, rfl⟩ := H
    go_wp2_with (first | ((with_reducible refine gate_callee (f := 74) rfl ?_); refine gl_ 29 Try.func74 #[.pointer (some ⟨g, 0, none⟩), .int .i64 40] rfl ma_ ?_; (with_reducible refine (spec_l1Cur_pick.calls g s0_0 x1001_1 x1002_1 40 t384 t385 t386 w0 _ ?side1 ?side2 A25.out).mono ?_); (case side1 => exact iS92_2_ NB0_361.out NB0_374.out); (case side2 => exact hs3_ (IsS92.ge HI0.out) GE361.out GE374.out); rintro e w71 ⟨rfl, hi, hb, hk⟩; refine ⟨_, rfl, ?_⟩; replace HO_375004 := Aside0.mk (Kd.R_mono (Kd.R_keep (IsS92.apart (show IsS92 w0 _ g s0_0 x1001_1 x1002_1 from iS92_2_ NB0_361.out NB0_374.out) (kr_ HO_375004.out) (by decide)) hk (fun _ h => h.2)) (fun _ h => h.1)); replace BK361 := Aside0.mk (KeepBut.blk hk (g' := gb361) (o := .cells #[.int .i64 0, .int .i64 0, .int .i64 0, .int .i64 0, .slice none 0 0] 44 (0, 0)) (kb_ BK361.out) NB361_0.out (by simp)); replace BK374 := Aside0.mk (KeepBut.blk hk (g' := gb374) (o := .cells #[.int .i64 t362, .int .i64 t365, .int .i64 t368, .int .i64 t371, u375004] 44 (0, 0)) (kb_ BK374.out) NB374_0.out (by simp)); replace HK := Aside0.mk (KeepBut.trans (kp2_ GW361.out GW374.out) hk (.inl rfl)); replace HB := Aside0.mk (hb); replace HI0 := Aside0.mk (hi); (try clear hb); (try clear hb2); (try clear hk); (try clear hi); have hnb72 := NB374_361.out; have hnc72 := NB361_374.out; have hnb73 := NB374_0.out; have hnc73 := NB0_374.out; obtain ⟨hcz74_0, hcz74_1, hcz74_2, hcz74_3, hcz74_4, hfz74_0, hfz74_1, hfz74_2, hfz74_3, hfz74_4⟩ := cf5_ BK374.out; have hnb75 := NB361_0.out; have hnc75 := NB0_361.out; obtain ⟨hcz76_0, hcz76_1, hcz76_2, hcz76_3, hcz76_4, hfz76_0, hfz76_1, hfz76_2, hfz76_3, hfz76_4⟩ := cf5_ BK361.out; obtain ⟨Ao77, co77, eo77⟩ := Kd.R_slice HO_375004.out; subst eo77))
    refine bodyPost_ret (results_cell_row rfl _ _ gb361 44 #[.int .i64 t362, .int .i64 t365, .int .i64 t368, .int .i64 t371, .slice Ao77 x375004_1.length co77] (0, 0) _ rfl (up_ BK361) Try.underlying44 rfl (by kernel_rfl)) rfl ?_
    exact ⟨_, er_, Kd.R_mono (rF_ (Kd.R_types HO_375004.out BK361.out (by decide))) (fun _ hk => trivial), iS92_2_ NB0_361.out NB0_374.out, hs3_ (IsS92.ge HI0.out) GE361.out GE374.out, kp2_ GW361.out GW374.out⟩
   have c59b0 : (t384 == 3) = true := beq_iff_eq.mpr c59
   have c59b1 : (t384 != 3) = false := bne_eq_false_iff_eq.mpr c59
   clear c59
   replace H := ifs_ H
   obtain ⟨c60, H⟩ := H
   have c60b0 := decide_eq_true c60
   have c60b1 : decide (0 < x375004_1.length) = true := decide_eq_true (by omega)
   clear c60
   obtain ⟨y399, hy399⟩ : ∃ y_ : List ByteArray, y_ = (x375004_1.set (0 : Int).toNat (⟨#[97, 32, 116, 101, 120, 116, 32, 111, 102, 32, 109, 111, 114, 101, 32, 116, 104, 97, 110, 32, 50, 48]⟩ : ByteArray)) := ⟨_, rfl⟩
   replace H : (some (t362, t365, t368, t371, y399, t385, t386)) = some (r1, r2, r3, r4, r5, r6, r7) := by first | (rw [hy399]; with_reducible exact H) | (have H2_ := (Option.bind_some _ _).symm.trans H; rw [hy399]; with_reducible exact H2_) | (have H2_ := (Option.bind_some _ _).symm.trans H; with_reducible exact H2_) | with_reducible exact H | (rw [hy399]; exact H) | exact H
   have Ny399 := Aside0.mk hy399
   clear hy399
   simp only [Option.some.injEq, Prod.mk.injEq] at H
   obtain ⟨rfl, rfl, rfl, rfl, rfl, rfl, rfl⟩ := H
   go_wp2_with (first | ((with_reducible refine gate_callee (f := 74) rfl ?_); refine gl_ 29 Try.func74 #[.pointer (some ⟨g, 0, none⟩), .int .i64 40] rfl ma_ ?_; (with_reducible refine (spec_l1Cur_pick.calls g s0_0 x1001_1 x1002_1 40 t384 t385 t386 w0 _ ?side1 ?side2 A25.out).mono ?_); (case side1 => exact iS92_2_ NB0_361.out NB0_374.out); (case side2 => exact hs3_ (IsS92.ge HI0.out) GE361.out GE374.out); rintro e w62 ⟨rfl, hi, hb, hk⟩; refine ⟨_, rfl, ?_⟩; replace HO_375004 := Aside0.mk (Kd.R_mono (Kd.R_keep (IsS92.apart (show IsS92 w0 _ g s0_0 x1001_1 x1002_1 from iS92_2_ NB0_361.out NB0_374.out) (kr_ HO_375004.out) (by decide)) hk (fun _ h => h.2)) (fun _ h => h.1)); replace BK361 := Aside0.mk (KeepBut.blk hk (g' := gb361) (o := .cells #[.int .i64 0, .int .i64 0, .int .i64 0, .int .i64 0, .slice none 0 0] 44 (0, 0)) (kb_ BK361.out) NB361_0.out (by simp)); replace BK374 := Aside0.mk (KeepBut.blk hk (g' := gb374) (o := .cells #[.int .i64 t362, .int .i64 t365, .int .i64 t368, .int .i64 t371, u375004] 44 (0, 0)) (kb_ BK374.out) NB374_0.out (by simp)); replace HK := Aside0.mk (KeepBut.trans (kp2_ GW361.out GW374.out) hk (.inl rfl)); replace HB := Aside0.mk (hb); replace HI0 := Aside0.mk (hi); (try clear hb); (try clear hb2); (try clear hk); (try clear hi); have hnb63 := NB374_361.out; have hnc63 := NB361_374.out; have hnb64 := NB374_0.out; have hnc64 := NB0_374.out; obtain ⟨hcz65_0, hcz65_1, hcz65_2, hcz65_3, hcz65_4, hfz65_0, hfz65_1, hfz65_2, hfz65_3, hfz65_4⟩ := cf5_ BK374.out; have p61 : 0 ≤ (0 : Int) := (by omega); have q61 : (0 : Int) < ((x375004_1.length : Int) : Int) := oa_; have qi61 : (0 < x375004_1.length) = True := eq_true (by omega); obtain ⟨go61, co61, eo61, gb61, gl61, cl61, HG61⟩ := Kd.R_form HO_375004.out (by omega); (first | cases eo61 | (injection eo61 with ea_ en_ ec_; (first | subst ea_ | (injection ea_ with ea_; subst ea_)); subst ec_; clear en_)); have GB61 := Aside0.mk gb61; have GG61 := Aside0.mk HG61; clear gb61 gl61 HG61; obtain ⟨hx61_0, hf61_0⟩ := Kd.R_celln (⟨#[]⟩ : ByteArray) HO_375004.out (0 : Int) p61 q61; (try rw [show ((0 : Int)).toNat = 0 from rfl] at hx61_0); (try simp only [Nat.reduceMul, Nat.zero_mul, Nat.zero_add, Nat.reduceAdd] at hx61_0); (try rw [show ((0 : Int)).toNat = 0 from rfl] at hf61_0); (try simp only [Nat.reduceMul, Nat.zero_mul, Nat.zero_add, Nat.reduceAdd] at hf61_0); replace p61 := eq_true p61; replace q61 := eq_true q61; obtain ⟨hy66_, hz66_⟩ := Kd.R_celln (⟨#[]⟩ : ByteArray) HO_375004.out (0 : Int) (by omega) (oa_); (try simp only [Int.reduceToNat, Int.toNat_zero, Int.toNat_ofNat, Nat.reduceMul, Nat.zero_mul, Nat.zero_add] at hy66_ hz66_); (try rw [show ((0 : Int)).toNat = 0 from rfl] at hy66_); (try rw [show ((0 : Int)).toNat = 0 from rfl] at hz66_); have HP66 := Kd.R_putg HO_375004.out (0 : Int) (⟨#[97, 32, 116, 101, 120, 116, 32, 111, 102, 32, 109, 111, 114, 101, 32, 116, 104, 97, 110, 32, 50, 48]⟩ : ByteArray)) | ((with_reducible refine gate_store (t := 9) (p := 49) rfl ?_); refine store_event (t := 9) (p := 49) (v := ?vo_w67) (w1 := (w62.setCell ⟨go61, (0 : Int).toNat, none⟩ (.string (⟨#[97, 32, 116, 101, 120, 116, 32, 111, 102, 32, 109, 111, 114, 101, 32, 116, 104, 97, 110, 32, 50, 48]⟩ : ByteArray)))) ?hg ?ho ?hn ?hr ?_; (case ho => rfl); (case hg => rfl); (case hn => rfl); (case hr => first | (go_simp; done) | (go_simp; rfl)); intro w67 hw; have hg : w62.grownBy w67 (some go61) := (by rw [hw]; exact HP66.2); have hp_ : Kd.R Kd.string 9 w67 w.heap.size (fun _ => True) (.slice (some ⟨go61, 0, none⟩) x375004_1.length co61) y399 := (by rw [hw, Ny399.out]; exact HP66.1); clear HP66; replace BK361 := Aside0.mk (blk_grown (g := gb361) (o := .cells #[.int .i64 0, .int .i64 0, .int .i64 0, .int .i64 0, .slice none 0 0] 44 (0, 0)) (kb_ BK361.out) hg (Kd.R_ne HO_375004.out BK361.out (by decide))); replace BK374 := Aside0.mk (blk_grown (g := gb374) (o := .cells #[.int .i64 t362, .int .i64 t365, .int .i64 t368, .int .i64 t371, .slice (some ⟨go61, 0, none⟩) x375004_1.length co61] 44 (0, 0)) (kb_ BK374.out) hg (Kd.R_ne HO_375004.out BK374.out (by decide))); replace HI0 := Aside0.mk (IsS92.grown (iS92_2_ NB0_361.out NB0_374.out) hg (IsS92.own_ne HI0.out HO_375004.out (by decide))); replace HB := Aside0.mk ((by rw [hw]; exact below_set (HB.out) (Nat.le_trans HL.out GB61.out) : Below w0.heap.size w0 w67)); replace HK := Aside0.mk (KeepBut.trans (kp2_ GW361.out GW374.out) (KeepBut.of_grown hg g) (Kd.R_base2 HO_375004.out)); replace HO_375004 := Aside0.mk (hp_); clear hg hw hp_; obtain ⟨hcz68_0, hcz68_1, hcz68_2, hcz68_3, hcz68_4, hfz68_0, hfz68_1, hfz68_2, hfz68_3, hfz68_4⟩ := cf5_ BK374.out; have hnb69 := NB361_0.out; have hnc69 := NB0_361.out; obtain ⟨hcz70_0, hcz70_1, hcz70_2, hcz70_3, hcz70_4, hfz70_0, hfz70_1, hfz70_2, hfz70_3, hfz70_4⟩ := cf5_ BK361.out))
   refine bodyPost_ret (results_cell_row rfl _ _ gb361 44 #[.int .i64 t362, .int .i64 t365, .int .i64 t368, .int .i64 t371, .slice (some ⟨go61, 0, none⟩) x375004_1.length co61] (0, 0) _ rfl (up_ BK361) Try.underlying44 rfl (by kernel_rfl)) rfl ?_
   exact ⟨_, er_, Kd.R_mono (rF_ (Kd.R_types HO_375004.out BK361.out (by decide))) (fun _ hk => trivial), iS92_2_ NB0_361.out NB0_374.out, hs3_ (IsS92.ge HI0.out) GE361.out GE374.out, kp2_ GW361.out GW374.out⟩

/-! ### spec_l1Cur_one: function 72 -/
def spec_l1Cur_one.f (s0_0 : List Int) (s0_1 : Int) (s0_2 : Int) (a1 : Int) : Option (Bool × Int × Int) := (spec_l1Cur_pick.f s0_0 s0_1 s0_2 a1).bind fun bt400 => (some ((bt400.1 == 0), bt400.2.1, bt400.2.2))
set_option maxHeartbeats 8000000 in
set_option maxRecDepth 100000 in
theorem spec_l1Cur_one.calls (g : Nat) (s0_0 : List Int) (s0_1 : Int) (s0_2 : Int) (a1 : Int) (r1 : Bool) (r2 : Int) (r3 : Int) (w0 w : World) (hI : IsS92 w0 w g s0_0 s0_1 s0_2) (hB : Below w0.heap.size w0 w) (h : spec_l1Cur_one.f s0_0 s0_1 s0_2 a1 = some (r1, r2, r3)) :
  Calls Try.prog 72 #[.pointer (some ⟨g, 0, none⟩), .int .i64 a1] w fun e w' => e = .returned (.bool r1) ∧ IsS92 w0 w' g s0_0 r2 r3 ∧ Below w0.heap.size w0 w' ∧ KeepBut w w' g none := by
 have HI0 := Aside0.mk hI
 have HK := Aside0.mk (KeepBut.refl w g none)
 have HL := Aside0.mk hB.size
 clear hI
 have HW0 := Aside0.mk hB.size
 have HB := Aside0.mk hB
 clear hB
 have H : ((spec_l1Cur_pick.f s0_0 s0_1 s0_2 a1).bind fun bt400 => (some ((bt400.1 == 0), bt400.2.1, bt400.2.2))) = some (r1, r2, r3) := h
 clear h
 replace H := bnd_ H
 obtain ⟨⟨t400, t401, t402⟩, A3, H⟩ := H
 replace H := red_ H
 simp only [Option.some.injEq, Prod.mk.injEq] at H
 obtain ⟨rfl, rfl, rfl⟩ := H
 go_enter Try.func72, Try.ntmps72
 go_wp2_with (first | ((with_reducible refine gate_callee (f := 74) rfl ?_); refine gl_ 7 Try.func74 #[.pointer (some ⟨g, 0, none⟩), .int .i64 a1] rfl ma_ ?_; (with_reducible refine (spec_l1Cur_pick.calls g s0_0 s0_1 s0_2 a1 t400 t401 t402 w0 _ ?side1 ?side2 A3.out).mono ?_); (case side1 => exact iS92_0_); (case side2 => exact hs_ (IsS92.ge HI0.out)); rintro e w4 ⟨rfl, hi, hb, hk⟩; refine ⟨_, rfl, ?_⟩; replace HK := Aside0.mk (KeepBut.trans (kp0_) hk (.inl rfl)); replace HB := Aside0.mk (hb); replace HI0 := Aside0.mk (hi); (try clear hb); (try clear hb2); (try clear hk); (try clear hi)))
 go_ret
 exact ⟨er_, iS92_0_, hs_ (IsS92.ge HI0.out), kp0_⟩
end Go.Proofs.Ytpdpipfkllfhmaa.QFnTorn
