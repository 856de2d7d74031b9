/- For each Go function that one statement reaches: a plain function with the same answers, and the proof that the call comes to them. Conditions: those that each contract names. Written by a program of this repository. -/
import Derived.Test.YtpdpipfkllfhmaaVWriteBatcha
import Derived.Test.YtpdpipfkllfhmaaQFnExactWriteBatchx0
import Derived.Test.YtpdpipfkllfhmaaQFnExactWriteBatchx2
import Derived.Test.YtpdpipfkllfhmaaQFnExactWriteBatchx3
import Derived.Test.YtpdpipfkllfhmaaQFnExactWriteBatchx4
import Derived.Test.YtpdpipfkllfhmaaQFnExactWriteBatchx6
namespace Go.Proofs.Ytpdpipfkllfhmaa.QFnExactWriteBatch
open Go.RowKit Go.Proofs.YtpdpipfkllfhmaaW.PrintWords Go.Proofs.YtpdpipfkllfhmaaW.PrintLast Go.Proofs.YtpdpipfkllfhmaaW.PrintMore
attribute [local go_sem] max2_int min2_int max_two min_two max_three min_three max_four min_four Go.Proofs.YtpdpipfkllfhmaaW.PrintMore2.isSome_setCell   -- for this text's walks alone
set_option linter.unusedVariables false
set_option linter.unusedSimpArgs false

/-! ### spec_WriteBatch: function 18 -/
mutual
def spec_WriteBatch.j0 : Nat → Int → Bool → List (S56) → Int → Int → Int → Int → List ByteArray → Option ((List (S56)) × Bool)
 | 0, _, _, _, _, _, _, _, _ => none
 | k + 1, x1, x18, x220000, x221000, x221001, x221002, x221003, x221004 => if x18 = true then (some (([] : List (S56)), false)) else (if 0 ≤ x1 then (if x1 < (x220000.length : Int) then ((spec_l1Read.f k ((rd_T56 x220000 x1).f0)).bind fun bt225 => (if bt225.2 = (((rd_T56 x220000 x1).f0).size : Int) then (if (bt225.1.length : Int) > 0 then (if 0 ≤ (wrap64 ((bt225.1.length : Int) - 1)) then (if (wrap64 ((bt225.1.length : Int) - 1)) < (bt225.1.length : Int) then ((spec_l1Next.f ((rd_T44 bt225.1 (wrap64 ((bt225.1.length : Int) - 1))).f0) ((rd_T44 bt225.1 (wrap64 ((bt225.1.length : Int) - 1))).f1) ((rd_T44 bt225.1 (wrap64 ((bt225.1.length : Int) - 1))).f2) ((rd_T44 bt225.1 (wrap64 ((bt225.1.length : Int) - 1))).f3) ((rd_T44 bt225.1 (wrap64 ((bt225.1.length : Int) - 1))).f4) x221000 x221001 x221002 x221003 x221004).bind fun t231 => (spec_WriteBatch.j1 k x1 (!t231) x220000 x221000 x221001 x221002 x221003 x221004)) else (none)) else (none)) else (spec_WriteBatch.j1 k x1 false x220000 x221000 x221001 x221002 x221003 x221004)) else (spec_WriteBatch.j1 k x1 true x220000 x221000 x221001 x221002 x221003 x221004))) else (none)) else (none))
def spec_WriteBatch.j1 : Nat → Int → Bool → List (S56) → Int → Int → Int → Int → List ByteArray → Option ((List (S56)) × Bool)
 | 0, _, _, _, _, _, _, _, _ => none
 | k + 1, x1, x54, x220000, x221000, x221001, x221002, x221003, x221004 => if x54 = true then (some (([] : List (S56)), false)) else ((spec_l1Batch.f k x221000 x221001 x221002 x221003 x221004).bind fun t232 => ((spec_AppendTo.f k x220000 x1 t232).bind fun bt233 => (some (bt233.1, bt233.2))))
end
def spec_WriteBatch.f (k : Nat) (l0_0 : List (S56)) (a1 : Int) (a2_0 : Int) (a2_1 : Int) (a2_2 : Int) (a2_3 : Int) (l2_4 : List ByteArray) : Option ((List (S56)) × Bool) := (spec_l3File.f k l0_0 a1).bind fun t222 => (if t222 = true then ((spec_GoodBatch.f k a2_0 a2_1 a2_2 a2_3 l2_4).bind fun t223 => (spec_WriteBatch.j0 k a1 (!t223) l0_0 a2_0 a2_1 a2_2 a2_3 l2_4)) else (spec_WriteBatch.j0 k a1 true l0_0 a2_0 a2_1 a2_2 a2_3 l2_4))
theorem spec_WriteBatch.mono_l : ∀ k, (∀ y0 y1 y2 y3 y4 y5 y6 y7, LeO (spec_WriteBatch.j0 k y0 y1 y2 y3 y4 y5 y6 y7) (spec_WriteBatch.j0 (k + 1) y0 y1 y2 y3 y4 y5 y6 y7)) ∧ (∀ y0 y1 y2 y3 y4 y5 y6 y7, LeO (spec_WriteBatch.j1 k y0 y1 y2 y3 y4 y5 y6 y7) (spec_WriteBatch.j1 (k + 1) y0 y1 y2 y3 y4 y5 y6 y7))
 | 0 => ⟨fun _ _ _ _ _ _ _ _ r h => by simp [spec_WriteBatch.j0] at h, fun _ _ _ _ _ _ _ _ r h => by simp [spec_WriteBatch.j1] at h⟩
 | k + 1 => by
  obtain ⟨ih0, ih1⟩ := spec_WriteBatch.mono_l k
  refine ⟨?_, ?_⟩
  ·intro y0 y1 y2 y3 y4 y5 y6 y7
   unfold spec_WriteBatch.j0
   repeat' first
   | (with_reducible exact ih0 _ _ _ _ _ _ _ _)
   | (with_reducible exact ih1 _ _ _ _ _ _ _ _)
   | (with_reducible exact spec_AppendTo.mono _ _ _ _)
   | (with_reducible exact spec_GoodBatch.mono _ _ _ _ _ _)
   | (with_reducible exact spec_l1Batch.mono _ _ _ _ _ _)
   | (with_reducible exact spec_l1Read.mono _ _)
   | (with_reducible exact spec_l3File.mono _ _ _)
   | (with_reducible exact LeO.refl _)
   | (with_reducible exact LeO.none _)
   | (with_reducible refine LeO.ite ?_ ?_)
   | (with_reducible refine LeO.bind ?_ (fun _ => ?_))
   | exact ih0 _ _ _ _ _ _ _ _
   | exact ih1 _ _ _ _ _ _ _ _
   | exact spec_AppendTo.mono _ _ _ _
   | exact spec_GoodBatch.mono _ _ _ _ _ _
   | exact spec_l1Batch.mono _ _ _ _ _ _
   | exact spec_l1Read.mono _ _
   | exact spec_l3File.mono _ _ _
   | exact LeO.none _
   | refine LeO.ite ?_ ?_
   | refine LeO.bind ?_ (fun _ => ?_)
  ·intro y0 y1 y2 y3 y4 y5 y6 y7
   unfold spec_WriteBatch.j1
   repeat' first
   | (with_reducible exact ih0 _ _ _ _ _ _ _ _)
   | (with_reducible exact ih1 _ _ _ _ _ _ _ _)
   | (with_reducible exact spec_AppendTo.mono _ _ _ _)
   | (with_reducible exact spec_GoodBatch.mono _ _ _ _ _ _)
   | (with_reducible exact spec_l1Batch.mono _ _ _ _ _ _)
   | (with_reducible exact spec_l1Read.mono _ _)
   | (with_reducible exact spec_l3File.mono _ _ _)
   | (with_reducible exact LeO.refl _)
   | (with_reducible exact LeO.none _)
   | (with_reducible refine LeO.ite ?_ ?_)
   | (with_reducible refine LeO.bind ?_ (fun _ => ?_))
   | exact ih0 _ _ _ _ _ _ _ _
   | exact ih1 _ _ _ _ _ _ _ _
   | exact spec_AppendTo.mono _ _ _ _
   | exact spec_GoodBatch.mono _ _ _ _ _ _
   | exact spec_l1Batch.mono _ _ _ _ _ _
   | exact spec_l1Read.mono _ _
   | exact spec_l3File.mono _ _ _
   | exact LeO.none _
   | refine LeO.ite ?_ ?_
   | refine LeO.bind ?_ (fun _ => ?_)
theorem spec_WriteBatch.mono : ∀ a0 a1 a2 a3 a4 a5 a6 k, LeO (spec_WriteBatch.f k a0 a1 a2 a3 a4 a5 a6) (spec_WriteBatch.f (k + 1) a0 a1 a2 a3 a4 a5 a6) := by
 intro a0 a1 a2 a3 a4 a5 a6 k
 obtain ⟨ih0, ih1⟩ := spec_WriteBatch.mono_l k
 unfold spec_WriteBatch.f
 repeat' first
   | (with_reducible exact ih0 _ _ _ _ _ _ _ _)
   | (with_reducible exact ih1 _ _ _ _ _ _ _ _)
   | (with_reducible exact spec_AppendTo.mono _ _ _ _)
   | (with_reducible exact spec_GoodBatch.mono _ _ _ _ _ _)
   | (with_reducible exact spec_l1Batch.mono _ _ _ _ _ _)
   | (with_reducible exact spec_l1Read.mono _ _)
   | (with_reducible exact spec_l3File.mono _ _ _)
   | (with_reducible exact LeO.refl _)
   | (with_reducible exact LeO.none _)
   | (with_reducible refine LeO.ite ?_ ?_)
   | (with_reducible refine LeO.bind ?_ (fun _ => ?_))
   | exact ih0 _ _ _ _ _ _ _ _
   | exact ih1 _ _ _ _ _ _ _ _
   | exact spec_AppendTo.mono _ _ _ _
   | exact spec_GoodBatch.mono _ _ _ _ _ _
   | exact spec_l1Batch.mono _ _ _ _ _ _
   | exact spec_l1Read.mono _ _
   | exact spec_l3File.mono _ _ _
   | exact LeO.none _
   | refine LeO.ite ?_ ?_
   | refine LeO.bind ?_ (fun _ => ?_)
def spec_WriteBatch.T4 : Bool × List (List Nat × List Nat) := (true, [([], []), ([], []), ([1], [1]), ([], []), ([2, 3], [2, 3]), ([4], [4]), ([5], [5]), ([6], [6]), ([0, 7], [0, 7]), ([8], [8]), ([9], [9]), ([10, 9], [9, 10]), ([11, 9], [9, 11]), ([12, 9, 9], [9, 12]), ([13], [13]), ([13], [13]), ([15, 13], [13, 15]), ([16, 13], [13, 16]), ([14, 17, 13], [13, 14, 17]), ([18, 13], [13, 18]), ([13], [13]), ([19, 20, 13, 13], [13, 19, 20]), ([21, 13], [13, 21]), ([13, 22, 9], [9, 13, 22]), ([9, 23], [9, 23])])
def spec_WriteBatch.B4 : List Nat := [0, 0, 2, 0, 14, 30, 62, 126, 255, 511, 1023, 2047, 4095, 8191, 16383, 16383, 49151, 114687, 262143, 524287, 16383, 2097151, 4194303, 8388607, 16777215]
theorem spec_WriteBatch.tab4 : rtab .any (opsOf Try.f18 4) = spec_WriteBatch.T4 := by kernel_rfl
theorem spec_WriteBatch.bits4 : waitsOk spec_WriteBatch.T4.2 spec_WriteBatch.B4 = true := by kernel_rfl
def spec_WriteBatch.T6 : Bool × List (List Nat × List Nat) := (true, [([], []), ([], []), ([], []), ([2], [2]), ([0, 1, 3, 3], [0, 1, 3]), ([4], [4]), ([4], [4]), ([5, 4, 0, 1, 2, 3, 4, 5, 6], [5]), ([6, 7, 0, 1, 2, 3, 4, 5, 6, 7], [6])])
def spec_WriteBatch.B6 : List Nat := [0, 0, 0, 4, 15, 31, 31, 127, 255]
theorem spec_WriteBatch.tab6 : rtab .any (opsOf Try.f18 6) = spec_WriteBatch.T6 := by kernel_rfl
theorem spec_WriteBatch.bits6 : waitsOk spec_WriteBatch.T6.2 spec_WriteBatch.B6 = true := by kernel_rfl
set_option maxHeartbeats 8000000 in
set_option maxRecDepth 100000 in
theorem spec_WriteBatch.calls (k : Nat) (A0_0 : Option Addr) (c0_0 : Nat) (l0_0 : List (S56)) (a1 : Int) (a2_0 : Int) (a2_1 : Int) (a2_2 : Int) (a2_3 : Int) (A2_4 : Option Addr) (c2_4 : Nat) (l2_4 : List ByteArray) (r1 : List (S56)) (r2 : Bool) (w : World) (hr0_0 : Kd.C k56 w A0_0 l0_0.length l0_0) (hc0_0 : l0_0.length ≤ c0_0) (hr2_4 : Kd.C Kd.string w A2_4 l2_4.length l2_4) (hc2_4 : l2_4.length ≤ c2_4) (h : spec_WriteBatch.f k l0_0 a1 a2_0 a2_1 a2_2 a2_3 l2_4 = some (r1, r2)) :
  Calls Try.prog 18 #[.agg #[.slice A0_0 l0_0.length c0_0], .int .i64 a1, .agg #[.int .i64 a2_0, .int .i64 a2_1, .int .i64 a2_2, .int .i64 a2_3, .slice A2_4 l2_4.length c2_4]] w fun e w' => ∃ v0_ : Value, e = .returned (.tuple #[.agg #[v0_], .bool r2]) ∧ Kd.R k56 56 w' w.heap.size (fun _ => True) v0_ r1 ∧ Below w.heap.size w w' := by
 have hu31 := Try.underlying31
 have hu44 := Try.underlying44
 have HR0_0 := Aside0.mk hr0_0
 have HC0_0 := Aside0.mk hc0_0
 clear hr0_0 hc0_0
 have HR2_4 := Aside0.mk hr2_4
 have HC2_4 := Aside0.mk hc2_4
 clear hr2_4 hc2_4
 have HB := Aside0.mk (Below.refl w.heap.size w)
 have H : ((spec_l3File.f k l0_0 a1).bind fun t222 => (if t222 = true then ((spec_GoodBatch.f k a2_0 a2_1 a2_2 a2_3 l2_4).bind fun t223 => (spec_WriteBatch.j0 k a1 (!t223) l0_0 a2_0 a2_1 a2_2 a2_3 l2_4)) else (spec_WriteBatch.j0 k a1 true l0_0 a2_0 a2_1 a2_2 a2_3 l2_4))) = some (r1, r2) := h
 clear h
 have HC4 := Aside0.mk H
 clear H
 go_enter Try.func18, Try.ntmps18
 go_upto_region 1 with (first | ((with_reducible refine gate_dst (N := 3) rfl ?_); (try (refine gate_guard (by rfl) ?_; dsimp only)); refine be_ (N := 3) #[.slice A0_0 l0_0.length c0_0] 31 ?_; intro gb219 hg w5 hbox hb; have BK219 := Aside0.mk (hbox); have GW219 := ge_ hg; have GE219 := ge_ hg; replace HB := nb_ hb; clear hb hbox hg) | ((with_reducible refine gate_dst (N := 5) rfl ?_); (try (refine gate_guard (by rfl) ?_; dsimp only)); refine be_ (N := 5) #[.int .i64 a2_0, .int .i64 a2_1, .int .i64 a2_2, .int .i64 a2_3, .slice A2_4 l2_4.length c2_4] 44 ?_; intro gb220 hg w6 hbox hb; have BK220 := Aside0.mk (hbox); have GW220 := ge1_ hg GE219; have GE220 := ge1_ hg GE219; replace HB := nc_ GE219 hb; have NB219_220 := nl_ BK219 hg; have NB220_219 := ng_ BK219 hg; replace BK219 := bK_ BK219 hb; clear hb hbox hg) | ((with_reducible refine gate_dst (N := 6) rfl ?_); (try (refine gate_guard (by rfl) ?_; dsimp only)); refine be_ (N := 6) #[.slice none 0 0] 31 ?_; intro gb221 hg w7 hbox hb; have BK221 := Aside0.mk (hbox); have GW221 := ge2_ hg GE219 GE220; have GE221 := ge2_ hg GE219 GE220; replace HB := nc2_ GE219 GE220 hb; have NB219_221 := nl_ BK219 hg; have NB221_219 := ng_ BK219 hg; replace BK219 := bK_ BK219 hb; have NB220_221 := nl_ BK220 hg; have NB221_220 := ng_ BK220 hg; replace BK220 := bK_ BK220 hb; clear hb hbox hg))
 (try simp only [Act.put, List.setIfInBounds_toArray, List.set_cons_zero, List.set_cons_succ])
 go_cut [18] (fun v18 wc => ∃ (kq : Nat) (x18_3 : Bool), v18 = .bool x18_3 ∧ Aside0 (spec_WriteBatch.j0 kq a1 x18_3 l0_0 a2_0 a2_1 a2_2 a2_3 l2_4 = some (r1, r2)) ∧ Aside0 (kq ≤ k) ∧ Aside0 (wc.heap[gb219]? = some (.cells #[(.slice A0_0 l0_0.length c0_0)] 31 (0, 0))) ∧ Aside0 (wc.heap[gb220]? = some (.cells #[.int .i64 a2_0, .int .i64 a2_1, .int .i64 a2_2, .int .i64 a2_3, (.slice A2_4 l2_4.length c2_4)] 44 (0, 0))) ∧ Aside0 (wc.heap[gb221]? = some (.cells #[(.slice none 0 0)] 31 (0, 0))) ∧ Aside0 (Below w.heap.size w wc))
 case first =>
  have H := HC4.out
  clear HC4
  replace H := bnd_ H
  obtain ⟨t222, A8, H⟩ := H
  replace H := ifb_ H
  obtain ⟨rfl, H⟩ | ⟨rfl, H⟩ := H
  rotate_left
  ·have H' := Aside0.mk H
   clear H
   have hnb18 := NB219_220.out
   have hnc18 := NB220_219.out
   have hnb19 := NB219_221.out
   have hnc19 := NB221_219.out
   obtain ⟨hcz20_0, hfz20_0⟩ := cf1_ BK219.out
   go_wp2_with (first | ((with_reducible refine gate_callee (f := 49) rfl ?_); refine gl_ 12 Try.func49 #[.agg #[.slice A0_0 l0_0.length c0_0], .int .i64 a1] rfl ma_ ?_; (with_reducible refine (spec_l3File.calls k _ _ l0_0 a1 false _ ?side1 ?side2 A8.out).mono ?_); (case side1 => exact cs_ ((Kd.C_below HR0_0.out HB.out))); (case side2 => exact HC0_0.out); rintro e w21 ⟨rfl, hb⟩; refine ⟨_, rfl, ?_⟩; replace BK219 := bK_ BK219 hb; replace BK220 := bK_ BK220 hb; replace BK221 := bK_ BK221 hb; replace HB := nc3_ GE219 GE220 GE221 hb; (try clear hb); (try clear hb2); (try clear hk); (try clear hi)))
   go_meet
   case rel => exact ⟨_, (true), sr_, H', ⟨by first | omega | exact Nat.le_refl _⟩, ⟨kb_ BK219.out⟩, ⟨kb_ BK220.out⟩, ⟨kb_ BK221.out⟩, ⟨hs3_ GE219.out GE220.out GE221.out⟩⟩
  replace H := bnd_ H
  obtain ⟨t223, A10, H⟩ := H
  have H' := Aside0.mk H
  clear H
  have hnb11 := NB219_220.out
  have hnc11 := NB220_219.out
  have hnb12 := NB219_221.out
  have hnc12 := NB221_219.out
  obtain ⟨hcz13_0, hfz13_0⟩ := cf1_ BK219.out
  go_wp2_with (first | ((with_reducible refine gate_callee (f := 49) rfl ?_); refine gl_ 12 Try.func49 #[.agg #[.slice A0_0 l0_0.length c0_0], .int .i64 a1] rfl ma_ ?_; (with_reducible refine (spec_l3File.calls k _ _ l0_0 a1 true _ ?side1 ?side2 A8.out).mono ?_); (case side1 => exact cs_ ((Kd.C_below HR0_0.out HB.out))); (case side2 => exact HC0_0.out); rintro e w14 ⟨rfl, hb⟩; refine ⟨_, rfl, ?_⟩; replace BK219 := bK_ BK219 hb; replace BK220 := bK_ BK220 hb; replace BK221 := bK_ BK221 hb; replace HB := nc3_ GE219 GE220 GE221 hb; (try clear hb); (try clear hb2); (try clear hk); (try clear hi); have hnb15 := NB220_221.out; have hnc15 := NB221_220.out; obtain ⟨hcz16_0, hcz16_1, hcz16_2, hcz16_3, hcz16_4, hfz16_0, hfz16_1, hfz16_2, hfz16_3, hfz16_4⟩ := cf5_ BK220.out) | (go_at_call 59; (with_reducible refine (spec_GoodBatch.calls k a2_0 a2_1 a2_2 a2_3 _ _ l2_4 t223 _ ?side1 ?side2 A10.out).mono ?_); (case side1 => exact cs_ ((Kd.C_below HR2_4.out HB.out))); (case side2 => exact HC2_4.out); rintro e w17 ⟨rfl, hb⟩; replace BK219 := bK_ BK219 hb; replace BK220 := bK_ BK220 hb; replace BK221 := bK_ BK221 hb; replace HB := nc3_ GE219 GE220 GE221 hb; (try clear hb); (try clear hb2); (try clear hk); (try clear hi)))
  go_meet
  case rel => exact ⟨_, (!t223), sr_, H', ⟨by first | omega | exact Nat.le_refl _⟩, ⟨kb_ BK219.out⟩, ⟨kb_ BK220.out⟩, ⟨kb_ BK221.out⟩, ⟨hs3_ GE219.out GE220.out GE221.out⟩⟩
 case rest =>
  clear HC4
  try clear c1
  try clear c2
  try clear p2
  try clear c4
  try clear c9
  try clear c11
  try clear c12
  try clear c15
  try clear c18
  try clear c19
  try clear hcz13_0
  try clear hcz16_0
  try clear hcz16_1
  try clear hcz16_2
  try clear hcz16_3
  try clear hcz16_4
  try clear hcz20_0
  try clear hfz13_0
  try clear hfz16_0
  try clear hfz16_1
  try clear hfz16_2
  try clear hfz16_3
  try clear hfz16_4
  try clear hfz20_0
  obtain ⟨kq, x18_3, rfl, HA, HJ3, BK219, BK220, BK221, HB⟩ := hcut
  cases kq with
  | zero => exact absurd HA.out (by simp [spec_WriteBatch.j0])
  | succ kj3 =>
   have H := HA.out
   clear HA
   simp only [spec_WriteBatch.j0] at H
   replace H := ifb_ H
   obtain ⟨rfl, H⟩ | ⟨rfl, H⟩ := H
   ·simp only [Option.some.injEq, Prod.mk.injEq] at H
    obtain ⟨rfl, rfl⟩ := H
    have hnb23 := NB221_219.out
    have hnc23 := NB219_221.out
    have hnb24 := NB221_220.out
    have hnc24 := NB220_221.out
    obtain ⟨hcz25_0, hfz25_0⟩ := cf1_ BK221.out
    go_wp2
    refine bodyPost_ret (results_ct rfl _ _ gb221 31 #[.slice none 0 0] (0, 0) _ rfl (by (with_reducible repeat (first | refine blk_drewN ?_ _ | refine blk_drew ?_ | refine blk_alloc ?_ _)); refine blk_put (cs := #[.slice none 0 0]) ?_ 0 _ rfl; (with_reducible repeat (first | refine blk_drewN ?_ _ | refine blk_drew ?_ | refine blk_alloc ?_ _)); exact BK221.out) Try.underlying31 rfl (by kernel_rfl)) rfl ?_
    exact ⟨_, er_, ni_, hs3_ GE219.out GE220.out GE221.out⟩
   replace H := ifs_ H
   obtain ⟨c26, H⟩ := H
   have c26b0 := decide_eq_true c26
   clear c26
   replace H := ifs_ H
   obtain ⟨c27, H⟩ := H
   have c27b0 := decide_eq_true c27
   clear c27
   replace H := bnd_ H
   obtain ⟨⟨t225, t226⟩, A28, H⟩ := H
   replace H := red_ H
   have HC29 := Aside0.mk H
   clear H
   have hnb30 := NB219_220.out
   have hnc30 := NB220_219.out
   have hnb31 := NB219_221.out
   have hnc31 := NB221_219.out
   obtain ⟨hcz32_0, hfz32_0⟩ := cf1_ BK219.out
   have p224 : 0 ≤ (a1 : Int) := oa_
   have q224 : a1 < (l0_0.length : Int) := oa_
   obtain ⟨ad224, e224, hx224_0, hx224_1⟩ := at_T56 HR0_0.out a1 p224 q224
   cases e224
   replace hx224_0 := pc_ HB.out hx224_0
   replace hx224_1 := pc_ HB.out hx224_1
   replace p224 := eq_true p224
   replace q224 := eq_true q224
   go_upto_region 4 with (first | ((with_reducible refine gate_callee (f := 50) rfl ?_); refine gl_ 27 Try.func50 #[.string ((rd_T56 l0_0 a1).f0)] rfl ma_ ?_; (with_reducible refine (spec_l1Read.calls kj3 ((rd_T56 l0_0 a1).f0) t225 t226 _ A28.out).mono ?_); rintro e w33 ⟨v227, rfl, ho0, hb⟩; refine ⟨_, rfl, ?_⟩; have HO228 := Aside0.mk (Kd.S_lower (Kd.S_newB ho0 (g := gb220) (o := .cells #[.int .i64 a2_0, .int .i64 a2_1, .int .i64 a2_2, .int .i64 a2_3, .slice A2_4 l2_4.length c2_4] 44 (0, 0)) (kb_ BK220.out)) (below_size (hs3_ GE219.out GE220.out GE221.out))); replace BK219 := bK_ BK219 hb; replace BK220 := bK_ BK220 hb; replace BK221 := bK_ BK221 hb; replace HB := nc3_ GE219 GE220 GE221 hb; (try clear hb); (try clear hb2); (try clear hk); (try clear hi); (try clear ho0)))
   (try simp only [Act.put, List.setIfInBounds_toArray, List.set_cons_zero, List.set_cons_succ])
   go_cut [54] (fun v54 wc => ∃ (kq : Nat) (x54_28 : Bool), v54 = .bool x54_28 ∧ Aside0 (spec_WriteBatch.j1 kq a1 x54_28 l0_0 a2_0 a2_1 a2_2 a2_3 l2_4 = some (r1, r2)) ∧ Aside0 (kq ≤ kj3) ∧ Aside0 (wc.heap[gb219]? = some (.cells #[(.slice (some ad224) l0_0.length c0_0)] 31 (0, 0))) ∧ Aside0 (wc.heap[gb220]? = some (.cells #[.int .i64 a2_0, .int .i64 a2_1, .int .i64 a2_2, .int .i64 a2_3, (.slice A2_4 l2_4.length c2_4)] 44 (0, 0))) ∧ Aside0 (wc.heap[gb221]? = some (.cells #[(.slice none 0 0)] 31 (0, 0))) ∧ Aside0 (Below w.heap.size w wc))
   case first =>
    have H := HC29.out
    clear HC29
    replace H := ite_ H
    obtain ⟨c34, H⟩ | ⟨c34, H⟩ := H
    rotate_left
    ·have c34b0 : (t226 == (((rd_T56 l0_0 a1).f0).size : Int)) = false := beq_eq_false_iff_ne.mpr c34
     have c34b1 : (t226 != (((rd_T56 l0_0 a1).f0).size : Int)) = true := bne_iff_ne.mpr c34
     (first | rw [c34b0] | (simp only [i64_w, i32_w]; rw [c34b0]) | rw [c34b1] | skip)
     have H' := Aside0.mk H
     clear H
     try go_wp2
     replace HO228 := Aside0.mk (Kd.S_drew HO228.out)
     replace BK219 := qK_ BK219
     replace BK220 := qK_ BK220
     replace BK221 := qK_ BK221
     replace HB := qH_ HB
     have p229 : 0 ≤ (a1 : Int) := oa_
     have q229 : a1 < (l0_0.length : Int) := oa_
     obtain ⟨ad229, e229, hx229_0, hx229_1⟩ := at_T56 HR0_0.out a1 p229 q229
     have hw229_1 := hx229_1
     have hw229_0 := hx229_0
     obtain rfl : ad224 = ad229 := (by injection e229)
     replace hx229_0 := pc_ HB.out hx229_0
     replace hx229_1 := pc_ HB.out hx229_1
     replace p229 := eq_true p229
     replace q229 := eq_true q229
     refine start_ (n := 25) (S := fun w' => w'.cell? ⟨gb219, 0, none⟩ = some (.slice (some ad224) l0_0.length c0_0) ∧ w'.cell? (ad224.add ((a1).toNat * 2)) = some (.string ((rd_T56 l0_0 a1).f0)) ∧ w'.cell? ⟨(ad224.add ((a1).toNat * 2)).block, (ad224.add ((a1).toNat * 2)).off + 1, none⟩ = some (.int .i64 ((rd_T56 l0_0 a1).f1))) (ds := []) #[false, false, false, false, false, false, false, false, false, false, false, false, false, false, false, false, false, false, false, false, false, false, false, false, false] (by kernel_rfl) rfl rfl ⟨(blk_cell BK219.out 0).trans rfl, (pc_ HB.out hw229_0), (pc_ HB.out hw229_1)⟩ (fun hHeld => ?_); refine with_tabW spec_WriteBatch.tab4 spec_WriteBatch.bits4 (fun HT_ HW_ => ?_)
     generalize w33.drew = w45 at HO228 BK219 BK220 BK221 HB hx229_0 hx229_1 hHeld ⊢
     refine pv_ 0 30 ?_
     refine pv_ 1 31 ?_
     refine pv_ 3 33 ?_
     refine take_ (i := 2) (N := some 32) (v := ?_) (a' := ?_) #[true, true, true, true, false, false, false, false, false, false, false, false, false, false, false, false, false, false, false, false, false, false, false, false, false] rfl rfl (take_ofW HT_.out HW_.out (by kernel_rfl)) (fun _ _ _ h => h) (Or.inl ⟨by rfl, ?_⟩) hHeld ?_ ?_
     rotate_left
     ·rintro w' ⟨s0, s1, s2⟩
      go_simp
      with_reducible rfl
     rotate_left
     ·simp only [Act.put, List.setIfInBounds_toArray, List.set_cons_zero, List.set_cons_succ, i64_w, i32_w]
      rfl
     refine pv_ 4 34 ?_
     refine pv_ 5 35 ?_
     refine take_ (i := 6) (N := some 36) (v := ?_) (a' := ?_) #[true, true, true, true, true, true, true, false, false, false, false, false, false, false, false, false, false, false, false, false, false, false, false, false, false] rfl rfl (take_ofW HT_.out HW_.out (by kernel_rfl)) (fun _ _ _ h => h) (Or.inl ⟨by rfl, ?_⟩) hHeld ?_ ?_
     rotate_left
     ·rintro w' ⟨s0, s1, s2⟩
      go_simp
      with_reducible rfl
     rotate_left
     ·simp only [Act.put, List.setIfInBounds_toArray, List.set_cons_zero, List.set_cons_succ, i64_w, i32_w]
      rfl
     refine pv_ 7 37 ?_
     refine pv_ 8 38 ?_
     refine pv_ 9 39 ?_
     refine pure_ (i := 10) (N := some 40) (v := undef) (a' := ?_) #[true, true, true, true, true, true, true, true, true, true, true, false, false, false, false, false, false, false, false, false, false, false, false, false, false] rfl rfl (any_of HT_.out (by kernel_rfl)) (fun _ _ _ h => h) (Or.inr ⟨by rfl, rfl⟩) ?_ ?_
     rotate_left
     ·simp only [Act.put, List.setIfInBounds_toArray, List.set_cons_zero, List.set_cons_succ, i64_w, i32_w]
      rfl
     refine pure_ (i := 11) (N := some 41) (v := undef) (a' := ?_) #[true, true, true, true, true, true, true, true, true, true, true, true, false, false, false, false, false, false, false, false, false, false, false, false, false] rfl rfl (any_of HT_.out (by kernel_rfl)) (fun _ _ _ h => h) (Or.inr ⟨by rfl, rfl⟩) ?_ ?_
     rotate_left
     ·simp only [Act.put, List.setIfInBounds_toArray, List.set_cons_zero, List.set_cons_succ, i64_w, i32_w]
      rfl
     refine pure_ (i := 12) (N := some 42) (v := undef) (a' := ?_) #[true, true, true, true, true, true, true, true, true, true, true, true, true, false, false, false, false, false, false, false, false, false, false, false, false] rfl rfl (any_of HT_.out (by kernel_rfl)) (fun _ _ _ h => h) (Or.inr ⟨by rfl, rfl⟩) ?_ ?_
     rotate_left
     ·simp only [Act.put, List.setIfInBounds_toArray, List.set_cons_zero, List.set_cons_succ, i64_w, i32_w]
      rfl
     refine pure_ (i := 13) (N := some 43) (v := undef) (a' := ?_) #[true, true, true, true, true, true, true, true, true, true, true, true, true, true, false, false, false, false, false, false, false, false, false, false, false] rfl rfl (any_of HT_.out (by kernel_rfl)) (fun _ _ _ h => h) (Or.inr ⟨by rfl, rfl⟩) ?_ ?_
     rotate_left
     ·simp only [Act.put, List.setIfInBounds_toArray, List.set_cons_zero, List.set_cons_succ, i64_w, i32_w]
      rfl
     refine pure_ (i := 14) (N := some 44) (v := undef) (a' := ?_) #[true, true, true, true, true, true, true, true, true, true, true, true, true, true, true, false, false, false, false, false, false, false, false, false, false] rfl rfl (any_of HT_.out (by kernel_rfl)) (fun _ _ _ h => h) (Or.inr ⟨by rfl, rfl⟩) ?_ ?_
     rotate_left
     ·simp only [Act.put, List.setIfInBounds_toArray, List.set_cons_zero, List.set_cons_succ, i64_w, i32_w]
      rfl
     refine pure_ (i := 15) (N := some 45) (v := undef) (a' := ?_) #[true, true, true, true, true, true, true, true, true, true, true, true, true, true, true, true, false, false, false, false, false, false, false, false, false] rfl rfl (any_of HT_.out (by kernel_rfl)) (fun _ _ _ h => h) (Or.inr ⟨by rfl, rfl⟩) ?_ ?_
     rotate_left
     ·simp only [Act.put, List.setIfInBounds_toArray, List.set_cons_zero, List.set_cons_succ, i64_w, i32_w]
      rfl
     refine pure_ (i := 16) (N := some 46) (v := undef) (a' := ?_) #[true, true, true, true, true, true, true, true, true, true, true, true, true, true, true, true, true, false, false, false, false, false, false, false, false] rfl rfl (any_of HT_.out (by kernel_rfl)) (fun _ _ _ h => h) (Or.inr ⟨by rfl, rfl⟩) ?_ ?_
     rotate_left
     ·simp only [Act.put, List.setIfInBounds_toArray, List.set_cons_zero, List.set_cons_succ, i64_w, i32_w]
      rfl
     refine pure_ (i := 17) (N := some 47) (v := undef) (a' := ?_) #[true, true, true, true, true, true, true, true, true, true, true, true, true, true, true, true, true, true, false, false, false, false, false, false, false] rfl rfl (any_of HT_.out (by kernel_rfl)) (fun _ _ _ h => h) (Or.inr ⟨by rfl, rfl⟩) ?_ ?_
     rotate_left
     ·simp only [Act.put, List.setIfInBounds_toArray, List.set_cons_zero, List.set_cons_succ, i64_w, i32_w]
      rfl
     refine pure_ (i := 18) (N := some 48) (v := undef) (a' := ?_) #[true, true, true, true, true, true, true, true, true, true, true, true, true, true, true, true, true, true, true, false, false, false, false, false, false] rfl rfl (any_of HT_.out (by kernel_rfl)) (fun _ _ _ h => h) (Or.inr ⟨by rfl, rfl⟩) ?_ ?_
     rotate_left
     ·simp only [Act.put, List.setIfInBounds_toArray, List.set_cons_zero, List.set_cons_succ, i64_w, i32_w]
      rfl
     refine pure_ (i := 19) (N := some 49) (v := undef) (a' := ?_) #[true, true, true, true, true, true, true, true, true, true, true, true, true, true, true, true, true, true, true, true, false, false, false, false, false] rfl rfl (any_of HT_.out (by kernel_rfl)) (fun _ _ _ h => h) (Or.inr ⟨by rfl, rfl⟩) ?_ ?_
     rotate_left
     ·simp only [Act.put, List.setIfInBounds_toArray, List.set_cons_zero, List.set_cons_succ, i64_w, i32_w]
      rfl
     refine pure_ (i := 20) (N := some 50) (v := undef) (a' := ?_) #[true, true, true, true, true, true, true, true, true, true, true, true, true, true, true, true, true, true, true, true, true, false, false, false, false] rfl rfl (any_of HT_.out (by kernel_rfl)) (fun _ _ _ h => h) (Or.inr ⟨by rfl, rfl⟩) ?_ ?_
     rotate_left
     ·simp only [Act.put, List.setIfInBounds_toArray, List.set_cons_zero, List.set_cons_succ, i64_w, i32_w]
      rfl
     refine pure_ (i := 21) (N := some 51) (v := undef) (a' := ?_) #[true, true, true, true, true, true, true, true, true, true, true, true, true, true, true, true, true, true, true, true, true, true, false, false, false] rfl rfl (any_of HT_.out (by kernel_rfl)) (fun _ _ _ h => h) (Or.inr ⟨by rfl, rfl⟩) ?_ ?_
     rotate_left
     ·simp only [Act.put, List.setIfInBounds_toArray, List.set_cons_zero, List.set_cons_succ, i64_w, i32_w]
      rfl
     refine pure_ (i := 22) (N := some 52) (v := undef) (a' := ?_) #[true, true, true, true, true, true, true, true, true, true, true, true, true, true, true, true, true, true, true, true, true, true, true, false, false] rfl rfl (any_of HT_.out (by kernel_rfl)) (fun _ _ _ h => h) (Or.inr ⟨by rfl, rfl⟩) ?_ ?_
     rotate_left
     ·simp only [Act.put, List.setIfInBounds_toArray, List.set_cons_zero, List.set_cons_succ, i64_w, i32_w]
      rfl
     refine pure_ (i := 23) (N := some 53) (v := undef) (a' := ?_) #[true, true, true, true, true, true, true, true, true, true, true, true, true, true, true, true, true, true, true, true, true, true, true, true, false] rfl rfl (any_of HT_.out (by kernel_rfl)) (fun _ _ _ h => h) (Or.inr ⟨by rfl, rfl⟩) ?_ ?_
     rotate_left
     ·simp only [Act.put, List.setIfInBounds_toArray, List.set_cons_zero, List.set_cons_succ, i64_w, i32_w]
      rfl
     refine pv_ 24 54 ?_
     refine done_ (done_of HT_.out (by kernel_rfl)) ?_
     try go_wp2
     go_meet
     case rel => exact ⟨_, (true), sr_, H', ⟨by have := HJ3.out; first | omega | exact Nat.le_refl _⟩, ⟨kb_ BK219.out⟩, ⟨kb_ BK220.out⟩, ⟨kb_ BK221.out⟩, ⟨hs3_ GE219.out GE220.out GE221.out⟩⟩
    have c34b0 : (t226 == (((rd_T56 l0_0 a1).f0).size : Int)) = true := beq_iff_eq.mpr c34
    have c34b1 : (t226 != (((rd_T56 l0_0 a1).f0).size : Int)) = false := bne_eq_false_iff_eq.mpr c34
    clear c34
    (first | rw [c34b0] | (simp only [i64_w, i32_w]; rw [c34b0]) | rw [c34b1] | skip)
    replace H := ite_ H
    obtain ⟨c35, H⟩ | ⟨c35, H⟩ := H
    rotate_left
    ·have c35b0 := dgf_ c35
     have c35b1 : decide (0 < t225.length) = false := decide_eq_false (by omega)
     clear c35
     have H' := Aside0.mk H
     clear H
     try go_wp2
     replace HO228 := Aside0.mk (Kd.S_drew HO228.out)
     replace BK219 := qK_ BK219
     replace BK220 := qK_ BK220
     replace BK221 := qK_ BK221
     replace HB := qH_ HB
     have p229 : 0 ≤ (a1 : Int) := oa_
     have q229 : a1 < (l0_0.length : Int) := oa_
     obtain ⟨ad229, e229, hx229_0, hx229_1⟩ := at_T56 HR0_0.out a1 p229 q229
     have hw229_1 := hx229_1
     have hw229_0 := hx229_0
     obtain rfl : ad224 = ad229 := (by injection e229)
     replace hx229_0 := pc_ HB.out hx229_0
     replace hx229_1 := pc_ HB.out hx229_1
     replace p229 := eq_true p229
     replace q229 := eq_true q229
     obtain ⟨Ao44, co44, eo44⟩ := Kd.S_slice HO228.out
     (first | subst eo44 | (injection eo44 with f1_ f2_ f3_; have f4_ := f1_.symm; have f5_ := f3_.symm; clear f1_ f2_ f3_; subst f4_; subst f5_))
     refine start_ (n := 25) (S := fun w' => w'.cell? ⟨gb219, 0, none⟩ = some (.slice (some ad224) l0_0.length c0_0) ∧ w'.cell? (ad224.add ((a1).toNat * 2)) = some (.string ((rd_T56 l0_0 a1).f0)) ∧ w'.cell? ⟨(ad224.add ((a1).toNat * 2)).block, (ad224.add ((a1).toNat * 2)).off + 1, none⟩ = some (.int .i64 ((rd_T56 l0_0 a1).f1))) (ds := []) #[false, false, false, false, false, false, false, false, false, false, false, false, false, false, false, false, false, false, false, false, false, false, false, false, false] (by kernel_rfl) rfl rfl ⟨(blk_cell BK219.out 0).trans rfl, (pc_ HB.out hw229_0), (pc_ HB.out hw229_1)⟩ (fun hHeld => ?_); refine with_tabW spec_WriteBatch.tab4 spec_WriteBatch.bits4 (fun HT_ HW_ => ?_)
     generalize w33.drew = w43 at HO228 BK219 BK220 BK221 HB hx229_0 hx229_1 hHeld ⊢
     refine pv_ 0 30 ?_
     refine pv_ 1 31 ?_
     refine pv_ 3 33 ?_
     refine take_ (i := 2) (N := some 32) (v := ?_) (a' := ?_) #[true, true, true, true, false, false, false, false, false, false, false, false, false, false, false, false, false, false, false, false, false, false, false, false, false] rfl rfl (take_ofW HT_.out HW_.out (by kernel_rfl)) (fun _ _ _ h => h) (Or.inl ⟨by rfl, ?_⟩) hHeld ?_ ?_
     rotate_left
     ·rintro w' ⟨s0, s1, s2⟩
      go_simp
      with_reducible rfl
     rotate_left
     ·simp only [Act.put, List.setIfInBounds_toArray, List.set_cons_zero, List.set_cons_succ, i64_w, i32_w]
      rfl
     refine pv_ 4 34 ?_
     refine pv_ 5 35 ?_
     refine take_ (i := 6) (N := some 36) (v := ?_) (a' := ?_) #[true, true, true, true, true, true, true, false, false, false, false, false, false, false, false, false, false, false, false, false, false, false, false, false, false] rfl rfl (take_ofW HT_.out HW_.out (by kernel_rfl)) (fun _ _ _ h => h) (Or.inl ⟨by rfl, ?_⟩) hHeld ?_ ?_
     rotate_left
     ·rintro w' ⟨s0, s1, s2⟩
      go_simp
      with_reducible rfl
     rotate_left
     ·simp only [Act.put, List.setIfInBounds_toArray, List.set_cons_zero, List.set_cons_succ, i64_w, i32_w]
      rfl
     refine pv_ 7 37 ?_
     refine pv_ 8 38 ?_
     refine pv_ 9 39 ?_
     refine pv_ 10 40 ?_
     refine pv_ 11 41 ?_
     refine pv_ 12 42 ?_
     refine pv_ 13 43 ?_
     refine pure_ (i := 14) (N := some 44) (v := undef) (a' := ?_) #[true, true, true, true, true, true, true, true, true, true, true, true, true, true, true, false, false, false, false, false, false, false, false, false, false] rfl rfl (any_of HT_.out (by kernel_rfl)) (fun _ _ _ h => h) (Or.inr ⟨by rfl, rfl⟩) ?_ ?_
     rotate_left
     ·simp only [Act.put, List.setIfInBounds_toArray, List.set_cons_zero, List.set_cons_succ, i64_w, i32_w]
      rfl
     refine pure_ (i := 15) (N := some 45) (v := undef) (a' := ?_) #[true, true, true, true, true, true, true, true, true, true, true, true, true, true, true, true, false, false, false, false, false, false, false, false, false] rfl rfl (any_of HT_.out (by kernel_rfl)) (fun _ _ _ h => h) (Or.inr ⟨by rfl, rfl⟩) ?_ ?_
     rotate_left
     ·simp only [Act.put, List.setIfInBounds_toArray, List.set_cons_zero, List.set_cons_succ, i64_w, i32_w]
      rfl
     refine pure_ (i := 16) (N := some 46) (v := undef) (a' := ?_) #[true, true, true, true, true, true, true, true, true, true, true, true, true, true, true, true, true, false, false, false, false, false, false, false, false] rfl rfl (any_of HT_.out (by kernel_rfl)) (fun _ _ _ h => h) (Or.inr ⟨by rfl, rfl⟩) ?_ ?_
     rotate_left
     ·simp only [Act.put, List.setIfInBounds_toArray, List.set_cons_zero, List.set_cons_succ, i64_w, i32_w]
      rfl
     refine pure_ (i := 17) (N := some 47) (v := undef) (a' := ?_) #[true, true, true, true, true, true, true, true, true, true, true, true, true, true, true, true, true, true, false, false, false, false, false, false, false] rfl rfl (any_of HT_.out (by kernel_rfl)) (fun _ _ _ h => h) (Or.inr ⟨by rfl, rfl⟩) ?_ ?_
     rotate_left
     ·simp only [Act.put, List.setIfInBounds_toArray, List.set_cons_zero, List.set_cons_succ, i64_w, i32_w]
      rfl
     refine pure_ (i := 18) (N := some 48) (v := undef) (a' := ?_) #[true, true, true, true, true, true, true, true, true, true, true, true, true, true, true, true, true, true, true, false, false, false, false, false, false] rfl rfl (any_of HT_.out (by kernel_rfl)) (fun _ _ _ h => h) (Or.inr ⟨by rfl, rfl⟩) ?_ ?_
     rotate_left
     ·simp only [Act.put, List.setIfInBounds_toArray, List.set_cons_zero, List.set_cons_succ, i64_w, i32_w]
      rfl
     refine pure_ (i := 19) (N := some 49) (v := undef) (a' := ?_) #[true, true, true, true, true, true, true, true, true, true, true, true, true, true, true, true, true, true, true, true, false, false, false, false, false] rfl rfl (any_of HT_.out (by kernel_rfl)) (fun _ _ _ h => h) (Or.inr ⟨by rfl, rfl⟩) ?_ ?_
     rotate_left
     ·simp only [Act.put, List.setIfInBounds_toArray, List.set_cons_zero, List.set_cons_succ, i64_w, i32_w]
      rfl
     refine pure_ (i := 20) (N := some 50) (v := undef) (a' := ?_) #[true, true, true, true, true, true, true, true, true, true, true, true, true, true, true, true, true, true, true, true, true, false, false, false, false] rfl rfl (any_of HT_.out (by kernel_rfl)) (fun _ _ _ h => h) (Or.inr ⟨by rfl, rfl⟩) ?_ ?_
     rotate_left
     ·simp only [Act.put, List.setIfInBounds_toArray, List.set_cons_zero, List.set_cons_succ, i64_w, i32_w]
      rfl
     refine pure_ (i := 21) (N := some 51) (v := undef) (a' := ?_) #[true, true, true, true, true, true, true, true, true, true, true, true, true, true, true, true, true, true, true, true, true, true, false, false, false] rfl rfl (any_of HT_.out (by kernel_rfl)) (fun _ _ _ h => h) (Or.inr ⟨by rfl, rfl⟩) ?_ ?_
     rotate_left
     ·simp only [Act.put, List.setIfInBounds_toArray, List.set_cons_zero, List.set_cons_succ, i64_w, i32_w]
      rfl
     refine pure_ (i := 22) (N := some 52) (v := undef) (a' := ?_) #[true, true, true, true, true, true, true, true, true, true, true, true, true, true, true, true, true, true, true, true, true, true, true, false, false] rfl rfl (any_of HT_.out (by kernel_rfl)) (fun _ _ _ h => h) (Or.inr ⟨by rfl, rfl⟩) ?_ ?_
     rotate_left
     ·simp only [Act.put, List.setIfInBounds_toArray, List.set_cons_zero, List.set_cons_succ, i64_w, i32_w]
      rfl
     refine pv_ 23 53 ?_
     refine pv_ 24 54 ?_
     refine done_ (done_of HT_.out (by kernel_rfl)) ?_
     try go_wp2
     go_meet
     case rel => exact ⟨_, (false), sr_, H', ⟨by have := HJ3.out; first | omega | exact Nat.le_refl _⟩, ⟨kb_ BK219.out⟩, ⟨kb_ BK220.out⟩, ⟨kb_ BK221.out⟩, ⟨hs3_ GE219.out GE220.out GE221.out⟩⟩
    have c35b0 := dgt_ c35
    have c35b1 : decide (0 < t225.length) = true := decide_eq_true (by omega)
    clear c35
    obtain ⟨ji36, hji36⟩ : ∃ j_ : Int, (wrap64 ((t225.length : Int) - 1)) = j_ := ⟨_, rfl⟩
    first | rw [hji36] at H | simp only [hji36] at H
    have hji36w : (IntKind.i64.wrap ((t225.length : Int) - 1)) = ji36 := (i64_w _).trans hji36
    replace H := ifs_ H
    obtain ⟨c37, H⟩ := H
    have c37b0 := decide_eq_true c37
    clear c37
    replace H := ifs_ H
    obtain ⟨c38, H⟩ := H
    have c38b0 := decide_eq_true c38
    clear c38
    replace H := bnd_ H
    obtain ⟨t231, A39, H⟩ := H
    have H' := Aside0.mk H
    clear H
    try go_wp2
    replace HO228 := Aside0.mk (Kd.S_drew HO228.out)
    replace BK219 := qK_ BK219
    replace BK220 := qK_ BK220
    replace BK221 := qK_ BK221
    replace HB := qH_ HB
    have p229 : 0 ≤ (a1 : Int) := oa_
    have q229 : a1 < (l0_0.length : Int) := oa_
    obtain ⟨ad229, e229, hx229_0, hx229_1⟩ := at_T56 HR0_0.out a1 p229 q229
    have hw229_1 := hx229_1
    have hw229_0 := hx229_0
    obtain rfl : ad224 = ad229 := (by injection e229)
    replace hx229_0 := pc_ HB.out hx229_0
    replace hx229_1 := pc_ HB.out hx229_1
    replace p229 := eq_true p229
    replace q229 := eq_true q229
    obtain ⟨Ao41, co41, eo41⟩ := Kd.S_slice HO228.out
    (first | subst eo41 | (injection eo41 with f1_ f2_ f3_; have f4_ := f1_.symm; have f5_ := f3_.symm; clear f1_ f2_ f3_; subst f4_; subst f5_))
    have p230 : 0 ≤ ((ji36) : Int) := oa_
    have q230 : (ji36) < (t225.length : Int) := oa_
    obtain ⟨ad230, A230_4, c230_4, e230, hx230_0, hx230_1, hx230_2, hx230_3, hx230_4, hl230_4, hi230_4⟩ := at_T44 (Kd.S_reads' HO228.out).2.2 (ji36) p230 q230
    cases e230
    obtain ⟨ce230, hce230, hMe230, hcc230⟩ := Kd.S_get HO228.out z44 (ji36) p230 (by first | exact q230 | exact oa_ | (have e_ := (Kd.S_reads' HO228.out).1; omega))
    obtain ⟨ve230_4, rfl, ge230_4⟩ := k44_openM hMe230
    have hv230_4 := hcc230 4 _ rfl
    rw [add_field _ _ 4 (by omega)] at hv230_4
    replace hv230_4 := Option.some.inj (hv230_4.symm.trans hx230_4)
    rw [hv230_4] at ge230_4
    have HL230_4 := Aside0.mk (show Kd.R Kd.string 9 _ _ _ _ ((rd_T44 t225 (ji36)).f4) from ge230_4)
    clear hv230_4 ge230_4
    clear hcc230 hce230
    have HR230_4 := Aside0.mk hi230_4
    have HC230_4 := Aside0.mk hl230_4
    clear hi230_4 hl230_4
    replace p230 := eq_true p230
    replace q230 := eq_true q230
    refine start_ (n := 25) (S := fun w' => w'.cell? ⟨gb219, 0, none⟩ = some (.slice (some ad224) l0_0.length c0_0) ∧ w'.cell? ⟨gb220, 0, none⟩ = some (.int .i64 a2_0) ∧ w'.cell? ⟨gb220, 1, none⟩ = some (.int .i64 a2_1) ∧ w'.cell? ⟨gb220, 2, none⟩ = some (.int .i64 a2_2) ∧ w'.cell? ⟨gb220, 3, none⟩ = some (.int .i64 a2_3) ∧ w'.cell? ⟨gb220, 4, none⟩ = some (.slice A2_4 l2_4.length c2_4) ∧ w'.cell? (ad224.add ((a1).toNat * 2)) = some (.string ((rd_T56 l0_0 a1).f0)) ∧ w'.cell? ⟨(ad224.add ((a1).toNat * 2)).block, (ad224.add ((a1).toNat * 2)).off + 1, none⟩ = some (.int .i64 ((rd_T56 l0_0 a1).f1)) ∧ w'.cell? (ad230.add (((ji36)).toNat * 5)) = some (.int .i64 ((rd_T44 t225 (ji36)).f0)) ∧ w'.cell? ⟨(ad230.add (((ji36)).toNat * 5)).block, (ad230.add (((ji36)).toNat * 5)).off + 1, none⟩ = some (.int .i64 ((rd_T44 t225 (ji36)).f1)) ∧ w'.cell? ⟨(ad230.add (((ji36)).toNat * 5)).block, (ad230.add (((ji36)).toNat * 5)).off + 2, none⟩ = some (.int .i64 ((rd_T44 t225 (ji36)).f2)) ∧ w'.cell? ⟨(ad230.add (((ji36)).toNat * 5)).block, (ad230.add (((ji36)).toNat * 5)).off + 3, none⟩ = some (.int .i64 ((rd_T44 t225 (ji36)).f3)) ∧ w'.cell? ⟨(ad230.add (((ji36)).toNat * 5)).block, (ad230.add (((ji36)).toNat * 5)).off + 4, none⟩ = some (.slice A230_4 ((rd_T44 t225 (ji36)).f4).length c230_4)) (ds := []) #[false, false, false, false, false, false, false, false, false, false, false, false, false, false, false, false, false, false, false, false, false, false, false, false, false] (by kernel_rfl) rfl rfl ⟨(blk_cell BK219.out 0).trans rfl, (blk_cell BK220.out 0).trans rfl, (blk_cell BK220.out 1).trans rfl, (blk_cell BK220.out 2).trans rfl, (blk_cell BK220.out 3).trans rfl, (blk_cell BK220.out 4).trans rfl, (pc_ HB.out hw229_0), (pc_ HB.out hw229_1), hx230_0, hx230_1, hx230_2, hx230_3, hx230_4⟩ (fun hHeld => ?_); refine with_tabW spec_WriteBatch.tab4 spec_WriteBatch.bits4 (fun HT_ HW_ => ?_)
    generalize w33.drew = w40 at HO228 BK219 BK220 BK221 HB HL230_4 HR230_4 hx229_0 hx229_1 hx230_0 hx230_1 hx230_2 hx230_3 hx230_4 hHeld ⊢
    refine pv_ 0 30 ?_
    refine pv_ 1 31 ?_
    refine pv_ 3 33 ?_
    refine take_ (i := 2) (N := some 32) (v := ?_) (a' := ?_) #[true, true, true, true, false, false, false, false, false, false, false, false, false, false, false, false, false, false, false, false, false, false, false, false, false] rfl rfl (take_ofW HT_.out HW_.out (by kernel_rfl)) (fun _ _ _ h => h) (Or.inl ⟨by rfl, ?_⟩) hHeld ?_ ?_
    rotate_left
    ·rintro w' ⟨s0, s1, s2, s3, s4, s5, s6, s7, s8, s9, s10, s11, s12⟩
     go_simp
     with_reducible rfl
    rotate_left
    ·simp only [Act.put, List.setIfInBounds_toArray, List.set_cons_zero, List.set_cons_succ, i64_w, i32_w]
     rfl
    refine pv_ 4 34 ?_
    refine pv_ 5 35 ?_
    refine take_ (i := 6) (N := some 36) (v := ?_) (a' := ?_) #[true, true, true, true, true, true, true, false, false, false, false, false, false, false, false, false, false, false, false, false, false, false, false, false, false] rfl rfl (take_ofW HT_.out HW_.out (by kernel_rfl)) (fun _ _ _ h => h) (Or.inl ⟨by rfl, ?_⟩) hHeld ?_ ?_
    rotate_left
    ·rintro w' ⟨s0, s1, s2, s3, s4, s5, s6, s7, s8, s9, s10, s11, s12⟩
     go_simp
     with_reducible rfl
    rotate_left
    ·simp only [Act.put, List.setIfInBounds_toArray, List.set_cons_zero, List.set_cons_succ, i64_w, i32_w]
     rfl
    refine pv_ 7 37 ?_
    refine pv_ 8 38 ?_
    refine pv_ 9 39 ?_
    refine pv_ 10 40 ?_
    refine pv_ 11 41 ?_
    refine pv_ 12 42 ?_
    refine pv_ 13 43 ?_
    refine pv_ 14 44 ?_
    refine pv_ 15 45 ?_
    refine pv_ 16 46 ?_
    refine pv_ 17 47 ?_
    refine pv_ 18 48 ?_
    refine take_ (i := 19) (N := some 49) (v := ?_) (a' := ?_) #[true, true, true, true, true, true, true, true, true, true, true, true, true, true, true, true, true, true, true, true, false, false, false, false, false] rfl rfl (take_ofW HT_.out HW_.out (by kernel_rfl)) (fun _ _ _ h => h) (Or.inl ⟨by rfl, ?_⟩) hHeld ?_ ?_
    rotate_left
    ·rintro w' ⟨s0, s1, s2, s3, s4, s5, s6, s7, s8, s9, s10, s11, s12⟩
     go_simp
     with_reducible rfl
    rotate_left
    ·simp only [Act.put, List.setIfInBounds_toArray, List.set_cons_zero, List.set_cons_succ, i64_w, i32_w]
     rfl
    refine take_ (i := 20) (N := some 50) (v := ?_) (a' := ?_) #[true, true, true, true, true, true, true, true, true, true, true, true, true, true, true, true, true, true, true, true, true, false, false, false, false] rfl rfl (take_ofW HT_.out HW_.out (by kernel_rfl)) (fun _ _ _ h => h) (Or.inl ⟨by rfl, ?_⟩) hHeld ?_ ?_
    rotate_left
    ·rintro w' ⟨s0, s1, s2, s3, s4, s5, s6, s7, s8, s9, s10, s11, s12⟩
     go_simp
     with_reducible rfl
    rotate_left
    ·simp only [Act.put, List.setIfInBounds_toArray, List.set_cons_zero, List.set_cons_succ, i64_w, i32_w]
     rfl
    refine one_ (i := 21) (N := some 51) #[true, true, true, true, true, true, true, true, true, true, true, true, true, true, true, true, true, true, true, true, true, true, false, false, false] rfl rfl (one_of HT_.out (by kernel_rfl)) (by decide) (fun K hK => ?_)
    refine gs_ Try.func60 #[.agg #[.int .i64 ((rd_T44 t225 (ji36)).f0), .int .i64 ((rd_T44 t225 (ji36)).f1), .int .i64 ((rd_T44 t225 (ji36)).f2), .int .i64 ((rd_T44 t225 (ji36)).f3), .slice A230_4 ((rd_T44 t225 (ji36)).f4).length c230_4], .agg #[.int .i64 a2_0, .int .i64 a2_1, .int .i64 a2_2, .int .i64 a2_3, .slice A2_4 l2_4.length c2_4]] rfl (mb_ hji36) ?_
    with_reducible refine (spec_l1Next.calls ((rd_T44 t225 (ji36)).f0) ((rd_T44 t225 (ji36)).f1) ((rd_T44 t225 (ji36)).f2) ((rd_T44 t225 (ji36)).f3) _ _ ((rd_T44 t225 (ji36)).f4) a2_0 a2_1 a2_2 a2_3 _ _ l2_4 t231 _ ?side1 ?side2 ?side3 ?side4 A39.out).mono ?_
    (case side1 => repeat (first | exact (by repeat (first | (with_reducible exact HR230_4.out) | (with_reducible refine Kd.C_alloc ?_ _) | (with_reducible refine Kd.C_drewN ?_ _) | (with_reducible refine Kd.C_drew ?_) | exact HR230_4.out)) | (with_reducible refine Kd.C_alloc ?_ _) | (with_reducible refine Kd.C_drewN ?_ _) | (with_reducible refine Kd.C_drew ?_)))
    (case side2 => exact HC230_4.out)
    (case side3 => exact cs_ ((Kd.C_below HR2_4.out HB.out)))
    (case side4 => exact HC2_4.out)
    rintro e w42 ⟨rfl, hb⟩
    have HS8_ := (hb.cell (World.block_lt_of_cell? _ _ (hHeld.2.2.2.2.2.2.2.2.1))).trans (hHeld.2.2.2.2.2.2.2.2.1)
    have HS9_ := (hb.cell (World.block_lt_of_cell? _ _ (hHeld.2.2.2.2.2.2.2.2.2.1))).trans (hHeld.2.2.2.2.2.2.2.2.2.1)
    have HS10_ := (hb.cell (World.block_lt_of_cell? _ _ (hHeld.2.2.2.2.2.2.2.2.2.2.1))).trans (hHeld.2.2.2.2.2.2.2.2.2.2.1)
    have HS11_ := (hb.cell (World.block_lt_of_cell? _ _ (hHeld.2.2.2.2.2.2.2.2.2.2.2.1))).trans (hHeld.2.2.2.2.2.2.2.2.2.2.2.1)
    have HS12_ := (hb.cell (World.block_lt_of_cell? _ _ (hHeld.2.2.2.2.2.2.2.2.2.2.2.2))).trans (hHeld.2.2.2.2.2.2.2.2.2.2.2.2)
    refine ⟨_, rfl, ?_⟩
    replace HO228 := sB_ HO228 hb
    replace HL230_4 := rB_ HL230_4 hb
    replace BK219 := bK_ BK219 hb
    replace BK220 := bK_ BK220 hb
    replace BK221 := bK_ BK221 hb
    replace HR230_4 := Aside0.mk (Kd.C_below (by repeat (first | (with_reducible exact HR230_4.out) | (with_reducible refine Kd.C_alloc ?_ _) | (with_reducible refine Kd.C_drewN ?_ _) | (with_reducible refine Kd.C_drew ?_) | exact HR230_4.out)) hb)
    replace HB := nc3_ GE219 GE220 GE221 hb
    (try clear hb)
    (try clear hb2)
    (try clear hk)
    (try clear hi)
    refine hK.out _ _ ⟨(blk_cell BK219.out 0).trans rfl, (blk_cell BK220.out 0).trans rfl, (blk_cell BK220.out 1).trans rfl, (blk_cell BK220.out 2).trans rfl, (blk_cell BK220.out 3).trans rfl, (blk_cell BK220.out 4).trans rfl, (pc_ HB.out hw229_0), (pc_ HB.out hw229_1), HS8_, HS9_, HS10_, HS11_, HS12_⟩ (fun hHeld => ?_)
    clear hK K
    refine no_ ?_
    refine pv_ 22 52 ?_
    refine pv_ 23 53 ?_
    refine pv_ 24 54 ?_
    refine done_ (done_of HT_.out (by kernel_rfl)) ?_
    try go_wp2
    go_meet
    case rel => exact ⟨_, (!t231), sr_, H', ⟨by have := HJ3.out; first | omega | exact Nat.le_refl _⟩, ⟨kb_ BK219.out⟩, ⟨kb_ BK220.out⟩, ⟨kb_ BK221.out⟩, ⟨hs3_ GE219.out GE220.out GE221.out⟩⟩
   case rest =>
    clear HC29
    try clear c2
    try clear p2
    try clear q2
    try clear hx2
    try clear c3
    try clear c6
    try clear p22
    try clear q22
    try clear hx22
    try clear c23
    try clear c34
    try clear c34b0
    try clear c34b1
    try clear c35
    try clear c35b0
    try clear c35b1
    try clear c37
    try clear c38
    try clear hx229_0
    try clear hx229_1
    try clear p229
    try clear q229
    obtain ⟨kq, x54_28, rfl, HA, HJ28, BK219, BK220, BK221, HB⟩ := hcut
    cases kq with
    | zero => exact absurd HA.out (by simp [spec_WriteBatch.j1])
    | succ kj28 =>
     have H := HA.out
     clear HA
     simp only [spec_WriteBatch.j1] at H
     replace H := ifb_ H
     obtain ⟨rfl, H⟩ | ⟨rfl, H⟩ := H
     ·simp only [Option.some.injEq, Prod.mk.injEq] at H
      obtain ⟨rfl, rfl⟩ := H
      have hnb47 := NB221_219.out
      have hnc47 := NB219_221.out
      have hnb48 := NB221_220.out
      have hnc48 := NB220_221.out
      obtain ⟨hcz49_0, hfz49_0⟩ := cf1_ BK221.out
      go_wp2
      refine bodyPost_ret (results_ct rfl _ _ gb221 31 #[.slice none 0 0] (0, 0) _ rfl (by (with_reducible repeat (first | refine blk_drewN ?_ _ | refine blk_drew ?_ | refine blk_alloc ?_ _)); refine blk_put (cs := #[.slice none 0 0]) ?_ 0 _ rfl; (with_reducible repeat (first | refine blk_drewN ?_ _ | refine blk_drew ?_ | refine blk_alloc ?_ _)); exact BK221.out) Try.underlying31 rfl (by kernel_rfl)) rfl ?_
      exact ⟨_, er_, ni_, hs3_ GE219.out GE220.out GE221.out⟩
     replace H := bnd_ H
     obtain ⟨t232, A50, H⟩ := H
     replace H := bnd_ H
     obtain ⟨⟨t233, t236⟩, A51, H⟩ := H
     replace H := red_ H
     simp only [Option.some.injEq, Prod.mk.injEq] at H
     obtain ⟨rfl, rfl⟩ := H
     try go_wp2
     replace BK219 := qK_ BK219
     replace BK220 := qK_ BK220
     replace BK221 := qK_ BK221
     replace HB := qH_ HB
     refine start_ (n := 9) (S := fun w' => w'.cell? ⟨gb219, 0, none⟩ = some (.slice (some ad224) l0_0.length c0_0) ∧ w'.cell? ⟨gb220, 0, none⟩ = some (.int .i64 a2_0) ∧ w'.cell? ⟨gb220, 1, none⟩ = some (.int .i64 a2_1) ∧ w'.cell? ⟨gb220, 2, none⟩ = some (.int .i64 a2_2) ∧ w'.cell? ⟨gb220, 3, none⟩ = some (.int .i64 a2_3) ∧ w'.cell? ⟨gb220, 4, none⟩ = some (.slice A2_4 l2_4.length c2_4)) (ds := []) #[false, false, false, false, false, false, false, false, false] (by kernel_rfl) rfl rfl ⟨(blk_cell BK219.out 0).trans rfl, (blk_cell BK220.out 0).trans rfl, (blk_cell BK220.out 1).trans rfl, (blk_cell BK220.out 2).trans rfl, (blk_cell BK220.out 3).trans rfl, (blk_cell BK220.out 4).trans rfl⟩ (fun hHeld => ?_); refine with_tabW spec_WriteBatch.tab6 spec_WriteBatch.bits6 (fun HT_ HW_ => ?_)
     generalize wc.drew = w52 at BK219 BK220 BK221 HB hHeld ⊢
     refine pv_ 1 57 ?_
     refine take_ (i := 0) (N := some 56) (v := ?_) (a' := ?_) #[true, true, false, false, false, false, false, false, false] rfl rfl (take_ofW HT_.out HW_.out (by kernel_rfl)) (fun _ _ _ h => h) (Or.inl ⟨by rfl, ?_⟩) hHeld ?_ ?_
     rotate_left
     ·rintro w' ⟨s0, s1, s2, s3, s4, s5⟩
      go_simp
      with_reducible rfl
     rotate_left
     ·simp only [Act.put, List.setIfInBounds_toArray, List.set_cons_zero, List.set_cons_succ, i64_w, i32_w]
      rfl
     refine take_ (i := 2) (N := some 58) (v := ?_) (a' := ?_) #[true, true, true, false, false, false, false, false, false] rfl rfl (take_ofW HT_.out HW_.out (by kernel_rfl)) (fun _ _ _ h => h) (Or.inl ⟨by rfl, ?_⟩) hHeld ?_ ?_
     rotate_left
     ·rintro w' ⟨s0, s1, s2, s3, s4, s5⟩
      go_simp
      with_reducible rfl
     rotate_left
     ·simp only [Act.put, List.setIfInBounds_toArray, List.set_cons_zero, List.set_cons_succ, i64_w, i32_w]
      rfl
     refine one_ (i := 3) (N := some 59) #[true, true, true, true, false, false, false, false, false] rfl rfl (one_of HT_.out (by kernel_rfl)) (by decide) (fun K hK => ?_)
     refine gs_ Try.func61 #[.agg #[.int .i64 a2_0, .int .i64 a2_1, .int .i64 a2_2, .int .i64 a2_3, .slice A2_4 l2_4.length c2_4]] rfl ma_ ?_
     with_reducible refine (spec_l1Batch.calls kj28 a2_0 a2_1 a2_2 a2_3 _ _ l2_4 t232 _ ?side1 ?side2 A50.out).mono ?_
     (case side1 => exact cs_ ((Kd.C_below HR2_4.out HB.out)))
     (case side2 => exact HC2_4.out)
     rintro e w53 ⟨rfl, hb⟩
     refine ⟨_, rfl, ?_⟩
     replace BK219 := bK_ BK219 hb
     replace BK220 := bK_ BK220 hb
     replace BK221 := bK_ BK221 hb
     replace HB := nc3_ GE219 GE220 GE221 hb
     (try clear hb)
     (try clear hb2)
     (try clear hk)
     (try clear hi)
     refine hK.out _ _ ⟨(blk_cell BK219.out 0).trans rfl, (blk_cell BK220.out 0).trans rfl, (blk_cell BK220.out 1).trans rfl, (blk_cell BK220.out 2).trans rfl, (blk_cell BK220.out 3).trans rfl, (blk_cell BK220.out 4).trans rfl⟩ (fun hHeld => ?_)
     clear hK K
     refine no_ ?_
     refine one_ (i := 4) (N := some 60) #[true, true, true, true, true, false, false, false, false] rfl rfl (one_of HT_.out (by kernel_rfl)) (by decide) (fun K hK => ?_)
     refine gs_ Try.func32 #[.agg #[.slice (some ad224) l0_0.length c0_0], .int .i64 a1, .string t232] rfl ma_ ?_
     with_reducible refine (spec_AppendTo.calls kj28 _ _ l0_0 a1 t232 t233 t236 _ ?side1 ?side2 A51.out).mono ?_
     (case side1 => exact cs_ ((Kd.C_below HR0_0.out HB.out)))
     (case side2 => exact HC0_0.out)
     rintro e w54 ⟨v234, rfl, ho0, hb⟩
     refine ⟨_, rfl, ?_⟩
     have HO235 := Aside0.mk (Kd.R_lower ho0 (below_size (hs3_ GE219.out GE220.out GE221.out)))
     replace BK219 := bK_ BK219 hb
     replace BK220 := bK_ BK220 hb
     replace BK221 := bK_ BK221 hb
     replace HB := nc3_ GE219 GE220 GE221 hb
     (try clear hb)
     (try clear hb2)
     (try clear hk)
     (try clear hi)
     (try clear ho0)
     obtain ⟨Ao55, co55, eo55⟩ := Kd.R_slice HO235.out
     (first | subst eo55 | (injection eo55 with f1_ f2_ f3_; have f4_ := f1_.symm; have f5_ := f3_.symm; clear f1_ f2_ f3_; subst f4_; subst f5_))
     refine hK.out _ _ ⟨(blk_cell BK219.out 0).trans rfl, (blk_cell BK220.out 0).trans rfl, (blk_cell BK220.out 1).trans rfl, (blk_cell BK220.out 2).trans rfl, (blk_cell BK220.out 3).trans rfl, (blk_cell BK220.out 4).trans rfl⟩ (fun hHeld => ?_)
     clear hK K
     refine no_ ?_
     refine pv_ 5 61 ?_
     refine pv_ 6 62 ?_
     refine one_ (i := 7) (N := none) #[true, true, true, true, true, true, true, true, false] rfl rfl (one_of HT_.out (by kernel_rfl)) (by decide) (fun K hK => ?_)
     obtain ⟨hs56, hfs56⟩ := cf1_ BK221.out
     have hns56_0 := NB219_221.out
     have hns56_1 := NB220_221.out
     have hms56_0 := NB221_219.out
     have hms56_1 := NB221_220.out
     refine skip_ (w1 := ?_) (by rfl) rfl ?_ ?_
     rotate_left
     ·go_simp
      rfl
     refine hK.out _ _ ⟨((cell_far (p := ⟨gb221, _, none⟩) NB219_221.out _).trans (hHeld.1)), ((cell_far (p := ⟨gb221, _, none⟩) NB220_221.out _).trans (hHeld.2.1)), ((cell_far (p := ⟨gb221, _, none⟩) NB220_221.out _).trans (hHeld.2.2.1)), ((cell_far (p := ⟨gb221, _, none⟩) NB220_221.out _).trans (hHeld.2.2.2.1)), ((cell_far (p := ⟨gb221, _, none⟩) NB220_221.out _).trans (hHeld.2.2.2.2.1)), ((cell_far (p := ⟨gb221, _, none⟩) NB220_221.out _).trans (hHeld.2.2.2.2.2))⟩ (fun hHeld => ?_)
     clear hK K
     refine pv_ 8 7 ?_
     refine done_ (done_of HT_.out (by kernel_rfl)) ?_
     try go_wp2
     refine bodyPost_ret (results_ct rfl _ _ gb221 31 #[.slice Ao55 t233.length co55] (0, 0) _ rfl (by (with_reducible repeat (first | refine blk_drewN ?_ _ | refine blk_drew ?_ | refine blk_alloc ?_ _)); refine blk_put (cs := #[.slice none 0 0]) ?_ 0 _ rfl; (with_reducible repeat (first | refine blk_drewN ?_ _ | refine blk_drew ?_ | refine blk_alloc ?_ _)); exact BK221.out) Try.underlying31 rfl (by kernel_rfl)) rfl ?_
     exact ⟨_, er_, by (with_reducible repeat (first | apply Kd.R_alloc | apply Kd.R_drewN | apply Kd.R_drew)); exact Kd.R_mono (Kd.R_far (p := ⟨gb221, 0, none⟩) (Kd.R_types HO235.out BK221.out (by decide)) (fun _ hk => hk.2) (.slice Ao55 t233.length co55)) (fun _ hk => trivial), hs3_ GE219.out GE220.out GE221.out⟩

end Go.Proofs.Ytpdpipfkllfhmaa.QFnExactWriteBatch
