/- For each Go function that one statement reaches: a plain function with the same answers, and the proof that the call comes to them. Conditions: those that each contract names. Written by a program of this repository. -/
import Derived.Test.YtjjhebkkpeapkaaVFnLogsa
import Derived.Test.YtjjhebkkpeapkaaQFnLogsx0
import Derived.Test.YtjjhebkkpeapkaaQFnLogsx5
namespace Go.Proofs.Ytjjhebkkpeapkaa.QFnLogs
open Go.RowKit Go.Proofs.YtjjhebkkpeapkaaW.PrintWords Go.Proofs.YtjjhebkkpeapkaaW.PrintLast Go.Proofs.YtjjhebkkpeapkaaW.PrintMore
attribute [local go_sem] max2_int min2_int max_two min_two max_three min_three max_four min_four Go.Proofs.YtjjhebkkpeapkaaW.PrintMore2.isSome_setCell   -- for this text's walks alone
set_option linter.unusedVariables false
set_option linter.unusedSimpArgs false

/-! ### impl_follows: function 60 -/
def impl_follows.f (l0 : List (S25)) (a1_0 : Int) (a1_1 : Int) (a1_2 : Int) (a1_3 : Int) (l1_4 : List ByteArray) : Option (Bool) := if (l0.length : Int) = 0 then (some true) else (if 0 ≤ (wrap64 ((l0.length : Int) - 1)) then (if (wrap64 ((l0.length : Int) - 1)) < (l0.length : Int) then ((impl_Batch_end.f ((rd_T25 l0 (wrap64 ((l0.length : Int) - 1))).f0) ((rd_T25 l0 (wrap64 ((l0.length : Int) - 1))).f1) ((rd_T25 l0 (wrap64 ((l0.length : Int) - 1))).f2) ((rd_T25 l0 (wrap64 ((l0.length : Int) - 1))).f3) ((rd_T25 l0 (wrap64 ((l0.length : Int) - 1))).f4)).bind fun t237 => (if a1_0 = t237 then (some (decide (a1_1 ≥ ((rd_T25 l0 (wrap64 ((l0.length : Int) - 1))).f1)))) else (some false))) else (none)) else (none))
def impl_follows.T4 : Bool × List (List Nat × List Nat) := (true, [([], []), ([0], [0]), ([], []), ([2], [2]), ([1, 3], [1, 3]), ([4, 3], [4]), ([5], [5]), ([6, 5], [5, 6]), ([5], [5]), ([8, 5], [5, 8]), ([7, 9, 5], [5, 7, 9]), ([5, 10], [5, 10]), ([11, 5, 0, 1, 2, 3, 4, 5, 6, 7, 8, 9, 10, 11], [11])])
def impl_follows.B4 : List Nat := [0, 1, 0, 4, 15, 31, 63, 127, 63, 319, 1023, 2047, 4095]
theorem impl_follows.tab4 : rtab .any (opsOf Try.f60 4) = impl_follows.T4 := by kernel_rfl
theorem impl_follows.bits4 : waitsOk impl_follows.T4.2 impl_follows.B4 = true := by kernel_rfl
set_option maxHeartbeats 8000000 in
set_option maxRecDepth 100000 in
theorem impl_follows.calls (A0 : Option Addr) (c0 : Nat) (l0 : List (S25)) (a1_0 : Int) (a1_1 : Int) (a1_2 : Int) (a1_3 : Int) (A1_4 : Option Addr) (c1_4 : Nat) (l1_4 : List ByteArray) (r : Bool) (w : World) (hr0 : Kd.C k25 w A0 l0.length l0) (hc0 : l0.length ≤ c0) (hr1_4 : Kd.C Kd.string w A1_4 l1_4.length l1_4) (hc1_4 : l1_4.length ≤ c1_4) (h : impl_follows.f l0 a1_0 a1_1 a1_2 a1_3 l1_4 = some r) :
  Calls Try.prog 60 #[.slice A0 l0.length c0, .agg #[.int .i64 a1_0, .int .i64 a1_1, .int .i64 a1_2, .int .i64 a1_3, .slice A1_4 l1_4.length c1_4]] w fun e w' => e = .returned (.bool r) ∧ Below w.heap.size w w' := by
 have hu25 := Try.underlying25
 have HR0 := Aside0.mk hr0
 have HC0 := Aside0.mk hc0
 clear hr0 hc0
 have HR1_4 := Aside0.mk hr1_4
 have HC1_4 := Aside0.mk hc1_4
 clear hr1_4 hc1_4
 have HB := Aside0.mk (Below.refl w.heap.size w)
 have H : (if (l0.length : Int) = 0 then (some true) else (if 0 ≤ (wrap64 ((l0.length : Int) - 1)) then (if (wrap64 ((l0.length : Int) - 1)) < (l0.length : Int) then ((impl_Batch_end.f ((rd_T25 l0 (wrap64 ((l0.length : Int) - 1))).f0) ((rd_T25 l0 (wrap64 ((l0.length : Int) - 1))).f1) ((rd_T25 l0 (wrap64 ((l0.length : Int) - 1))).f2) ((rd_T25 l0 (wrap64 ((l0.length : Int) - 1))).f3) ((rd_T25 l0 (wrap64 ((l0.length : Int) - 1))).f4)).bind fun t237 => (if a1_0 = t237 then (some (decide (a1_1 ≥ ((rd_T25 l0 (wrap64 ((l0.length : Int) - 1))).f1)))) else (some false))) else (none)) else (none))) = some r := h
 clear h
 replace H := ite_ H
 obtain ⟨c3, H⟩ | ⟨c3, H⟩ := H
 ·have c3b0 : ((l0.length : Int) == 0) = true := beq_iff_eq.mpr c3
  have c3b1 : ((l0.length : Int) != 0) = false := bne_eq_false_iff_eq.mpr c3
  clear c3
  obtain rfl := Option.some.inj H
  go_enter Try.func60, Try.ntmps60
  go_wp2_with (first | ((with_reducible refine gate_dst (N := 3) rfl ?_); refine be_ (N := 3) #[.int .i64 a1_0, .int .i64 a1_1, .int .i64 a1_2, .int .i64 a1_3, .slice A1_4 l1_4.length c1_4] 25 ?_; intro gb234 hg w4 hbox hb; have BK234 := Aside0.mk (hbox); have GW234 := ge_ hg; have GE234 := ge_ hg; replace HB := nb_ hb; clear hb hbox hg))
  go_ret
  exact ⟨er_, hs_ GE234.out⟩
 have c3b0 : ((l0.length : Int) == 0) = false := beq_eq_false_iff_ne.mpr c3
 have c3b1 : ((l0.length : Int) != 0) = true := bne_iff_ne.mpr c3
 have c3b2 : ¬ (l0 = []) := fun h_ => c3 (by rw [h_]; rfl)
 obtain ⟨ji5, hji5⟩ : ∃ j_ : Int, (wrap64 ((l0.length : Int) - 1)) = j_ := ⟨_, rfl⟩
 first | rw [hji5] at H | simp only [hji5] at H
 have hji5w : (IntKind.i64.wrap ((l0.length : Int) - 1)) = ji5 := (i64_w _).trans hji5
 replace H := ifs_ H
 obtain ⟨c6, H⟩ := H
 have c6b0 := decide_eq_true c6
 clear c6
 replace H := ifs_ H
 obtain ⟨c7, H⟩ := H
 have c7b0 := decide_eq_true c7
 clear c7
 replace H := bnd_ H
 obtain ⟨t237, A8, H⟩ := H
 replace H := ite_ H
 obtain ⟨c9, H⟩ | ⟨c9, H⟩ := H
 ·have c9b0 : (a1_0 == t237) = true := beq_iff_eq.mpr c9
  have c9b1 : (a1_0 != t237) = false := bne_eq_false_iff_eq.mpr c9
  clear c9
  obtain rfl := Option.some.inj H
  go_enter Try.func60, Try.ntmps60
  try go_wp2_with (first | ((with_reducible refine gate_dst (N := 3) rfl ?_); refine be_ (N := 3) #[.int .i64 a1_0, .int .i64 a1_1, .int .i64 a1_2, .int .i64 a1_3, .slice A1_4 l1_4.length c1_4] 25 ?_; intro gb234 hg w10 hbox hb; have BK234 := Aside0.mk (hbox); have GW234 := ge_ hg; have GE234 := ge_ hg; replace HB := nb_ hb; clear hb hbox hg; have p235 : 0 ≤ ((ji5) : Int) := oa_; have q235 : (ji5) < (l0.length : Int) := oa_; obtain ⟨ad235, A235_4, c235_4, e235, hx235_0, hx235_1, hx235_2, hx235_3, hx235_4, hl235_4, hi235_4⟩ := at_T25 HR0.out (ji5) p235 q235; cases e235; replace hx235_0 := pc_ HB.out hx235_0; replace hx235_1 := pc_ HB.out hx235_1; replace hx235_2 := pc_ HB.out hx235_2; replace hx235_3 := pc_ HB.out hx235_3; replace hx235_4 := pc_ HB.out hx235_4; have HR235_4 := Aside0.mk hi235_4; have HC235_4 := Aside0.mk hl235_4; clear hi235_4 hl235_4; replace p235 := eq_true p235; replace q235 := eq_true q235) | ((with_reducible refine gate_dst (N := 5) rfl ?_); refine be_ (N := 5) #[.int .i64 0, .int .i64 0, .int .i64 0, .int .i64 0, .slice none 0 0] 25 ?_; intro gb236 hg w11 hbox hb; have BK236 := Aside0.mk (hbox); have GW236 := ge1_ hg GE234; have GE236 := ge1_ hg GE234; replace HB := nc_ GE234 hb; have NB234_236 := nl_ BK234 hg; have NB236_234 := ng_ BK234 hg; replace BK234 := bK_ BK234 hb; clear hb hbox hg; have hnb12 := NB236_234.out; have hnc12 := NB234_236.out; obtain ⟨hcz13_0, hcz13_1, hcz13_2, hcz13_3, hcz13_4, hfz13_0, hfz13_1, hfz13_2, hfz13_3, hfz13_4⟩ := cf5_ BK236.out))
  have n0_ : Aside0 ((((((w11.setCell ⟨gb236, 0, none⟩ (.int .i64 ((rd_T25 l0 (ji5)).f0))).setCell ⟨gb236, 1, none⟩ (.int .i64 ((rd_T25 l0 (ji5)).f1))).setCell ⟨gb236, 2, none⟩ (.int .i64 ((rd_T25 l0 (ji5)).f2))).setCell ⟨gb236, 3, none⟩ (.int .i64 ((rd_T25 l0 (ji5)).f3))).setCell ⟨gb236, 4, none⟩ (.slice A235_4 ((rd_T25 l0 (ji5)).f4).length c235_4)).heap[gb234]? = some (.cells #[.int .i64 a1_0, .int .i64 a1_1, .int .i64 a1_2, .int .i64 a1_3, .slice A1_4 l1_4.length c1_4] 25 (0, 0))) := ⟨by (with_reducible repeat (first | refine blk_drewN ?_ _ | refine blk_drew ?_ | refine blk_alloc ?_ _)); refine blk_far ?_ NB234_236.out _; (with_reducible repeat (first | refine blk_drewN ?_ _ | refine blk_drew ?_ | refine blk_alloc ?_ _)); refine blk_far ?_ NB234_236.out _; (with_reducible repeat (first | refine blk_drewN ?_ _ | refine blk_drew ?_ | refine blk_alloc ?_ _)); refine blk_far ?_ NB234_236.out _; (with_reducible repeat (first | refine blk_drewN ?_ _ | refine blk_drew ?_ | refine blk_alloc ?_ _)); refine blk_far ?_ NB234_236.out _; (with_reducible repeat (first | refine blk_drewN ?_ _ | refine blk_drew ?_ | refine blk_alloc ?_ _)); refine blk_far ?_ NB234_236.out _; (with_reducible repeat (first | refine blk_drewN ?_ _ | refine blk_drew ?_ | refine blk_alloc ?_ _)); exact BK234.out⟩
  have n1_ : Aside0 ((((((w11.setCell ⟨gb236, 0, none⟩ (.int .i64 ((rd_T25 l0 (ji5)).f0))).setCell ⟨gb236, 1, none⟩ (.int .i64 ((rd_T25 l0 (ji5)).f1))).setCell ⟨gb236, 2, none⟩ (.int .i64 ((rd_T25 l0 (ji5)).f2))).setCell ⟨gb236, 3, none⟩ (.int .i64 ((rd_T25 l0 (ji5)).f3))).setCell ⟨gb236, 4, none⟩ (.slice A235_4 ((rd_T25 l0 (ji5)).f4).length c235_4)).heap[gb236]? = some (.cells #[.int .i64 ((rd_T25 l0 (ji5)).f0), .int .i64 ((rd_T25 l0 (ji5)).f1), .int .i64 ((rd_T25 l0 (ji5)).f2), .int .i64 ((rd_T25 l0 (ji5)).f3), .slice A235_4 ((rd_T25 l0 (ji5)).f4).length c235_4] 25 (0, 0))) := ⟨by (with_reducible repeat (first | refine blk_drewN ?_ _ | refine blk_drew ?_ | refine blk_alloc ?_ _)); refine blk_put (cs := #[.int .i64 ((rd_T25 l0 (ji5)).f0), .int .i64 ((rd_T25 l0 (ji5)).f1), .int .i64 ((rd_T25 l0 (ji5)).f2), .int .i64 ((rd_T25 l0 (ji5)).f3), .slice none 0 0]) ?_ 4 _ rfl; (with_reducible repeat (first | refine blk_drewN ?_ _ | refine blk_drew ?_ | refine blk_alloc ?_ _)); refine blk_put (cs := #[.int .i64 ((rd_T25 l0 (ji5)).f0), .int .i64 ((rd_T25 l0 (ji5)).f1), .int .i64 ((rd_T25 l0 (ji5)).f2), .int .i64 0, .slice none 0 0]) ?_ 3 _ rfl; (with_reducible repeat (first | refine blk_drewN ?_ _ | refine blk_drew ?_ | refine blk_alloc ?_ _)); refine blk_put (cs := #[.int .i64 ((rd_T25 l0 (ji5)).f0), .int .i64 ((rd_T25 l0 (ji5)).f1), .int .i64 0, .int .i64 0, .slice none 0 0]) ?_ 2 _ rfl; (with_reducible repeat (first | refine blk_drewN ?_ _ | refine blk_drew ?_ | refine blk_alloc ?_ _)); refine blk_put (cs := #[.int .i64 ((rd_T25 l0 (ji5)).f0), .int .i64 0, .int .i64 0, .int .i64 0, .slice none 0 0]) ?_ 1 _ rfl; (with_reducible repeat (first | refine blk_drewN ?_ _ | refine blk_drew ?_ | refine blk_alloc ?_ _)); refine blk_put (cs := #[.int .i64 0, .int .i64 0, .int .i64 0, .int .i64 0, .slice none 0 0]) ?_ 0 _ rfl; (with_reducible repeat (first | refine blk_drewN ?_ _ | refine blk_drew ?_ | refine blk_alloc ?_ _)); exact BK236.out⟩
  have n2_ : Aside0 (Below w.heap.size w (((((w11.setCell ⟨gb236, 0, none⟩ (.int .i64 ((rd_T25 l0 (ji5)).f0))).setCell ⟨gb236, 1, none⟩ (.int .i64 ((rd_T25 l0 (ji5)).f1))).setCell ⟨gb236, 2, none⟩ (.int .i64 ((rd_T25 l0 (ji5)).f2))).setCell ⟨gb236, 3, none⟩ (.int .i64 ((rd_T25 l0 (ji5)).f3))).setCell ⟨gb236, 4, none⟩ (.slice A235_4 ((rd_T25 l0 (ji5)).f4).length c235_4))) := ⟨hs2_ GE234.out GE236.out⟩
  (try clear BK234)
  (try clear BK236)
  (try clear HB)
  generalize (((((w11.setCell ⟨gb236, 0, none⟩ (.int .i64 ((rd_T25 l0 (ji5)).f0))).setCell ⟨gb236, 1, none⟩ (.int .i64 ((rd_T25 l0 (ji5)).f1))).setCell ⟨gb236, 2, none⟩ (.int .i64 ((rd_T25 l0 (ji5)).f2))).setCell ⟨gb236, 3, none⟩ (.int .i64 ((rd_T25 l0 (ji5)).f3))).setCell ⟨gb236, 4, none⟩ (.slice A235_4 ((rd_T25 l0 (ji5)).f4).length c235_4)) = w14 at n0_ n1_ n2_ ⊢
  have BK234 := n0_
  have BK236 := n1_
  have HB := n2_
  clear n0_ n1_ n2_
  replace BK234 := qK_ BK234
  replace BK236 := qK_ BK236
  replace HB := qH_ HB
  refine start_ (n := 13) (S := fun w' => w'.cell? ⟨gb234, 0, none⟩ = some (.int .i64 a1_0) ∧ w'.cell? ⟨gb234, 1, none⟩ = some (.int .i64 a1_1) ∧ w'.cell? ⟨gb234, 2, none⟩ = some (.int .i64 a1_2) ∧ w'.cell? ⟨gb234, 3, none⟩ = some (.int .i64 a1_3) ∧ w'.cell? ⟨gb234, 4, none⟩ = some (.slice A1_4 l1_4.length c1_4) ∧ w'.cell? ⟨gb236, 0, none⟩ = some (.int .i64 ((rd_T25 l0 (ji5)).f0)) ∧ w'.cell? ⟨gb236, 1, none⟩ = some (.int .i64 ((rd_T25 l0 (ji5)).f1)) ∧ w'.cell? ⟨gb236, 2, none⟩ = some (.int .i64 ((rd_T25 l0 (ji5)).f2)) ∧ w'.cell? ⟨gb236, 3, none⟩ = some (.int .i64 ((rd_T25 l0 (ji5)).f3)) ∧ w'.cell? ⟨gb236, 4, none⟩ = some (.slice A235_4 ((rd_T25 l0 (ji5)).f4).length c235_4)) (ds := []) #[false, false, false, false, false, false, false, false, false, false, false, false, false] (by kernel_rfl) rfl rfl ⟨(blk_cell BK234.out 0).trans rfl, (blk_cell BK234.out 1).trans rfl, (blk_cell BK234.out 2).trans rfl, (blk_cell BK234.out 3).trans rfl, (blk_cell BK234.out 4).trans rfl, (blk_cell BK236.out 0).trans rfl, (blk_cell BK236.out 1).trans rfl, (blk_cell BK236.out 2).trans rfl, (blk_cell BK236.out 3).trans rfl, (blk_cell BK236.out 4).trans rfl⟩ (fun hHeld => ?_); refine with_tabW impl_follows.tab4 impl_follows.bits4 (fun HT_ HW_ => ?_)
  generalize w14.drew = w15 at BK234 BK236 HB hHeld ⊢
  refine pv_ 0 15 ?_
  refine take_ (i := 1) (N := some 16) (v := ?_) (a' := ?_) #[true, true, false, false, false, false, false, false, false, false, false, false, false] rfl rfl (take_ofW HT_.out HW_.out (by kernel_rfl)) (fun _ _ _ h => h) (Or.inl ⟨by rfl, ?_⟩) hHeld ?_ ?_
  rotate_left
  ·rintro w' ⟨s0, s1, s2, s3, s4, s5, s6, s7, s8, s9⟩
   go_simp
   with_reducible rfl
  rotate_left
  ·simp only [Act.put, List.setIfInBounds_toArray, List.set_cons_zero, List.set_cons_succ, i64_w, i32_w]
   rfl
  refine take_ (i := 2) (N := some 17) (v := ?_) (a' := ?_) #[true, true, true, false, false, false, false, false, false, false, false, false, false] rfl rfl (take_ofW HT_.out HW_.out (by kernel_rfl)) (fun _ _ _ h => h) (Or.inl ⟨by rfl, ?_⟩) hHeld ?_ ?_
  rotate_left
  ·rintro w' ⟨s0, s1, s2, s3, s4, s5, s6, s7, s8, s9⟩
   go_simp
   with_reducible rfl
  rotate_left
  ·simp only [Act.put, List.setIfInBounds_toArray, List.set_cons_zero, List.set_cons_succ, i64_w, i32_w]
   rfl
  refine one_ (i := 3) (N := some 18) #[true, true, true, true, false, false, false, false, false, false, false, false, false] rfl rfl (one_of HT_.out (by kernel_rfl)) (by decide) (fun K hK => ?_)
  refine gs_ Try.func33 #[.agg #[.int .i64 ((rd_T25 l0 (ji5)).f0), .int .i64 ((rd_T25 l0 (ji5)).f1), .int .i64 ((rd_T25 l0 (ji5)).f2), .int .i64 ((rd_T25 l0 (ji5)).f3), .slice A235_4 ((rd_T25 l0 (ji5)).f4).length c235_4]] rfl (mb_ hji5) ?_
  with_reducible refine (impl_Batch_end.calls ((rd_T25 l0 (ji5)).f0) ((rd_T25 l0 (ji5)).f1) ((rd_T25 l0 (ji5)).f2) ((rd_T25 l0 (ji5)).f3) _ _ ((rd_T25 l0 (ji5)).f4) t237 _ ?side1 ?side2 A8.out).mono ?_
  (case side1 => exact cs_ ((Kd.C_below HR235_4.out HB.out)))
  (case side2 => exact HC235_4.out)
  rintro e w16 ⟨rfl, hb⟩
  refine ⟨_, rfl, ?_⟩
  replace BK234 := bK_ BK234 hb
  replace BK236 := bK_ BK236 hb
  replace HB := nc2_ GE234 GE236 hb
  (try clear hb)
  (try clear hb2)
  (try clear hk)
  (try clear hi)
  refine hK.out _ _ ⟨(blk_cell BK234.out 0).trans rfl, (blk_cell BK234.out 1).trans rfl, (blk_cell BK234.out 2).trans rfl, (blk_cell BK234.out 3).trans rfl, (blk_cell BK234.out 4).trans rfl, (blk_cell BK236.out 0).trans rfl, (blk_cell BK236.out 1).trans rfl, (blk_cell BK236.out 2).trans rfl, (blk_cell BK236.out 3).trans rfl, (blk_cell BK236.out 4).trans rfl⟩ (fun hHeld => ?_)
  clear hK K
  refine no_ ?_
  refine pv_ 4 19 ?_
  refine pv_ 5 20 ?_
  refine pv_ 6 21 ?_
  refine pv_ 8 23 ?_
  refine take_ (i := 7) (N := some 22) (v := ?_) (a' := ?_) #[true, true, true, true, true, true, true, true, true, false, false, false, false] rfl rfl (take_ofW HT_.out HW_.out (by kernel_rfl)) (fun _ _ _ h => h) (Or.inl ⟨by rfl, ?_⟩) hHeld ?_ ?_
  rotate_left
  ·rintro w' ⟨s0, s1, s2, s3, s4, s5, s6, s7, s8, s9⟩
   go_simp
   with_reducible rfl
  rotate_left
  ·simp only [Act.put, List.setIfInBounds_toArray, List.set_cons_zero, List.set_cons_succ, i64_w, i32_w]
   rfl
  refine take_ (i := 9) (N := some 24) (v := ?_) (a' := ?_) #[true, true, true, true, true, true, true, true, true, true, false, false, false] rfl rfl (take_ofW HT_.out HW_.out (by kernel_rfl)) (fun _ _ _ h => h) (Or.inl ⟨by rfl, ?_⟩) hHeld ?_ ?_
  rotate_left
  ·rintro w' ⟨s0, s1, s2, s3, s4, s5, s6, s7, s8, s9⟩
   go_simp
   with_reducible rfl
  rotate_left
  ·simp only [Act.put, List.setIfInBounds_toArray, List.set_cons_zero, List.set_cons_succ, i64_w, i32_w]
   rfl
  refine pv_ 10 25 ?_
  refine pv_ 11 26 ?_
  refine pv_ 12 4 ?_
  refine done_ (done_of HT_.out (by kernel_rfl)) ?_
  try go_wp2
  go_ret
  exact ⟨by first | rfl | (simp [errW_none, errW_some] <;> rfl) | (simp only [← hji5]; first | rfl | (simp [errW_none, errW_some] <;> rfl)) | (simp [*, errW_none, errW_some] <;> rfl), hs2_ GE234.out GE236.out⟩
 have c9b0 : (a1_0 == t237) = false := beq_eq_false_iff_ne.mpr c9
 have c9b1 : (a1_0 != t237) = true := bne_iff_ne.mpr c9
 obtain rfl := Option.some.inj H
 go_enter Try.func60, Try.ntmps60
 try go_wp2_with (first | ((with_reducible refine gate_dst (N := 3) rfl ?_); refine be_ (N := 3) #[.int .i64 a1_0, .int .i64 a1_1, .int .i64 a1_2, .int .i64 a1_3, .slice A1_4 l1_4.length c1_4] 25 ?_; intro gb234 hg w17 hbox hb; have BK234 := Aside0.mk (hbox); have GW234 := ge_ hg; have GE234 := ge_ hg; replace HB := nb_ hb; clear hb hbox hg; have p235 : 0 ≤ ((ji5) : Int) := oa_; have q235 : (ji5) < (l0.length : Int) := oa_; obtain ⟨ad235, A235_4, c235_4, e235, hx235_0, hx235_1, hx235_2, hx235_3, hx235_4, hl235_4, hi235_4⟩ := at_T25 HR0.out (ji5) p235 q235; cases e235; replace hx235_0 := pc_ HB.out hx235_0; replace hx235_1 := pc_ HB.out hx235_1; replace hx235_2 := pc_ HB.out hx235_2; replace hx235_3 := pc_ HB.out hx235_3; replace hx235_4 := pc_ HB.out hx235_4; have HR235_4 := Aside0.mk hi235_4; have HC235_4 := Aside0.mk hl235_4; clear hi235_4 hl235_4; replace p235 := eq_true p235; replace q235 := eq_true q235) | ((with_reducible refine gate_dst (N := 5) rfl ?_); refine be_ (N := 5) #[.int .i64 0, .int .i64 0, .int .i64 0, .int .i64 0, .slice none 0 0] 25 ?_; intro gb236 hg w18 hbox hb; have BK236 := Aside0.mk (hbox); have GW236 := ge1_ hg GE234; have GE236 := ge1_ hg GE234; replace HB := nc_ GE234 hb; have NB234_236 := nl_ BK234 hg; have NB236_234 := ng_ BK234 hg; replace BK234 := bK_ BK234 hb; clear hb hbox hg; have hnb19 := NB236_234.out; have hnc19 := NB234_236.out; obtain ⟨hcz20_0, hcz20_1, hcz20_2, hcz20_3, hcz20_4, hfz20_0, hfz20_1, hfz20_2, hfz20_3, hfz20_4⟩ := cf5_ BK236.out))
 have n0_ : Aside0 ((((((w18.setCell ⟨gb236, 0, none⟩ (.int .i64 ((rd_T25 l0 (ji5)).f0))).setCell ⟨gb236, 1, none⟩ (.int .i64 ((rd_T25 l0 (ji5)).f1))).setCell ⟨gb236, 2, none⟩ (.int .i64 ((rd_T25 l0 (ji5)).f2))).setCell ⟨gb236, 3, none⟩ (.int .i64 ((rd_T25 l0 (ji5)).f3))).setCell ⟨gb236, 4, none⟩ (.slice A235_4 ((rd_T25 l0 (ji5)).f4).length c235_4)).heap[gb234]? = some (.cells #[.int .i64 a1_0, .int .i64 a1_1, .int .i64 a1_2, .int .i64 a1_3, .slice A1_4 l1_4.length c1_4] 25 (0, 0))) := ⟨by (with_reducible repeat (first | refine blk_drewN ?_ _ | refine blk_drew ?_ | refine blk_alloc ?_ _)); refine blk_far ?_ NB234_236.out _; (with_reducible repeat (first | refine blk_drewN ?_ _ | refine blk_drew ?_ | refine blk_alloc ?_ _)); refine blk_far ?_ NB234_236.out _; (with_reducible repeat (first | refine blk_drewN ?_ _ | refine blk_drew ?_ | refine blk_alloc ?_ _)); refine blk_far ?_ NB234_236.out _; (with_reducible repeat (first | refine blk_drewN ?_ _ | refine blk_drew ?_ | refine blk_alloc ?_ _)); refine blk_far ?_ NB234_236.out _; (with_reducible repeat (first | refine blk_drewN ?_ _ | refine blk_drew ?_ | refine blk_alloc ?_ _)); refine blk_far ?_ NB234_236.out _; (with_reducible repeat (first | refine blk_drewN ?_ _ | refine blk_drew ?_ | refine blk_alloc ?_ _)); exact BK234.out⟩
 have n1_ : Aside0 ((((((w18.setCell ⟨gb236, 0, none⟩ (.int .i64 ((rd_T25 l0 (ji5)).f0))).setCell ⟨gb236, 1, none⟩ (.int .i64 ((rd_T25 l0 (ji5)).f1))).setCell ⟨gb236, 2, none⟩ (.int .i64 ((rd_T25 l0 (ji5)).f2))).setCell ⟨gb236, 3, none⟩ (.int .i64 ((rd_T25 l0 (ji5)).f3))).setCell ⟨gb236, 4, none⟩ (.slice A235_4 ((rd_T25 l0 (ji5)).f4).length c235_4)).heap[gb236]? = some (.cells #[.int .i64 ((rd_T25 l0 (ji5)).f0), .int .i64 ((rd_T25 l0 (ji5)).f1), .int .i64 ((rd_T25 l0 (ji5)).f2), .int .i64 ((rd_T25 l0 (ji5)).f3), .slice A235_4 ((rd_T25 l0 (ji5)).f4).length c235_4] 25 (0, 0))) := ⟨by (with_reducible repeat (first | refine blk_drewN ?_ _ | refine blk_drew ?_ | refine blk_alloc ?_ _)); refine blk_put (cs := #[.int .i64 ((rd_T25 l0 (ji5)).f0), .int .i64 ((rd_T25 l0 (ji5)).f1), .int .i64 ((rd_T25 l0 (ji5)).f2), .int .i64 ((rd_T25 l0 (ji5)).f3), .slice none 0 0]) ?_ 4 _ rfl; (with_reducible repeat (first | refine blk_drewN ?_ _ | refine blk_drew ?_ | refine blk_alloc ?_ _)); refine blk_put (cs := #[.int .i64 ((rd_T25 l0 (ji5)).f0), .int .i64 ((rd_T25 l0 (ji5)).f1), .int .i64 ((rd_T25 l0 (ji5)).f2), .int .i64 0, .slice none 0 0]) ?_ 3 _ rfl; (with_reducible repeat (first | refine blk_drewN ?_ _ | refine blk_drew ?_ | refine blk_alloc ?_ _)); refine blk_put (cs := #[.int .i64 ((rd_T25 l0 (ji5)).f0), .int .i64 ((rd_T25 l0 (ji5)).f1), .int .i64 0, .int .i64 0, .slice none 0 0]) ?_ 2 _ rfl; (with_reducible repeat (first | refine blk_drewN ?_ _ | refine blk_drew ?_ | refine blk_alloc ?_ _)); refine blk_put (cs := #[.int .i64 ((rd_T25 l0 (ji5)).f0), .int .i64 0, .int .i64 0, .int .i64 0, .slice none 0 0]) ?_ 1 _ rfl; (with_reducible repeat (first | refine blk_drewN ?_ _ | refine blk_drew ?_ | refine blk_alloc ?_ _)); refine blk_put (cs := #[.int .i64 0, .int .i64 0, .int .i64 0, .int .i64 0, .slice none 0 0]) ?_ 0 _ rfl; (with_reducible repeat (first | refine blk_drewN ?_ _ | refine blk_drew ?_ | refine blk_alloc ?_ _)); exact BK236.out⟩
 have n2_ : Aside0 (Below w.heap.size w (((((w18.setCell ⟨gb236, 0, none⟩ (.int .i64 ((rd_T25 l0 (ji5)).f0))).setCell ⟨gb236, 1, none⟩ (.int .i64 ((rd_T25 l0 (ji5)).f1))).setCell ⟨gb236, 2, none⟩ (.int .i64 ((rd_T25 l0 (ji5)).f2))).setCell ⟨gb236, 3, none⟩ (.int .i64 ((rd_T25 l0 (ji5)).f3))).setCell ⟨gb236, 4, none⟩ (.slice A235_4 ((rd_T25 l0 (ji5)).f4).length c235_4))) := ⟨hs2_ GE234.out GE236.out⟩
 (try clear BK234)
 (try clear BK236)
 (try clear HB)
 generalize (((((w18.setCell ⟨gb236, 0, none⟩ (.int .i64 ((rd_T25 l0 (ji5)).f0))).setCell ⟨gb236, 1, none⟩ (.int .i64 ((rd_T25 l0 (ji5)).f1))).setCell ⟨gb236, 2, none⟩ (.int .i64 ((rd_T25 l0 (ji5)).f2))).setCell ⟨gb236, 3, none⟩ (.int .i64 ((rd_T25 l0 (ji5)).f3))).setCell ⟨gb236, 4, none⟩ (.slice A235_4 ((rd_T25 l0 (ji5)).f4).length c235_4)) = w21 at n0_ n1_ n2_ ⊢
 have BK234 := n0_
 have BK236 := n1_
 have HB := n2_
 clear n0_ n1_ n2_
 replace BK234 := qK_ BK234
 replace BK236 := qK_ BK236
 replace HB := qH_ HB
 refine start_ (n := 13) (S := fun w' => w'.cell? ⟨gb234, 0, none⟩ = some (.int .i64 a1_0) ∧ w'.cell? ⟨gb234, 1, none⟩ = some (.int .i64 a1_1) ∧ w'.cell? ⟨gb234, 2, none⟩ = some (.int .i64 a1_2) ∧ w'.cell? ⟨gb234, 3, none⟩ = some (.int .i64 a1_3) ∧ w'.cell? ⟨gb234, 4, none⟩ = some (.slice A1_4 l1_4.length c1_4) ∧ w'.cell? ⟨gb236, 0, none⟩ = some (.int .i64 ((rd_T25 l0 (ji5)).f0)) ∧ w'.cell? ⟨gb236, 1, none⟩ = some (.int .i64 ((rd_T25 l0 (ji5)).f1)) ∧ w'.cell? ⟨gb236, 2, none⟩ = some (.int .i64 ((rd_T25 l0 (ji5)).f2)) ∧ w'.cell? ⟨gb236, 3, none⟩ = some (.int .i64 ((rd_T25 l0 (ji5)).f3)) ∧ w'.cell? ⟨gb236, 4, none⟩ = some (.slice A235_4 ((rd_T25 l0 (ji5)).f4).length c235_4)) (ds := []) #[false, false, false, false, false, false, false, false, false, false, false, false, false] (by kernel_rfl) rfl rfl ⟨(blk_cell BK234.out 0).trans rfl, (blk_cell BK234.out 1).trans rfl, (blk_cell BK234.out 2).trans rfl, (blk_cell BK234.out 3).trans rfl, (blk_cell BK234.out 4).trans rfl, (blk_cell BK236.out 0).trans rfl, (blk_cell BK236.out 1).trans rfl, (blk_cell BK236.out 2).trans rfl, (blk_cell BK236.out 3).trans rfl, (blk_cell BK236.out 4).trans rfl⟩ (fun hHeld => ?_); refine with_tabW impl_follows.tab4 impl_follows.bits4 (fun HT_ HW_ => ?_)
 generalize w21.drew = w22 at BK234 BK236 HB hHeld ⊢
 refine pv_ 0 15 ?_
 refine take_ (i := 1) (N := some 16) (v := ?_) (a' := ?_) #[true, true, false, false, false, false, false, false, false, false, false, false, false] rfl rfl (take_ofW HT_.out HW_.out (by kernel_rfl)) (fun _ _ _ h => h) (Or.inl ⟨by rfl, ?_⟩) hHeld ?_ ?_
 rotate_left
 ·rintro w' ⟨s0, s1, s2, s3, s4, s5, s6, s7, s8, s9⟩
  go_simp
  with_reducible rfl
 rotate_left
 ·simp only [Act.put, List.setIfInBounds_toArray, List.set_cons_zero, List.set_cons_succ, i64_w, i32_w]
  rfl
 refine take_ (i := 2) (N := some 17) (v := ?_) (a' := ?_) #[true, true, true, false, false, false, false, false, false, false, false, false, false] rfl rfl (take_ofW HT_.out HW_.out (by kernel_rfl)) (fun _ _ _ h => h) (Or.inl ⟨by rfl, ?_⟩) hHeld ?_ ?_
 rotate_left
 ·rintro w' ⟨s0, s1, s2, s3, s4, s5, s6, s7, s8, s9⟩
  go_simp
  with_reducible rfl
 rotate_left
 ·simp only [Act.put, List.setIfInBounds_toArray, List.set_cons_zero, List.set_cons_succ, i64_w, i32_w]
  rfl
 refine one_ (i := 3) (N := some 18) #[true, true, true, true, false, false, false, false, false, false, false, false, false] rfl rfl (one_of HT_.out (by kernel_rfl)) (by decide) (fun K hK => ?_)
 refine gs_ Try.func33 #[.agg #[.int .i64 ((rd_T25 l0 (ji5)).f0), .int .i64 ((rd_T25 l0 (ji5)).f1), .int .i64 ((rd_T25 l0 (ji5)).f2), .int .i64 ((rd_T25 l0 (ji5)).f3), .slice A235_4 ((rd_T25 l0 (ji5)).f4).length c235_4]] rfl (mb_ hji5) ?_
 with_reducible refine (impl_Batch_end.calls ((rd_T25 l0 (ji5)).f0) ((rd_T25 l0 (ji5)).f1) ((rd_T25 l0 (ji5)).f2) ((rd_T25 l0 (ji5)).f3) _ _ ((rd_T25 l0 (ji5)).f4) t237 _ ?side1 ?side2 A8.out).mono ?_
 (case side1 => exact cs_ ((Kd.C_below HR235_4.out HB.out)))
 (case side2 => exact HC235_4.out)
 rintro e w23 ⟨rfl, hb⟩
 refine ⟨_, rfl, ?_⟩
 replace BK234 := bK_ BK234 hb
 replace BK236 := bK_ BK236 hb
 replace HB := nc2_ GE234 GE236 hb
 (try clear hb)
 (try clear hb2)
 (try clear hk)
 (try clear hi)
 refine hK.out _ _ ⟨(blk_cell BK234.out 0).trans rfl, (blk_cell BK234.out 1).trans rfl, (blk_cell BK234.out 2).trans rfl, (blk_cell BK234.out 3).trans rfl, (blk_cell BK234.out 4).trans rfl, (blk_cell BK236.out 0).trans rfl, (blk_cell BK236.out 1).trans rfl, (blk_cell BK236.out 2).trans rfl, (blk_cell BK236.out 3).trans rfl, (blk_cell BK236.out 4).trans rfl⟩ (fun hHeld => ?_)
 clear hK K
 refine no_ ?_
 refine pv_ 4 19 ?_
 refine pv_ 5 20 ?_
 refine pure_ (i := 6) (N := some 21) (v := undef) (a' := ?_) #[true, true, true, true, true, true, true, false, false, false, false, false, false] rfl rfl (any_of HT_.out (by kernel_rfl)) (fun _ _ _ h => h) (Or.inr ⟨by rfl, rfl⟩) ?_ ?_
 rotate_left
 ·simp only [Act.put, List.setIfInBounds_toArray, List.set_cons_zero, List.set_cons_succ, i64_w, i32_w]
  rfl
 refine pure_ (i := 7) (N := some 22) (v := undef) (a' := ?_) #[true, true, true, true, true, true, true, true, false, false, false, false, false] rfl rfl (any_of HT_.out (by kernel_rfl)) (fun _ _ _ h => h) (Or.inr ⟨by rfl, rfl⟩) ?_ ?_
 rotate_left
 ·simp only [Act.put, List.setIfInBounds_toArray, List.set_cons_zero, List.set_cons_succ, i64_w, i32_w]
  rfl
 refine pure_ (i := 8) (N := some 23) (v := undef) (a' := ?_) #[true, true, true, true, true, true, true, true, true, false, false, false, false] rfl rfl (any_of HT_.out (by kernel_rfl)) (fun _ _ _ h => h) (Or.inr ⟨by rfl, rfl⟩) ?_ ?_
 rotate_left
 ·simp only [Act.put, List.setIfInBounds_toArray, List.set_cons_zero, List.set_cons_succ, i64_w, i32_w]
  rfl
 refine pure_ (i := 9) (N := some 24) (v := undef) (a' := ?_) #[true, true, true, true, true, true, true, true, true, true, false, false, false] rfl rfl (any_of HT_.out (by kernel_rfl)) (fun _ _ _ h => h) (Or.inr ⟨by rfl, rfl⟩) ?_ ?_
 rotate_left
 ·simp only [Act.put, List.setIfInBounds_toArray, List.set_cons_zero, List.set_cons_succ, i64_w, i32_w]
  rfl
 refine pure_ (i := 10) (N := some 25) (v := undef) (a' := ?_) #[true, true, true, true, true, true, true, true, true, true, true, false, false] rfl rfl (any_of HT_.out (by kernel_rfl)) (fun _ _ _ h => h) (Or.inr ⟨by rfl, rfl⟩) ?_ ?_
 rotate_left
 ·simp only [Act.put, List.setIfInBounds_toArray, List.set_cons_zero, List.set_cons_succ, i64_w, i32_w]
  rfl
 refine pv_ 11 26 ?_
 refine pv_ 12 4 ?_
 refine done_ (done_of HT_.out (by kernel_rfl)) ?_
 try go_wp2
 go_ret
 exact ⟨by first | rfl | (simp [errW_none, errW_some] <;> rfl) | (simp only [← hji5]; first | rfl | (simp [errW_none, errW_some] <;> rfl)) | (simp [*, errW_none, errW_some] <;> rfl), hs2_ GE234.out GE236.out⟩

end Go.Proofs.Ytjjhebkkpeapkaa.QFnLogs
