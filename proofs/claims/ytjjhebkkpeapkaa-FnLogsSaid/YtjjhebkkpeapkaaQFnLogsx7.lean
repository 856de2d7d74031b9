/- For each Go function that one statement reaches: a plain function with the same answers, and the proof that the call comes to them. Conditions: those that each contract names. Written by a program of this repository. -/
import Derived.Test.YtjjhebkkpeapkaaVFnLogsa
import Derived.Test.YtjjhebkkpeapkaaQFnLogsx0
import Derived.Test.YtjjhebkkpeapkaaQFnLogsx1
import Derived.Test.YtjjhebkkpeapkaaQFnLogsx2
import Derived.Test.YtjjhebkkpeapkaaQFnLogsx6
namespace Go.Proofs.Ytjjhebkkpeapkaa.QFnLogs
open Go.RowKit Go.Proofs.YtjjhebkkpeapkaaW.PrintWords Go.Proofs.YtjjhebkkpeapkaaW.PrintLast Go.Proofs.YtjjhebkkpeapkaaW.PrintMore
attribute [local go_sem] max2_int min2_int max_two min_two max_three min_three max_four min_four Go.Proofs.YtjjhebkkpeapkaaW.PrintMore2.isSome_setCell   -- for this text's walks alone
set_option linter.unusedVariables false
set_option linter.unusedSimpArgs false

/-! ### impl_isLog: function 43 -/
def impl_isLog.l0 : Nat → List (S25) → List (S25) → Int → Int → Option (Bool)
 | 0, _, _, _, _ => none
 | k + 1, x0, x5, x6, x7 => if x7 < x6 then (if 0 ≤ x7 then (if x7 < (x5.length : Int) then ((impl_isBatch.f ((rd_T25 x5 x7).f0) ((rd_T25 x5 x7).f1) ((rd_T25 x5 x7).f2) ((rd_T25 x5 x7).f3) ((rd_T25 x5 x7).f4)).bind fun t240 => (if t240 = true then (if x7 ≤ (x0.length : Int) then ((impl_follows.f (x0.take (x7 : Int).toNat) ((rd_T25 x5 x7).f0) ((rd_T25 x5 x7).f1) ((rd_T25 x5 x7).f2) ((rd_T25 x5 x7).f3) ((rd_T25 x5 x7).f4)).bind fun t245 => (if t245 = true then (impl_isLog.l0 k x0 x5 x6 (wrap64 (x7 + 1))) else (some false))) else (none)) else (some false))) else (none)) else (none)) else (some true)
def impl_isLog.f (k : Nat) (l0 : List (S25)) : Option (Bool) := impl_isLog.l0 k l0 l0 (l0.length : Int) 0
theorem impl_isLog.mono_l : ∀ k, (∀ y0 y1 y2 y3, LeO (impl_isLog.l0 k y0 y1 y2 y3) (impl_isLog.l0 (k + 1) y0 y1 y2 y3))
 | 0 => fun _ _ _ _ r h => by simp [impl_isLog.l0] at h
 | k + 1 => by
  have ih0 := impl_isLog.mono_l k
  ·intro y0 y1 y2 y3
   unfold impl_isLog.l0
   repeat' first
   | (with_reducible exact ih0 _ _ _ _)
   | (with_reducible exact LeO.refl _)
   | (with_reducible exact LeO.none _)
   | (with_reducible refine LeO.ite ?_ ?_)
   | (with_reducible refine LeO.bind ?_ (fun _ => ?_))
   | exact ih0 _ _ _ _
   | exact LeO.none _
   | refine LeO.ite ?_ ?_
   | refine LeO.bind ?_ (fun _ => ?_)
theorem impl_isLog.mono : ∀ a0 k, LeO (impl_isLog.f k a0) (impl_isLog.f (k + 1) a0) := by
 intro a0 k
 have ih0 := impl_isLog.mono_l k
 unfold impl_isLog.f
 repeat' first
   | (with_reducible exact ih0 _ _ _ _)
   | (with_reducible exact LeO.refl _)
   | (with_reducible exact LeO.none _)
   | (with_reducible refine LeO.ite ?_ ?_)
   | (with_reducible refine LeO.bind ?_ (fun _ => ?_))
   | exact ih0 _ _ _ _
   | exact LeO.none _
   | refine LeO.ite ?_ ?_
   | refine LeO.bind ?_ (fun _ => ?_)
def impl_isLog.T4 : Bool × List (List Nat × List Nat) := (true, [([], []), ([0], [0]), ([1], [1]), ([2, 1], [2]), ([3], [3]), ([3], [3]), ([4, 5, 3], [3, 4, 5]), ([3], [3]), ([6, 7, 3, 3], [3, 6, 7]), ([8, 3], [3, 8]), ([3, 9], [3, 9])])
def impl_isLog.B4 : List Nat := [0, 1, 3, 7, 15, 15, 63, 15, 255, 511, 1023]
theorem impl_isLog.tab4 : rtab .any (opsOf Try.f43 4) = impl_isLog.T4 := by kernel_rfl
theorem impl_isLog.bits4 : waitsOk impl_isLog.T4.2 impl_isLog.B4 = true := by kernel_rfl
set_option maxHeartbeats 8000000 in
set_option maxRecDepth 100000 in
theorem impl_isLog.calls (k : Nat) (A0 : Option Addr) (c0 : Nat) (l0 : List (S25)) (r : Bool) (w : World) (hr0 : Kd.C k25 w A0 l0.length l0) (hc0 : l0.length ≤ c0) (h : impl_isLog.f k l0 = some r) :
  Calls Try.prog 43 #[.slice A0 l0.length c0] w fun e w' => e = .returned (.bool r) ∧ Below w.heap.size w w' := by
 have hu25 := Try.underlying25
 have HR0 := Aside0.mk hr0
 have HC0 := Aside0.mk hc0
 clear hr0 hc0
 have HB := Aside0.mk (Below.refl w.heap.size w)
 have H : (impl_isLog.l0 k l0 l0 (l0.length : Int) 0) = some r := h
 clear h
 have H' := Aside0.mk H
 clear H
 go_enter Try.func43, Try.ntmps43
 go_wp2
 go_loopg [7] k (fun kq v7 w' => ∃ (x7_1 : Int), v7 = .int .i64 x7_1 ∧ Aside0 (impl_isLog.l0 kq l0 l0 (l0.length : Int) x7_1 = some r) ∧ Aside0 (kq ≤ k) ∧ Aside0 (Below w.heap.size w w'))
 case atStart => exact ⟨(0), sr_, H', ⟨Nat.le_refl _⟩, ⟨hb_⟩⟩
 case round =>
  clear H'
  obtain ⟨x7_1, rfl, HA, HK1, HB⟩ := hrel
  cases gk with
  | zero => exact absurd HA.out (by simp [impl_isLog.l0])
  | succ k1 =>
   have H := HA.out
   clear HA
   simp only [impl_isLog.l0] at H
   replace H := ite_ H
   obtain ⟨c2, H⟩ | ⟨c2, H⟩ := H
   rotate_left
   ·have c2b0 := decide_eq_false c2
    clear c2
    obtain rfl := Option.some.inj H
    go_wp2
    go_ret
    exact ⟨er_, hb_⟩
   have c2b0 := decide_eq_true c2
   clear c2
   replace H := ifs_ H
   obtain ⟨c3, H⟩ := H
   have c3b0 := decide_eq_true c3
   clear c3
   replace H := ifs_ H
   obtain ⟨c4, H⟩ := H
   have c4b0 := decide_eq_true c4
   clear c4
   replace H := bnd_ H
   obtain ⟨t240, A5, H⟩ := H
   replace H := ifb_ H
   obtain ⟨rfl, H⟩ | ⟨rfl, H⟩ := H
   rotate_left
   ·obtain rfl := Option.some.inj H
    have p238 : 0 ≤ (x7_1 : Int) := oa_
    have q238 : x7_1 < (l0.length : Int) := oa_
    obtain ⟨ad238, A238_4, c238_4, e238, hx238_0, hx238_1, hx238_2, hx238_3, hx238_4, hl238_4, hi238_4⟩ := at_T25 HR0.out x7_1 p238 q238
    cases e238
    replace hx238_0 := pc_ HB.out hx238_0
    replace hx238_1 := pc_ HB.out hx238_1
    replace hx238_2 := pc_ HB.out hx238_2
    replace hx238_3 := pc_ HB.out hx238_3
    replace hx238_4 := pc_ HB.out hx238_4
    have HR238_4 := Aside0.mk hi238_4
    have HC238_4 := Aside0.mk hl238_4
    clear hi238_4 hl238_4
    replace p238 := eq_true p238
    replace q238 := eq_true q238
    try go_wp2_with (first | ((with_reducible refine gate_dst (N := 4) rfl ?_); refine be_ (N := 4) #[.int .i64 0, .int .i64 0, .int .i64 0, .int .i64 0, .slice none 0 0] 25 ?_; intro gb239 hg w25 hbox hb; have BK239 := Aside0.mk (hbox); have GW239 := ge_ hg; have GE239 := ge_ hg; replace HB := nb_ hb; clear hb hbox hg; obtain ⟨hcz26_0, hcz26_1, hcz26_2, hcz26_3, hcz26_4, hfz26_0, hfz26_1, hfz26_2, hfz26_3, hfz26_4⟩ := cf5_ BK239.out))
    have n0_ : Aside0 ((((((w25.setCell ⟨gb239, 0, none⟩ (.int .i64 ((rd_T25 l0 x7_1).f0))).setCell ⟨gb239, 1, none⟩ (.int .i64 ((rd_T25 l0 x7_1).f1))).setCell ⟨gb239, 2, none⟩ (.int .i64 ((rd_T25 l0 x7_1).f2))).setCell ⟨gb239, 3, none⟩ (.int .i64 ((rd_T25 l0 x7_1).f3))).setCell ⟨gb239, 4, none⟩ (.slice A238_4 ((rd_T25 l0 x7_1).f4).length c238_4)).heap[gb239]? = some (.cells #[.int .i64 ((rd_T25 l0 x7_1).f0), .int .i64 ((rd_T25 l0 x7_1).f1), .int .i64 ((rd_T25 l0 x7_1).f2), .int .i64 ((rd_T25 l0 x7_1).f3), .slice A238_4 ((rd_T25 l0 x7_1).f4).length c238_4] 25 (0, 0))) := ⟨by (with_reducible repeat (first | refine blk_drewN ?_ _ | refine blk_drew ?_ | refine blk_alloc ?_ _)); refine blk_put (cs := #[.int .i64 ((rd_T25 l0 x7_1).f0), .int .i64 ((rd_T25 l0 x7_1).f1), .int .i64 ((rd_T25 l0 x7_1).f2), .int .i64 ((rd_T25 l0 x7_1).f3), .slice none 0 0]) ?_ 4 _ rfl; (with_reducible repeat (first | refine blk_drewN ?_ _ | refine blk_drew ?_ | refine blk_alloc ?_ _)); refine blk_put (cs := #[.int .i64 ((rd_T25 l0 x7_1).f0), .int .i64 ((rd_T25 l0 x7_1).f1), .int .i64 ((rd_T25 l0 x7_1).f2), .int .i64 0, .slice none 0 0]) ?_ 3 _ rfl; (with_reducible repeat (first | refine blk_drewN ?_ _ | refine blk_drew ?_ | refine blk_alloc ?_ _)); refine blk_put (cs := #[.int .i64 ((rd_T25 l0 x7_1).f0), .int .i64 ((rd_T25 l0 x7_1).f1), .int .i64 0, .int .i64 0, .slice none 0 0]) ?_ 2 _ rfl; (with_reducible repeat (first | refine blk_drewN ?_ _ | refine blk_drew ?_ | refine blk_alloc ?_ _)); refine blk_put (cs := #[.int .i64 ((rd_T25 l0 x7_1).f0), .int .i64 0, .int .i64 0, .int .i64 0, .slice none 0 0]) ?_ 1 _ rfl; (with_reducible repeat (first | refine blk_drewN ?_ _ | refine blk_drew ?_ | refine blk_alloc ?_ _)); refine blk_put (cs := #[.int .i64 0, .int .i64 0, .int .i64 0, .int .i64 0, .slice none 0 0]) ?_ 0 _ rfl; (with_reducible repeat (first | refine blk_drewN ?_ _ | refine blk_drew ?_ | refine blk_alloc ?_ _)); exact BK239.out⟩
    have n1_ : Aside0 (Below w.heap.size w (((((w25.setCell ⟨gb239, 0, none⟩ (.int .i64 ((rd_T25 l0 x7_1).f0))).setCell ⟨gb239, 1, none⟩ (.int .i64 ((rd_T25 l0 x7_1).f1))).setCell ⟨gb239, 2, none⟩ (.int .i64 ((rd_T25 l0 x7_1).f2))).setCell ⟨gb239, 3, none⟩ (.int .i64 ((rd_T25 l0 x7_1).f3))).setCell ⟨gb239, 4, none⟩ (.slice A238_4 ((rd_T25 l0 x7_1).f4).length c238_4))) := ⟨hs_ GE239.out⟩
    (try clear BK239)
    (try clear HB)
    generalize (((((w25.setCell ⟨gb239, 0, none⟩ (.int .i64 ((rd_T25 l0 x7_1).f0))).setCell ⟨gb239, 1, none⟩ (.int .i64 ((rd_T25 l0 x7_1).f1))).setCell ⟨gb239, 2, none⟩ (.int .i64 ((rd_T25 l0 x7_1).f2))).setCell ⟨gb239, 3, none⟩ (.int .i64 ((rd_T25 l0 x7_1).f3))).setCell ⟨gb239, 4, none⟩ (.slice A238_4 ((rd_T25 l0 x7_1).f4).length c238_4)) = w27 at n0_ n1_ ⊢
    have BK239 := n0_
    have HB := n1_
    clear n0_ n1_
    replace BK239 := qK_ BK239
    replace HB := qH_ HB
    refine start_ (n := 11) (S := fun w' => w'.cell? ⟨gb239, 0, none⟩ = some (.int .i64 ((rd_T25 l0 x7_1).f0)) ∧ w'.cell? ⟨gb239, 1, none⟩ = some (.int .i64 ((rd_T25 l0 x7_1).f1)) ∧ w'.cell? ⟨gb239, 2, none⟩ = some (.int .i64 ((rd_T25 l0 x7_1).f2)) ∧ w'.cell? ⟨gb239, 3, none⟩ = some (.int .i64 ((rd_T25 l0 x7_1).f3)) ∧ w'.cell? ⟨gb239, 4, none⟩ = some (.slice A238_4 ((rd_T25 l0 x7_1).f4).length c238_4)) (ds := []) #[false, false, false, false, false, false, false, false, false, false, false] (by kernel_rfl) rfl rfl ⟨(blk_cell BK239.out 0).trans rfl, (blk_cell BK239.out 1).trans rfl, (blk_cell BK239.out 2).trans rfl, (blk_cell BK239.out 3).trans rfl, (blk_cell BK239.out 4).trans rfl⟩ (fun hHeld => ?_); refine with_tabW impl_isLog.tab4 impl_isLog.bits4 (fun HT_ HW_ => ?_)
    generalize w27.drew = w28 at BK239 HB hHeld ⊢
    refine take_ (i := 0) (N := some 12) (v := ?_) (a' := ?_) #[true, false, false, false, false, false, false, false, false, false, false] rfl rfl (take_ofW HT_.out HW_.out (by kernel_rfl)) (fun _ _ _ h => h) (Or.inl ⟨by rfl, ?_⟩) hHeld ?_ ?_
    rotate_left
    ·rintro w' ⟨s0, s1, s2, s3, s4⟩
     go_simp
     with_reducible rfl
    rotate_left
    ·simp only [Act.put, List.setIfInBounds_toArray, List.set_cons_zero, List.set_cons_succ, i64_w, i32_w]
     rfl
    refine one_ (i := 1) (N := some 13) #[true, true, false, false, false, false, false, false, false, false, false] rfl rfl (one_of HT_.out (by kernel_rfl)) (by decide) (fun K hK => ?_)
    refine gs_ Try.func29 #[.agg #[.int .i64 ((rd_T25 l0 x7_1).f0), .int .i64 ((rd_T25 l0 x7_1).f1), .int .i64 ((rd_T25 l0 x7_1).f2), .int .i64 ((rd_T25 l0 x7_1).f3), .slice A238_4 ((rd_T25 l0 x7_1).f4).length c238_4]] rfl ma_ ?_
    with_reducible refine (impl_isBatch.calls ((rd_T25 l0 x7_1).f0) ((rd_T25 l0 x7_1).f1) ((rd_T25 l0 x7_1).f2) ((rd_T25 l0 x7_1).f3) _ _ ((rd_T25 l0 x7_1).f4) false _ ?side1 ?side2 A5.out).mono ?_
    (case side1 => exact cs_ ((Kd.C_below HR238_4.out HB.out)))
    (case side2 => exact HC238_4.out)
    rintro e w29 ⟨rfl, hb⟩
    refine ⟨_, rfl, ?_⟩
    replace BK239 := bK_ BK239 hb
    replace HB := nc_ GE239 hb
    (try clear hb)
    (try clear hb2)
    (try clear hk)
    (try clear hi)
    refine hK.out _ _ ⟨(blk_cell BK239.out 0).trans rfl, (blk_cell BK239.out 1).trans rfl, (blk_cell BK239.out 2).trans rfl, (blk_cell BK239.out 3).trans rfl, (blk_cell BK239.out 4).trans rfl⟩ (fun hHeld => ?_)
    clear hK K
    refine no_ ?_
    refine pv_ 2 14 ?_
    refine pv_ 3 15 ?_
    refine pure_ (i := 4) (N := some 16) (v := undef) (a' := ?_) #[true, true, true, true, true, false, false, false, false, false, false] rfl rfl (any_of HT_.out (by kernel_rfl)) (fun _ _ _ h => h) (Or.inr ⟨by rfl, rfl⟩) ?_ ?_
    rotate_left
    ·simp only [Act.put, List.setIfInBounds_toArray, List.set_cons_zero, List.set_cons_succ, i64_w, i32_w]
     rfl
    refine pure_ (i := 5) (N := some 17) (v := undef) (a' := ?_) #[true, true, true, true, true, true, false, false, false, false, false] rfl rfl (any_of HT_.out (by kernel_rfl)) (fun _ _ _ h => h) (Or.inr ⟨by rfl, rfl⟩) ?_ ?_
    rotate_left
    ·simp only [Act.put, List.setIfInBounds_toArray, List.set_cons_zero, List.set_cons_succ, i64_w, i32_w]
     rfl
    refine pure_ (i := 6) (N := some 18) (v := undef) (a' := ?_) #[true, true, true, true, true, true, true, false, false, false, false] rfl rfl (any_of HT_.out (by kernel_rfl)) (fun _ _ _ h => h) (Or.inr ⟨by rfl, rfl⟩) ?_ ?_
    rotate_left
    ·simp only [Act.put, List.setIfInBounds_toArray, List.set_cons_zero, List.set_cons_succ, i64_w, i32_w]
     rfl
    refine pure_ (i := 7) (N := some 19) (v := undef) (a' := ?_) #[true, true, true, true, true, true, true, true, false, false, false] rfl rfl (any_of HT_.out (by kernel_rfl)) (fun _ _ _ h => h) (Or.inr ⟨by rfl, rfl⟩) ?_ ?_
    rotate_left
    ·simp only [Act.put, List.setIfInBounds_toArray, List.set_cons_zero, List.set_cons_succ, i64_w, i32_w]
     rfl
    refine pure_ (i := 8) (N := some 20) (v := undef) (a' := ?_) #[true, true, true, true, true, true, true, true, true, false, false] rfl rfl (any_of HT_.out (by kernel_rfl)) (fun _ _ _ h => h) (Or.inr ⟨by rfl, rfl⟩) ?_ ?_
    rotate_left
    ·simp only [Act.put, List.setIfInBounds_toArray, List.set_cons_zero, List.set_cons_succ, i64_w, i32_w]
     rfl
    refine pure_ (i := 9) (N := some 21) (v := undef) (a' := ?_) #[true, true, true, true, true, true, true, true, true, true, false] rfl rfl (any_of HT_.out (by kernel_rfl)) (fun _ _ _ h => h) (Or.inr ⟨by rfl, rfl⟩) ?_ ?_
    rotate_left
    ·simp only [Act.put, List.setIfInBounds_toArray, List.set_cons_zero, List.set_cons_succ, i64_w, i32_w]
     rfl
    refine pv_ 10 22 ?_
    refine done_ (done_of HT_.out (by kernel_rfl)) ?_
    try go_wp2
    go_ret
    exact ⟨er_, hs_ GE239.out⟩
   have c7b0 := eq_true (oa_ : 0 ≤ x7_1)
   replace H := ifs_ H
   obtain ⟨c8, H⟩ := H
   have c8b0 := eq_true c8
   have c8b1 := decide_eq_true c8
   clear c8
   obtain ⟨y241, hy241⟩ : ∃ y_ : List (S25), y_ = (l0.take (x7_1 : Int).toNat) := ⟨_, rfl⟩
   replace H : ((impl_follows.f y241 ((rd_T25 l0 x7_1).f0) ((rd_T25 l0 x7_1).f1) ((rd_T25 l0 x7_1).f2) ((rd_T25 l0 x7_1).f3) ((rd_T25 l0 x7_1).f4)).bind fun t245 => (if t245 = true then (impl_isLog.l0 k1 l0 l0 (l0.length : Int) (wrap64 (x7_1 + 1))) else (some false))) = some r := by first | (rw [hy241]; with_reducible exact H) | (have H2_ := (Option.bind_some _ _).symm.trans H; rw [hy241]; with_reducible exact H2_) | (have H2_ := (Option.bind_some _ _).symm.trans H; with_reducible exact H2_) | with_reducible exact H | (rw [hy241]; exact H) | exact H
   have Ny241 := Aside0.mk hy241
   clear hy241
   replace H := bnd_ H
   obtain ⟨t245, A9, H⟩ := H
   replace H := ifb_ H
   obtain ⟨rfl, H⟩ | ⟨rfl, H⟩ := H
   rotate_left
   ·obtain rfl := Option.some.inj H
    have p238 : 0 ≤ (x7_1 : Int) := oa_
    have q238 : x7_1 < (l0.length : Int) := oa_
    obtain ⟨ad238, A238_4, c238_4, e238, hx238_0, hx238_1, hx238_2, hx238_3, hx238_4, hl238_4, hi238_4⟩ := at_T25 HR0.out x7_1 p238 q238
    cases e238
    replace hx238_0 := pc_ HB.out hx238_0
    replace hx238_1 := pc_ HB.out hx238_1
    replace hx238_2 := pc_ HB.out hx238_2
    replace hx238_3 := pc_ HB.out hx238_3
    replace hx238_4 := pc_ HB.out hx238_4
    have HR238_4 := Aside0.mk hi238_4
    have HC238_4 := Aside0.mk hl238_4
    clear hi238_4 hl238_4
    replace p238 := eq_true p238
    replace q238 := eq_true q238
    try go_wp2_with (first | ((with_reducible refine gate_dst (N := 4) rfl ?_); refine be_ (N := 4) #[.int .i64 0, .int .i64 0, .int .i64 0, .int .i64 0, .slice none 0 0] 25 ?_; intro gb239 hg w18 hbox hb; have BK239 := Aside0.mk (hbox); have GW239 := ge_ hg; have GE239 := ge_ hg; replace HB := nb_ hb; clear hb hbox hg; obtain ⟨hcz19_0, hcz19_1, hcz19_2, hcz19_3, hcz19_4, hfz19_0, hfz19_1, hfz19_2, hfz19_3, hfz19_4⟩ := cf5_ BK239.out))
    have n0_ : Aside0 ((((((w18.setCell ⟨gb239, 0, none⟩ (.int .i64 ((rd_T25 l0 x7_1).f0))).setCell ⟨gb239, 1, none⟩ (.int .i64 ((rd_T25 l0 x7_1).f1))).setCell ⟨gb239, 2, none⟩ (.int .i64 ((rd_T25 l0 x7_1).f2))).setCell ⟨gb239, 3, none⟩ (.int .i64 ((rd_T25 l0 x7_1).f3))).setCell ⟨gb239, 4, none⟩ (.slice A238_4 ((rd_T25 l0 x7_1).f4).length c238_4)).heap[gb239]? = some (.cells #[.int .i64 ((rd_T25 l0 x7_1).f0), .int .i64 ((rd_T25 l0 x7_1).f1), .int .i64 ((rd_T25 l0 x7_1).f2), .int .i64 ((rd_T25 l0 x7_1).f3), .slice A238_4 ((rd_T25 l0 x7_1).f4).length c238_4] 25 (0, 0))) := ⟨by (with_reducible repeat (first | refine blk_drewN ?_ _ | refine blk_drew ?_ | refine blk_alloc ?_ _)); refine blk_put (cs := #[.int .i64 ((rd_T25 l0 x7_1).f0), .int .i64 ((rd_T25 l0 x7_1).f1), .int .i64 ((rd_T25 l0 x7_1).f2), .int .i64 ((rd_T25 l0 x7_1).f3), .slice none 0 0]) ?_ 4 _ rfl; (with_reducible repeat (first | refine blk_drewN ?_ _ | refine blk_drew ?_ | refine blk_alloc ?_ _)); refine blk_put (cs := #[.int .i64 ((rd_T25 l0 x7_1).f0), .int .i64 ((rd_T25 l0 x7_1).f1), .int .i64 ((rd_T25 l0 x7_1).f2), .int .i64 0, .slice none 0 0]) ?_ 3 _ rfl; (with_reducible repeat (first | refine blk_drewN ?_ _ | refine blk_drew ?_ | refine blk_alloc ?_ _)); refine blk_put (cs := #[.int .i64 ((rd_T25 l0 x7_1).f0), .int .i64 ((rd_T25 l0 x7_1).f1), .int .i64 0, .int .i64 0, .slice none 0 0]) ?_ 2 _ rfl; (with_reducible repeat (first | refine blk_drewN ?_ _ | refine blk_drew ?_ | refine blk_alloc ?_ _)); refine blk_put (cs := #[.int .i64 ((rd_T25 l0 x7_1).f0), .int .i64 0, .int .i64 0, .int .i64 0, .slice none 0 0]) ?_ 1 _ rfl; (with_reducible repeat (first | refine blk_drewN ?_ _ | refine blk_drew ?_ | refine blk_alloc ?_ _)); refine blk_put (cs := #[.int .i64 0, .int .i64 0, .int .i64 0, .int .i64 0, .slice none 0 0]) ?_ 0 _ rfl; (with_reducible repeat (first | refine blk_drewN ?_ _ | refine blk_drew ?_ | refine blk_alloc ?_ _)); exact BK239.out⟩
    have n1_ : Aside0 (Below w.heap.size w (((((w18.setCell ⟨gb239, 0, none⟩ (.int .i64 ((rd_T25 l0 x7_1).f0))).setCell ⟨gb239, 1, none⟩ (.int .i64 ((rd_T25 l0 x7_1).f1))).setCell ⟨gb239, 2, none⟩ (.int .i64 ((rd_T25 l0 x7_1).f2))).setCell ⟨gb239, 3, none⟩ (.int .i64 ((rd_T25 l0 x7_1).f3))).setCell ⟨gb239, 4, none⟩ (.slice A238_4 ((rd_T25 l0 x7_1).f4).length c238_4))) := ⟨hs_ GE239.out⟩
    (try clear BK239)
    (try clear HB)
    generalize (((((w18.setCell ⟨gb239, 0, none⟩ (.int .i64 ((rd_T25 l0 x7_1).f0))).setCell ⟨gb239, 1, none⟩ (.int .i64 ((rd_T25 l0 x7_1).f1))).setCell ⟨gb239, 2, none⟩ (.int .i64 ((rd_T25 l0 x7_1).f2))).setCell ⟨gb239, 3, none⟩ (.int .i64 ((rd_T25 l0 x7_1).f3))).setCell ⟨gb239, 4, none⟩ (.slice A238_4 ((rd_T25 l0 x7_1).f4).length c238_4)) = w20 at n0_ n1_ ⊢
    have BK239 := n0_
    have HB := n1_
    clear n0_ n1_
    replace BK239 := qK_ BK239
    replace HB := qH_ HB
    refine start_ (n := 11) (S := fun w' => w'.cell? ⟨gb239, 0, none⟩ = some (.int .i64 ((rd_T25 l0 x7_1).f0)) ∧ w'.cell? ⟨gb239, 1, none⟩ = some (.int .i64 ((rd_T25 l0 x7_1).f1)) ∧ w'.cell? ⟨gb239, 2, none⟩ = some (.int .i64 ((rd_T25 l0 x7_1).f2)) ∧ w'.cell? ⟨gb239, 3, none⟩ = some (.int .i64 ((rd_T25 l0 x7_1).f3)) ∧ w'.cell? ⟨gb239, 4, none⟩ = some (.slice A238_4 ((rd_T25 l0 x7_1).f4).length c238_4)) (ds := []) #[false, false, false, false, false, false, false, false, false, false, false] (by kernel_rfl) rfl rfl ⟨(blk_cell BK239.out 0).trans rfl, (blk_cell BK239.out 1).trans rfl, (blk_cell BK239.out 2).trans rfl, (blk_cell BK239.out 3).trans rfl, (blk_cell BK239.out 4).trans rfl⟩ (fun hHeld => ?_); refine with_tabW impl_isLog.tab4 impl_isLog.bits4 (fun HT_ HW_ => ?_)
    generalize w20.drew = w21 at BK239 HB hHeld ⊢
    refine take_ (i := 0) (N := some 12) (v := ?_) (a' := ?_) #[true, false, false, false, false, false, false, false, false, false, false] rfl rfl (take_ofW HT_.out HW_.out (by kernel_rfl)) (fun _ _ _ h => h) (Or.inl ⟨by rfl, ?_⟩) hHeld ?_ ?_
    rotate_left
    ·rintro w' ⟨s0, s1, s2, s3, s4⟩
     go_simp
     with_reducible rfl
    rotate_left
    ·simp only [Act.put, List.setIfInBounds_toArray, List.set_cons_zero, List.set_cons_succ, i64_w, i32_w]
     rfl
    refine one_ (i := 1) (N := some 13) #[true, true, false, false, false, false, false, false, false, false, false] rfl rfl (one_of HT_.out (by kernel_rfl)) (by decide) (fun K hK => ?_)
    refine gs_ Try.func29 #[.agg #[.int .i64 ((rd_T25 l0 x7_1).f0), .int .i64 ((rd_T25 l0 x7_1).f1), .int .i64 ((rd_T25 l0 x7_1).f2), .int .i64 ((rd_T25 l0 x7_1).f3), .slice A238_4 ((rd_T25 l0 x7_1).f4).length c238_4]] rfl ma_ ?_
    with_reducible refine (impl_isBatch.calls ((rd_T25 l0 x7_1).f0) ((rd_T25 l0 x7_1).f1) ((rd_T25 l0 x7_1).f2) ((rd_T25 l0 x7_1).f3) _ _ ((rd_T25 l0 x7_1).f4) true _ ?side1 ?side2 A5.out).mono ?_
    (case side1 => exact cs_ ((Kd.C_below HR238_4.out HB.out)))
    (case side2 => exact HC238_4.out)
    rintro e w22 ⟨rfl, hb⟩
    refine ⟨_, rfl, ?_⟩
    replace BK239 := bK_ BK239 hb
    replace HB := nc_ GE239 hb
    (try clear hb)
    (try clear hb2)
    (try clear hk)
    (try clear hi)
    have q23 : (x7_1 : Int) ≤ ((l0.length : Int) : Int) := oa_
    obtain ⟨i023, hi023, _, hsz23, _⟩ := info_parts info25
    have hroom23 : l0.length ≤ c0 := HC0.out
    have hC23 : Kd.C k25 _ (some ad238) l0.length l0 := HR0.out
    have hcut23 := cut_to (P := Try.prog) 42 25 .i64 Try.underlying42 hi023 (some ad238) l0.length c0 x7_1 (oa_) q23 hroom23
    have hr23 := Kd.C_take (m := (x7_1 : Int).toNat) hC23 (by omega)
    have hy23 : y241.length = (x7_1 : Int).toNat := (by rw [Ny241.out, List.length_take]; omega)
    rw [← Ny241.out] at hr23
    rw [← hy23] at hcut23
    have HR244 := Aside0.mk hr23
    have HC244 := Aside0.mk (show y241.length ≤ c0 from by omega)
    clear hr23 hC23 hroom23 hi023 hsz23
    have KY23 := Aside0.mk hy23
    clear hy23
    replace q23 := eq_true q23
    refine hK.out _ _ ⟨(blk_cell BK239.out 0).trans rfl, (blk_cell BK239.out 1).trans rfl, (blk_cell BK239.out 2).trans rfl, (blk_cell BK239.out 3).trans rfl, (blk_cell BK239.out 4).trans rfl⟩ (fun hHeld => ?_)
    clear hK K
    refine no_ ?_
    refine pv_ 2 14 ?_
    refine pv_ 3 15 ?_
    refine pv_ 4 16 ?_
    refine pv_ 5 17 ?_
    refine pv_ 6 18 ?_
    refine take_ (i := 7) (N := some 19) (v := ?_) (a' := ?_) #[true, true, true, true, true, true, true, true, false, false, false] rfl rfl (take_ofW HT_.out HW_.out (by kernel_rfl)) (fun _ _ _ h => h) (Or.inl ⟨by rfl, ?_⟩) hHeld ?_ ?_
    rotate_left
    ·rintro w' ⟨s0, s1, s2, s3, s4⟩
     go_simp
     with_reducible rfl
    rotate_left
    ·simp only [Act.put, List.setIfInBounds_toArray, List.set_cons_zero, List.set_cons_succ, i64_w, i32_w]
     rfl
    refine one_ (i := 8) (N := some 20) #[true, true, true, true, true, true, true, true, true, false, false] rfl rfl (one_of HT_.out (by kernel_rfl)) (by decide) (fun K hK => ?_)
    refine gs_ Try.func60 #[.slice (some ad238) y241.length c0, .agg #[.int .i64 ((rd_T25 l0 x7_1).f0), .int .i64 ((rd_T25 l0 x7_1).f1), .int .i64 ((rd_T25 l0 x7_1).f2), .int .i64 ((rd_T25 l0 x7_1).f3), .slice A238_4 ((rd_T25 l0 x7_1).f4).length c238_4]] rfl ma_ ?_
    with_reducible refine (impl_follows.calls _ _ y241 ((rd_T25 l0 x7_1).f0) ((rd_T25 l0 x7_1).f1) ((rd_T25 l0 x7_1).f2) ((rd_T25 l0 x7_1).f3) _ _ ((rd_T25 l0 x7_1).f4) false _ ?side1 ?side2 ?side3 ?side4 A9.out).mono ?_
    (case side1 => exact cs_ ((Kd.C_below HR244.out HB.out)))
    (case side2 => exact HC244.out)
    (case side3 => exact cs_ ((Kd.C_below HR238_4.out HB.out)))
    (case side4 => exact HC238_4.out)
    rintro e w24 ⟨rfl, hb⟩
    refine ⟨_, rfl, ?_⟩
    replace BK239 := bK_ BK239 hb
    replace HB := nc_ GE239 hb
    (try clear hb)
    (try clear hb2)
    (try clear hk)
    (try clear hi)
    refine hK.out _ _ ⟨(blk_cell BK239.out 0).trans rfl, (blk_cell BK239.out 1).trans rfl, (blk_cell BK239.out 2).trans rfl, (blk_cell BK239.out 3).trans rfl, (blk_cell BK239.out 4).trans rfl⟩ (fun hHeld => ?_)
    clear hK K
    refine no_ ?_
    refine pv_ 9 21 ?_
    refine pv_ 10 22 ?_
    refine done_ (done_of HT_.out (by kernel_rfl)) ?_
    try go_wp2
    go_ret
    exact ⟨er_, hs_ GE239.out⟩
   have H' := Aside0.mk H
   clear H
   have p238 : 0 ≤ (x7_1 : Int) := oa_
   have q238 : x7_1 < (l0.length : Int) := oa_
   obtain ⟨ad238, A238_4, c238_4, e238, hx238_0, hx238_1, hx238_2, hx238_3, hx238_4, hl238_4, hi238_4⟩ := at_T25 HR0.out x7_1 p238 q238
   cases e238
   replace hx238_0 := pc_ HB.out hx238_0
   replace hx238_1 := pc_ HB.out hx238_1
   replace hx238_2 := pc_ HB.out hx238_2
   replace hx238_3 := pc_ HB.out hx238_3
   replace hx238_4 := pc_ HB.out hx238_4
   have HR238_4 := Aside0.mk hi238_4
   have HC238_4 := Aside0.mk hl238_4
   clear hi238_4 hl238_4
   replace p238 := eq_true p238
   replace q238 := eq_true q238
   try go_wp2_with (first | ((with_reducible refine gate_dst (N := 4) rfl ?_); refine be_ (N := 4) #[.int .i64 0, .int .i64 0, .int .i64 0, .int .i64 0, .slice none 0 0] 25 ?_; intro gb239 hg w11 hbox hb; have BK239 := Aside0.mk (hbox); have GW239 := ge_ hg; have GE239 := ge_ hg; replace HB := nb_ hb; clear hb hbox hg; obtain ⟨hcz12_0, hcz12_1, hcz12_2, hcz12_3, hcz12_4, hfz12_0, hfz12_1, hfz12_2, hfz12_3, hfz12_4⟩ := cf5_ BK239.out))
   have n0_ : Aside0 ((((((w11.setCell ⟨gb239, 0, none⟩ (.int .i64 ((rd_T25 l0 x7_1).f0))).setCell ⟨gb239, 1, none⟩ (.int .i64 ((rd_T25 l0 x7_1).f1))).setCell ⟨gb239, 2, none⟩ (.int .i64 ((rd_T25 l0 x7_1).f2))).setCell ⟨gb239, 3, none⟩ (.int .i64 ((rd_T25 l0 x7_1).f3))).setCell ⟨gb239, 4, none⟩ (.slice A238_4 ((rd_T25 l0 x7_1).f4).length c238_4)).heap[gb239]? = some (.cells #[.int .i64 ((rd_T25 l0 x7_1).f0), .int .i64 ((rd_T25 l0 x7_1).f1), .int .i64 ((rd_T25 l0 x7_1).f2), .int .i64 ((rd_T25 l0 x7_1).f3), .slice A238_4 ((rd_T25 l0 x7_1).f4).length c238_4] 25 (0, 0))) := ⟨by (with_reducible repeat (first | refine blk_drewN ?_ _ | refine blk_drew ?_ | refine blk_alloc ?_ _)); refine blk_put (cs := #[.int .i64 ((rd_T25 l0 x7_1).f0), .int .i64 ((rd_T25 l0 x7_1).f1), .int .i64 ((rd_T25 l0 x7_1).f2), .int .i64 ((rd_T25 l0 x7_1).f3), .slice none 0 0]) ?_ 4 _ rfl; (with_reducible repeat (first | refine blk_drewN ?_ _ | refine blk_drew ?_ | refine blk_alloc ?_ _)); refine blk_put (cs := #[.int .i64 ((rd_T25 l0 x7_1).f0), .int .i64 ((rd_T25 l0 x7_1).f1), .int .i64 ((rd_T25 l0 x7_1).f2), .int .i64 0, .slice none 0 0]) ?_ 3 _ rfl; (with_reducible repeat (first | refine blk_drewN ?_ _ | refine blk_drew ?_ | refine blk_alloc ?_ _)); refine blk_put (cs := #[.int .i64 ((rd_T25 l0 x7_1).f0), .int .i64 ((rd_T25 l0 x7_1).f1), .int .i64 0, .int .i64 0, .slice none 0 0]) ?_ 2 _ rfl; (with_reducible repeat (first | refine blk_drewN ?_ _ | refine blk_drew ?_ | refine blk_alloc ?_ _)); refine blk_put (cs := #[.int .i64 ((rd_T25 l0 x7_1).f0), .int .i64 0, .int .i64 0, .int .i64 0, .slice none 0 0]) ?_ 1 _ rfl; (with_reducible repeat (first | refine blk_drewN ?_ _ | refine blk_drew ?_ | refine blk_alloc ?_ _)); refine blk_put (cs := #[.int .i64 0, .int .i64 0, .int .i64 0, .int .i64 0, .slice none 0 0]) ?_ 0 _ rfl; (with_reducible repeat (first | refine blk_drewN ?_ _ | refine blk_drew ?_ | refine blk_alloc ?_ _)); exact BK239.out⟩
   have n1_ : Aside0 (Below w.heap.size w (((((w11.setCell ⟨gb239, 0, none⟩ (.int .i64 ((rd_T25 l0 x7_1).f0))).setCell ⟨gb239, 1, none⟩ (.int .i64 ((rd_T25 l0 x7_1).f1))).setCell ⟨gb239, 2, none⟩ (.int .i64 ((rd_T25 l0 x7_1).f2))).setCell ⟨gb239, 3, none⟩ (.int .i64 ((rd_T25 l0 x7_1).f3))).setCell ⟨gb239, 4, none⟩ (.slice A238_4 ((rd_T25 l0 x7_1).f4).length c238_4))) := ⟨hs_ GE239.out⟩
   (try clear BK239)
   (try clear HB)
   generalize (((((w11.setCell ⟨gb239, 0, none⟩ (.int .i64 ((rd_T25 l0 x7_1).f0))).setCell ⟨gb239, 1, none⟩ (.int .i64 ((rd_T25 l0 x7_1).f1))).setCell ⟨gb239, 2, none⟩ (.int .i64 ((rd_T25 l0 x7_1).f2))).setCell ⟨gb239, 3, none⟩ (.int .i64 ((rd_T25 l0 x7_1).f3))).setCell ⟨gb239, 4, none⟩ (.slice A238_4 ((rd_T25 l0 x7_1).f4).length c238_4)) = w13 at n0_ n1_ ⊢
   have BK239 := n0_
   have HB := n1_
   clear n0_ n1_
   replace BK239 := qK_ BK239
   replace HB := qH_ HB
   refine start_ (n := 11) (S := fun w' => w'.cell? ⟨gb239, 0, none⟩ = some (.int .i64 ((rd_T25 l0 x7_1).f0)) ∧ w'.cell? ⟨gb239, 1, none⟩ = some (.int .i64 ((rd_T25 l0 x7_1).f1)) ∧ w'.cell? ⟨gb239, 2, none⟩ = some (.int .i64 ((rd_T25 l0 x7_1).f2)) ∧ w'.cell? ⟨gb239, 3, none⟩ = some (.int .i64 ((rd_T25 l0 x7_1).f3)) ∧ w'.cell? ⟨gb239, 4, none⟩ = some (.slice A238_4 ((rd_T25 l0 x7_1).f4).length c238_4)) (ds := []) #[false, false, false, false, false, false, false, false, false, false, false] (by kernel_rfl) rfl rfl ⟨(blk_cell BK239.out 0).trans rfl, (blk_cell BK239.out 1).trans rfl, (blk_cell BK239.out 2).trans rfl, (blk_cell BK239.out 3).trans rfl, (blk_cell BK239.out 4).trans rfl⟩ (fun hHeld => ?_); refine with_tabW impl_isLog.tab4 impl_isLog.bits4 (fun HT_ HW_ => ?_)
   generalize w13.drew = w14 at BK239 HB hHeld ⊢
   refine take_ (i := 0) (N := some 12) (v := ?_) (a' := ?_) #[true, false, false, false, false, false, false, false, false, false, false] rfl rfl (take_ofW HT_.out HW_.out (by kernel_rfl)) (fun _ _ _ h => h) (Or.inl ⟨by rfl, ?_⟩) hHeld ?_ ?_
   rotate_left
   ·rintro w' ⟨s0, s1, s2, s3, s4⟩
    go_simp
    with_reducible rfl
   rotate_left
   ·simp only [Act.put, List.setIfInBounds_toArray, List.set_cons_zero, List.set_cons_succ, i64_w, i32_w]
    rfl
   refine one_ (i := 1) (N := some 13) #[true, true, false, false, false, false, false, false, false, false, false] rfl rfl (one_of HT_.out (by kernel_rfl)) (by decide) (fun K hK => ?_)
   refine gs_ Try.func29 #[.agg #[.int .i64 ((rd_T25 l0 x7_1).f0), .int .i64 ((rd_T25 l0 x7_1).f1), .int .i64 ((rd_T25 l0 x7_1).f2), .int .i64 ((rd_T25 l0 x7_1).f3), .slice A238_4 ((rd_T25 l0 x7_1).f4).length c238_4]] rfl ma_ ?_
   with_reducible refine (impl_isBatch.calls ((rd_T25 l0 x7_1).f0) ((rd_T25 l0 x7_1).f1) ((rd_T25 l0 x7_1).f2) ((rd_T25 l0 x7_1).f3) _ _ ((rd_T25 l0 x7_1).f4) true _ ?side1 ?side2 A5.out).mono ?_
   (case side1 => exact cs_ ((Kd.C_below HR238_4.out HB.out)))
   (case side2 => exact HC238_4.out)
   rintro e w15 ⟨rfl, hb⟩
   refine ⟨_, rfl, ?_⟩
   replace BK239 := bK_ BK239 hb
   replace HB := nc_ GE239 hb
   (try clear hb)
   (try clear hb2)
   (try clear hk)
   (try clear hi)
   have q16 : (x7_1 : Int) ≤ ((l0.length : Int) : Int) := oa_
   obtain ⟨i016, hi016, _, hsz16, _⟩ := info_parts info25
   have hroom16 : l0.length ≤ c0 := HC0.out
   have hC16 : Kd.C k25 _ (some ad238) l0.length l0 := HR0.out
   have hcut16 := cut_to (P := Try.prog) 42 25 .i64 Try.underlying42 hi016 (some ad238) l0.length c0 x7_1 (oa_) q16 hroom16
   have hr16 := Kd.C_take (m := (x7_1 : Int).toNat) hC16 (by omega)
   have hy16 : y241.length = (x7_1 : Int).toNat := (by rw [Ny241.out, List.length_take]; omega)
   rw [← Ny241.out] at hr16
   rw [← hy16] at hcut16
   have HR244 := Aside0.mk hr16
   have HC244 := Aside0.mk (show y241.length ≤ c0 from by omega)
   clear hr16 hC16 hroom16 hi016 hsz16
   have KY16 := Aside0.mk hy16
   clear hy16
   replace q16 := eq_true q16
   refine hK.out _ _ ⟨(blk_cell BK239.out 0).trans rfl, (blk_cell BK239.out 1).trans rfl, (blk_cell BK239.out 2).trans rfl, (blk_cell BK239.out 3).trans rfl, (blk_cell BK239.out 4).trans rfl⟩ (fun hHeld => ?_)
   clear hK K
   refine no_ ?_
   refine pv_ 2 14 ?_
   refine pv_ 3 15 ?_
   refine pv_ 4 16 ?_
   refine pv_ 5 17 ?_
   refine pv_ 6 18 ?_
   refine take_ (i := 7) (N := some 19) (v := ?_) (a' := ?_) #[true, true, true, true, true, true, true, true, false, false, false] rfl rfl (take_ofW HT_.out HW_.out (by kernel_rfl)) (fun _ _ _ h => h) (Or.inl ⟨by rfl, ?_⟩) hHeld ?_ ?_
   rotate_left
   ·rintro w' ⟨s0, s1, s2, s3, s4⟩
    go_simp
    with_reducible rfl
   rotate_left
   ·simp only [Act.put, List.setIfInBounds_toArray, List.set_cons_zero, List.set_cons_succ, i64_w, i32_w]
    rfl
   refine one_ (i := 8) (N := some 20) #[true, true, true, true, true, true, true, true, true, false, false] rfl rfl (one_of HT_.out (by kernel_rfl)) (by decide) (fun K hK => ?_)
   refine gs_ Try.func60 #[.slice (some ad238) y241.length c0, .agg #[.int .i64 ((rd_T25 l0 x7_1).f0), .int .i64 ((rd_T25 l0 x7_1).f1), .int .i64 ((rd_T25 l0 x7_1).f2), .int .i64 ((rd_T25 l0 x7_1).f3), .slice A238_4 ((rd_T25 l0 x7_1).f4).length c238_4]] rfl ma_ ?_
   with_reducible refine (impl_follows.calls _ _ y241 ((rd_T25 l0 x7_1).f0) ((rd_T25 l0 x7_1).f1) ((rd_T25 l0 x7_1).f2) ((rd_T25 l0 x7_1).f3) _ _ ((rd_T25 l0 x7_1).f4) true _ ?side1 ?side2 ?side3 ?side4 A9.out).mono ?_
   (case side1 => exact cs_ ((Kd.C_below HR244.out HB.out)))
   (case side2 => exact HC244.out)
   (case side3 => exact cs_ ((Kd.C_below HR238_4.out HB.out)))
   (case side4 => exact HC238_4.out)
   rintro e w17 ⟨rfl, hb⟩
   refine ⟨_, rfl, ?_⟩
   replace BK239 := bK_ BK239 hb
   replace HB := nc_ GE239 hb
   (try clear hb)
   (try clear hb2)
   (try clear hk)
   (try clear hi)
   refine hK.out _ _ ⟨(blk_cell BK239.out 0).trans rfl, (blk_cell BK239.out 1).trans rfl, (blk_cell BK239.out 2).trans rfl, (blk_cell BK239.out 3).trans rfl, (blk_cell BK239.out 4).trans rfl⟩ (fun hHeld => ?_)
   clear hK K
   refine no_ ?_
   refine pv_ 9 21 ?_
   refine pv_ 10 22 ?_
   refine done_ (done_of HT_.out (by kernel_rfl)) ?_
   try go_wp2
   go_roundg k1
   case measure => have := HK1.out; omega
   case rel => exact ⟨(wrap64 (x7_1 + 1)), sr_, H', ⟨by have := HK1.out; omega⟩, ⟨hs_ GE239.out⟩⟩

/-! ### impl_LogBytes: function 20 -/
def impl_LogBytes.l0 : Nat → ByteArray → List (S25) → Int → Int → Option (ByteArray × Bool)
 | 0, _, _, _, _ => none
 | k + 1, x4, x10, x11, x12 => if x12 < x11 then (if 0 ≤ x12 then (if x12 < (x10.length : Int) then ((impl_batchBytes.f k ((rd_T25 x10 x12).f0) ((rd_T25 x10 x12).f1) ((rd_T25 x10 x12).f2) ((rd_T25 x10 x12).f3) ((rd_T25 x10 x12).f4)).bind fun t249 => (if x4.size + t249.size ≤ 9223372036854775807 then (impl_LogBytes.l0 k (x4 ++ t249) x10 x11 (wrap64 (x12 + 1))) else (none))) else (none)) else (none)) else (if (x4.size : Int) > 600 then (some ((⟨#[]⟩ : ByteArray), false)) else (some (x4, true)))
def impl_LogBytes.f (k : Nat) (l0 : List (S25)) : Option (ByteArray × Bool) := (impl_isLog.f k l0).bind fun t246 => (if t246 = true then (impl_LogBytes.l0 k (⟨#[]⟩ : ByteArray) l0 (l0.length : Int) 0) else (some ((⟨#[]⟩ : ByteArray), false)))
theorem impl_LogBytes.mono_l : ∀ k, (∀ y0 y1 y2 y3, LeO (impl_LogBytes.l0 k y0 y1 y2 y3) (impl_LogBytes.l0 (k + 1) y0 y1 y2 y3))
 | 0 => fun _ _ _ _ r h => by simp [impl_LogBytes.l0] at h
 | k + 1 => by
  have ih0 := impl_LogBytes.mono_l k
  ·intro y0 y1 y2 y3
   unfold impl_LogBytes.l0
   repeat' first
   | (with_reducible exact ih0 _ _ _ _)
   | (with_reducible exact impl_batchBytes.mono _ _ _ _ _ _)
   | (with_reducible exact impl_isLog.mono _ _)
   | (with_reducible exact LeO.refl _)
   | (with_reducible exact LeO.none _)
   | (with_reducible refine LeO.ite ?_ ?_)
   | (with_reducible refine LeO.bind ?_ (fun _ => ?_))
   | exact ih0 _ _ _ _
   | exact impl_batchBytes.mono _ _ _ _ _ _
   | exact impl_isLog.mono _ _
   | exact LeO.none _
   | refine LeO.ite ?_ ?_
   | refine LeO.bind ?_ (fun _ => ?_)
theorem impl_LogBytes.mono : ∀ a0 k, LeO (impl_LogBytes.f k a0) (impl_LogBytes.f (k + 1) a0) := by
 intro a0 k
 have ih0 := impl_LogBytes.mono_l k
 unfold impl_LogBytes.f
 repeat' first
   | (with_reducible exact ih0 _ _ _ _)
   | (with_reducible exact impl_batchBytes.mono _ _ _ _ _ _)
   | (with_reducible exact impl_isLog.mono _ _)
   | (with_reducible exact LeO.refl _)
   | (with_reducible exact LeO.none _)
   | (with_reducible refine LeO.ite ?_ ?_)
   | (with_reducible refine LeO.bind ?_ (fun _ => ?_))
   | exact ih0 _ _ _ _
   | exact impl_batchBytes.mono _ _ _ _ _ _
   | exact impl_isLog.mono _ _
   | exact LeO.none _
   | refine LeO.ite ?_ ?_
   | refine LeO.bind ?_ (fun _ => ?_)
set_option maxHeartbeats 8000000 in
set_option maxRecDepth 100000 in
theorem impl_LogBytes.calls (k : Nat) (A0 : Option Addr) (c0 : Nat) (l0 : List (S25)) (r1 : ByteArray) (r2 : Bool) (w : World) (hr0 : Kd.C k25 w A0 l0.length l0) (hc0 : l0.length ≤ c0) (h : impl_LogBytes.f k l0 = some (r1, r2)) :
  Calls Try.prog 20 #[.slice A0 l0.length c0] w fun e w' => e = .returned (.tuple #[.string r1, .bool r2]) ∧ Below w.heap.size w w' := by
 have hu25 := Try.underlying25
 have HR0 := Aside0.mk hr0
 have HC0 := Aside0.mk hc0
 clear hr0 hc0
 have HB := Aside0.mk (Below.refl w.heap.size w)
 have H : ((impl_isLog.f k l0).bind fun t246 => (if t246 = true then (impl_LogBytes.l0 k (⟨#[]⟩ : ByteArray) l0 (l0.length : Int) 0) else (some ((⟨#[]⟩ : ByteArray), false)))) = some (r1, r2) := h
 clear h
 replace H := bnd_ H
 obtain ⟨t246, A2, H⟩ := H
 replace H := ifb_ H
 obtain ⟨rfl, H⟩ | ⟨rfl, H⟩ := H
 rotate_left
 ·simp only [Option.some.injEq, Prod.mk.injEq] at H
  obtain ⟨rfl, rfl⟩ := H
  go_enter Try.func20, Try.ntmps20
  go_wp2_with (first | ((with_reducible refine gate_callee (f := 43) rfl ?_); refine gl_ 8 Try.func43 #[.slice A0 l0.length c0] rfl ma_ ?_; (with_reducible refine (impl_isLog.calls k _ _ l0 false _ ?side1 ?side2 A2.out).mono ?_); (case side1 => exact cs_ (HR0.out)); (case side2 => exact HC0.out); rintro e w14 ⟨rfl, hb⟩; refine ⟨_, rfl, ?_⟩; replace HB := nb_ hb; (try clear hb); (try clear hb2); (try clear hk); (try clear hi)))
  go_ret2
  exact ⟨er_, hb_⟩
 have H' := Aside0.mk H
 clear H
 go_enter Try.func20, Try.ntmps20
 go_wp2_with (first | ((with_reducible refine gate_callee (f := 43) rfl ?_); refine gl_ 8 Try.func43 #[.slice A0 l0.length c0] rfl ma_ ?_; (with_reducible refine (impl_isLog.calls k _ _ l0 true _ ?side1 ?side2 A2.out).mono ?_); (case side1 => exact cs_ (HR0.out)); (case side2 => exact HC0.out); rintro e w4 ⟨rfl, hb⟩; refine ⟨_, rfl, ?_⟩; replace HB := nb_ hb; (try clear hb); (try clear hb2); (try clear hk); (try clear hi)))
 go_loopg [4, 12] k (fun kq v4 v12 w' => ∃ (x4_1 : ByteArray) (x12_1 : Int), v4 = .string x4_1 ∧ v12 = .int .i64 x12_1 ∧ Aside0 (impl_LogBytes.l0 kq x4_1 l0 (l0.length : Int) x12_1 = some (r1, r2)) ∧ Aside0 (kq ≤ k) ∧ Aside0 (Below w.heap.size w w'))
 case atStart => exact ⟨((⟨#[]⟩ : ByteArray)), (0), sr_, sr_, H', ⟨Nat.le_refl _⟩, ⟨hb_⟩⟩
 case round =>
  clear H'
  try clear c2
  try clear p2
  try clear c3
  try clear c4
  obtain ⟨x4_1, x12_1, rfl, rfl, HA, HK1, HB⟩ := hrel
  cases gk with
  | zero => exact absurd HA.out (by simp [impl_LogBytes.l0])
  | succ k1 =>
   have H := HA.out
   clear HA
   simp only [impl_LogBytes.l0] at H
   replace H := ite_ H
   obtain ⟨c5, H⟩ | ⟨c5, H⟩ := H
   rotate_left
   ·have c5b0 := decide_eq_false c5
    clear c5
    replace H := ite_ H
    obtain ⟨c13, H⟩ | ⟨c13, H⟩ := H
    ·have c13b0 := dgt_ c13
     have c13b1 : decide (600 < x4_1.size) = true := decide_eq_true (by omega)
     clear c13
     simp only [Option.some.injEq, Prod.mk.injEq] at H
     obtain ⟨rfl, rfl⟩ := H
     go_wp2
     go_ret2
     exact ⟨er_, hb_⟩
    have c13b0 := dgf_ c13
    have c13b1 : decide (600 < x4_1.size) = false := decide_eq_false (by omega)
    clear c13
    simp only [Option.some.injEq, Prod.mk.injEq] at H
    obtain ⟨rfl, rfl⟩ := H
    go_wp2
    go_ret2
    exact ⟨er_, hb_⟩
   have c5b0 := decide_eq_true c5
   clear c5
   replace H := ifs_ H
   obtain ⟨c6, H⟩ := H
   have c6b0 := decide_eq_true c6
   clear c6
   replace H := ifs_ H
   obtain ⟨c7, H⟩ := H
   have c7b0 := decide_eq_true c7
   clear c7
   replace H := bnd_ H
   obtain ⟨t249, A8, H⟩ := H
   replace H := ifs_ H
   obtain ⟨c9, H⟩ := H
   have c9b0 := eq_true c9
   have c9b1 := decide_eq_true c9
   try have c9b2 : (9223372036854775807 < x4_1.size + t249.size) = False := eq_false (Nat.not_lt.2 c9)
   try have c9w := cw_ c9
   (try rw [c9w] at c5b0)
   (try rw [c9w] at c6b0)
   (try rw [c9w] at c7b0)
   have H' := Aside0.mk H
   clear H
   have p247 : 0 ≤ (x12_1 : Int) := oa_
   have q247 : x12_1 < (l0.length : Int) := oa_
   obtain ⟨ad247, A247_4, c247_4, e247, hx247_0, hx247_1, hx247_2, hx247_3, hx247_4, hl247_4, hi247_4⟩ := at_T25 HR0.out x12_1 p247 q247
   cases e247
   replace hx247_0 := pc_ HB.out hx247_0
   replace hx247_1 := pc_ HB.out hx247_1
   replace hx247_2 := pc_ HB.out hx247_2
   replace hx247_3 := pc_ HB.out hx247_3
   replace hx247_4 := pc_ HB.out hx247_4
   have HR247_4 := Aside0.mk hi247_4
   have HC247_4 := Aside0.mk hl247_4
   clear hi247_4 hl247_4
   replace p247 := eq_true p247
   replace q247 := eq_true q247
   go_wp2_with (first | ((with_reducible refine gate_dst (N := 6) rfl ?_); refine be_ (N := 6) #[.int .i64 0, .int .i64 0, .int .i64 0, .int .i64 0, .slice none 0 0] 25 ?_; intro gb248 hg w10 hbox hb; have BK248 := Aside0.mk (hbox); have GW248 := ge_ hg; have GE248 := ge_ hg; replace HB := nb_ hb; clear hb hbox hg; obtain ⟨hcz11_0, hcz11_1, hcz11_2, hcz11_3, hcz11_4, hfz11_0, hfz11_1, hfz11_2, hfz11_3, hfz11_4⟩ := cf5_ BK248.out) | ((with_reducible refine gate_callee (f := 30) rfl ?_); refine gl_ 18 Try.func30 #[.agg #[.int .i64 ((rd_T25 l0 x12_1).f0), .int .i64 ((rd_T25 l0 x12_1).f1), .int .i64 ((rd_T25 l0 x12_1).f2), .int .i64 ((rd_T25 l0 x12_1).f3), .slice A247_4 ((rd_T25 l0 x12_1).f4).length c247_4]] rfl ma_ ?_; (with_reducible refine (impl_batchBytes.calls k1 ((rd_T25 l0 x12_1).f0) ((rd_T25 l0 x12_1).f1) ((rd_T25 l0 x12_1).f2) ((rd_T25 l0 x12_1).f3) _ _ ((rd_T25 l0 x12_1).f4) t249 _ ?side1 ?side2 A8.out).mono ?_); (case side1 => exact Kd.C_below HR247_4.out (hs_ GE248.out)); (case side2 => exact HC247_4.out); rintro e w12 ⟨rfl, hb⟩; refine ⟨_, rfl, ?_⟩; replace BK248 := Aside0.mk (blk_below (g := gb248) (o := .cells #[.int .i64 ((rd_T25 l0 x12_1).f0), .int .i64 ((rd_T25 l0 x12_1).f1), .int .i64 ((rd_T25 l0 x12_1).f2), .int .i64 ((rd_T25 l0 x12_1).f3), .slice A247_4 ((rd_T25 l0 x12_1).f4).length c247_4] 25 (0, 0)) (by (with_reducible repeat (first | refine blk_drewN ?_ _ | refine blk_drew ?_ | refine blk_alloc ?_ _)); refine blk_put (cs := #[.int .i64 ((rd_T25 l0 x12_1).f0), .int .i64 ((rd_T25 l0 x12_1).f1), .int .i64 ((rd_T25 l0 x12_1).f2), .int .i64 ((rd_T25 l0 x12_1).f3), .slice none 0 0]) ?_ 4 _ rfl; (with_reducible repeat (first | refine blk_drewN ?_ _ | refine blk_drew ?_ | refine blk_alloc ?_ _)); refine blk_put (cs := #[.int .i64 ((rd_T25 l0 x12_1).f0), .int .i64 ((rd_T25 l0 x12_1).f1), .int .i64 ((rd_T25 l0 x12_1).f2), .int .i64 0, .slice none 0 0]) ?_ 3 _ rfl; (with_reducible repeat (first | refine blk_drewN ?_ _ | refine blk_drew ?_ | refine blk_alloc ?_ _)); refine blk_put (cs := #[.int .i64 ((rd_T25 l0 x12_1).f0), .int .i64 ((rd_T25 l0 x12_1).f1), .int .i64 0, .int .i64 0, .slice none 0 0]) ?_ 2 _ rfl; (with_reducible repeat (first | refine blk_drewN ?_ _ | refine blk_drew ?_ | refine blk_alloc ?_ _)); refine blk_put (cs := #[.int .i64 ((rd_T25 l0 x12_1).f0), .int .i64 0, .int .i64 0, .int .i64 0, .slice none 0 0]) ?_ 1 _ rfl; (with_reducible repeat (first | refine blk_drewN ?_ _ | refine blk_drew ?_ | refine blk_alloc ?_ _)); refine blk_put (cs := #[.int .i64 0, .int .i64 0, .int .i64 0, .int .i64 0, .slice none 0 0]) ?_ 0 _ rfl; (with_reducible repeat (first | refine blk_drewN ?_ _ | refine blk_drew ?_ | refine blk_alloc ?_ _)); exact BK248.out) hb); replace HB := nc_ GE248 hb; (try clear hb); (try clear hb2); (try clear hk); (try clear hi)))
   go_roundg k1
   case measure => have := HK1.out; omega
   case rel => exact ⟨(x4_1 ++ t249), (wrap64 (x12_1 + 1)), sr_, sr_, H', ⟨by have := HK1.out; omega⟩, ⟨hs_ GE248.out⟩⟩

/-! ### spec_l1Next: function 45 -/
def spec_l1Next.f (a0_0 : Int) (a0_1 : Int) (a0_2 : Int) (a0_3 : Int) (l0_4 : List ByteArray) (a1_0 : Int) (a1_1 : Int) (a1_2 : Int) (a1_3 : Int) (l1_4 : List ByteArray) : Option (Bool) := if a1_0 = (wrap64 (a0_0 + (l0_4.length : Int))) then (some (decide (a1_1 ≥ a0_1))) else (some false)
set_option maxHeartbeats 8000000 in
set_option maxRecDepth 100000 in
theorem spec_l1Next.calls (a0_0 : Int) (a0_1 : Int) (a0_2 : Int) (a0_3 : Int) (A0_4 : Option Addr) (c0_4 : Nat) (l0_4 : List ByteArray) (a1_0 : Int) (a1_1 : Int) (a1_2 : Int) (a1_3 : Int) (A1_4 : Option Addr) (c1_4 : Nat) (l1_4 : List ByteArray) (r : Bool) (w : World) (hr0_4 : Kd.C Kd.string w A0_4 l0_4.length l0_4) (hc0_4 : l0_4.length ≤ c0_4) (hr1_4 : Kd.C Kd.string w A1_4 l1_4.length l1_4) (hc1_4 : l1_4.length ≤ c1_4) (h : spec_l1Next.f a0_0 a0_1 a0_2 a0_3 l0_4 a1_0 a1_1 a1_2 a1_3 l1_4 = some r) :
  Calls Try.prog 45 #[.agg #[.int .i64 a0_0, .int .i64 a0_1, .int .i64 a0_2, .int .i64 a0_3, .slice A0_4 l0_4.length c0_4], .agg #[.int .i64 a1_0, .int .i64 a1_1, .int .i64 a1_2, .int .i64 a1_3, .slice A1_4 l1_4.length c1_4]] w fun e w' => e = .returned (.bool r) ∧ Below w.heap.size w w' := by
 have hu25 := Try.underlying25
 have HR0_4 := Aside0.mk hr0_4
 have HC0_4 := Aside0.mk hc0_4
 clear hr0_4 hc0_4
 have HR1_4 := Aside0.mk hr1_4
 have HC1_4 := Aside0.mk hc1_4
 clear hr1_4 hc1_4
 have HB := Aside0.mk (Below.refl w.heap.size w)
 have H : (if a1_0 = (wrap64 (a0_0 + (l0_4.length : Int))) then (some (decide (a1_1 ≥ a0_1))) else (some false)) = some r := h
 clear h
 replace H := ite_ H
 obtain ⟨c3, H⟩ | ⟨c3, H⟩ := H
 ·have c3b0 : (a1_0 == (wrap64 (a0_0 + (l0_4.length : Int)))) = true := beq_iff_eq.mpr c3
  have c3b1 : (a1_0 != (wrap64 (a0_0 + (l0_4.length : Int)))) = false := bne_eq_false_iff_eq.mpr c3
  clear c3
  obtain rfl := Option.some.inj H
  go_enter Try.func45, Try.ntmps45
  go_wp2_with (first | ((with_reducible refine gate_dst (N := 2) rfl ?_); refine be_ (N := 2) #[.int .i64 a0_0, .int .i64 a0_1, .int .i64 a0_2, .int .i64 a0_3, .slice A0_4 l0_4.length c0_4] 25 ?_; intro gb250 hg w4 hbox hb; have BK250 := Aside0.mk (hbox); have GW250 := ge_ hg; have GE250 := ge_ hg; replace HB := nb_ hb; clear hb hbox hg) | ((with_reducible refine gate_dst (N := 3) rfl ?_); refine be_ (N := 3) #[.int .i64 a1_0, .int .i64 a1_1, .int .i64 a1_2, .int .i64 a1_3, .slice A1_4 l1_4.length c1_4] 25 ?_; intro gb251 hg w5 hbox hb; have BK251 := Aside0.mk (hbox); have GW251 := ge1_ hg GE250; have GE251 := ge1_ hg GE250; replace HB := nc_ GE250 hb; have NB250_251 := nl_ BK250 hg; have NB251_250 := ng_ BK250 hg; replace BK250 := bK_ BK250 hb; clear hb hbox hg; have hnb6 := NB251_250.out; have hnc6 := NB250_251.out; obtain ⟨hcz7_0, hcz7_1, hcz7_2, hcz7_3, hcz7_4, hfz7_0, hfz7_1, hfz7_2, hfz7_3, hfz7_4⟩ := cf5_ BK251.out; obtain ⟨hcz8_0, hcz8_1, hcz8_2, hcz8_3, hcz8_4, hfz8_0, hfz8_1, hfz8_2, hfz8_3, hfz8_4⟩ := cf5_ BK250.out))
  go_ret
  exact ⟨er_, hs2_ GE250.out GE251.out⟩
 have c3b0 : (a1_0 == (wrap64 (a0_0 + (l0_4.length : Int)))) = false := beq_eq_false_iff_ne.mpr c3
 have c3b1 : (a1_0 != (wrap64 (a0_0 + (l0_4.length : Int)))) = true := bne_iff_ne.mpr c3
 obtain rfl := Option.some.inj H
 go_enter Try.func45, Try.ntmps45
 go_wp2_with (first | ((with_reducible refine gate_dst (N := 2) rfl ?_); refine be_ (N := 2) #[.int .i64 a0_0, .int .i64 a0_1, .int .i64 a0_2, .int .i64 a0_3, .slice A0_4 l0_4.length c0_4] 25 ?_; intro gb250 hg w9 hbox hb; have BK250 := Aside0.mk (hbox); have GW250 := ge_ hg; have GE250 := ge_ hg; replace HB := nb_ hb; clear hb hbox hg) | ((with_reducible refine gate_dst (N := 3) rfl ?_); refine be_ (N := 3) #[.int .i64 a1_0, .int .i64 a1_1, .int .i64 a1_2, .int .i64 a1_3, .slice A1_4 l1_4.length c1_4] 25 ?_; intro gb251 hg w10 hbox hb; have BK251 := Aside0.mk (hbox); have GW251 := ge1_ hg GE250; have GE251 := ge1_ hg GE250; replace HB := nc_ GE250 hb; have NB250_251 := nl_ BK250 hg; have NB251_250 := ng_ BK250 hg; replace BK250 := bK_ BK250 hb; clear hb hbox hg; have hnb11 := NB251_250.out; have hnc11 := NB250_251.out; obtain ⟨hcz12_0, hcz12_1, hcz12_2, hcz12_3, hcz12_4, hfz12_0, hfz12_1, hfz12_2, hfz12_3, hfz12_4⟩ := cf5_ BK251.out; obtain ⟨hcz13_0, hcz13_1, hcz13_2, hcz13_3, hcz13_4, hfz13_0, hfz13_1, hfz13_2, hfz13_3, hfz13_4⟩ := cf5_ BK250.out))
 go_ret
 exact ⟨er_, hs2_ GE250.out GE251.out⟩

end Go.Proofs.Ytjjhebkkpeapkaa.QFnLogs
