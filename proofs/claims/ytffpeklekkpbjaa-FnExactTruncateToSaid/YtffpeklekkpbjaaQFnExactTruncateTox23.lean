/- Functions that one statement reaches: of each a plain function, and the proof that calls come to it. Conditions: those that each contract names. Written by a program of this repository. -/
import Derived.Test.YtffpeklekkpbjaaVTruncateToa
import Derived.Test.YtffpeklekkpbjaaQFnExactTruncateTox2
import Derived.Test.YtffpeklekkpbjaaQFnExactTruncateTox19
import Derived.Test.YtffpeklekkpbjaaQFnExactTruncateTox21
namespace Go.Proofs.Ytffpeklekkpbjaa.QFnExactTruncateTo
open Go.RowKit Go.Proofs.YtffpeklekkpbjaaW.PrintWords Go.Proofs.YtffpeklekkpbjaaW.PrintLast Go.Proofs.YtffpeklekkpbjaaW.PrintMore
attribute [local go_sem] max2_int min2_int max_two min_two max_three min_three max_four min_four Go.Proofs.YtffpeklekkpbjaaW.PrintMore2.isSome_setCell   -- for this text's walks alone
set_option linter.unusedVariables false
set_option linter.unusedSimpArgs false

attribute [local go_sem high] eqA89
/-! ### impl_isLog: function 90 -/
def impl_isLog.l0 : Nat → List (S43) → List (S43) → Int → Int → Option (Bool)
 | 0, _, _, _, _ => none
 | k + 1, x0, x5, x6, x7 => if x7 < x6 then (if 0 ≤ x7 then (if x7 < (x5.length : Int) then ((impl_isBatch.f ((rd_T43 x5 x7).f0) ((rd_T43 x5 x7).f1) ((rd_T43 x5 x7).f2) ((rd_T43 x5 x7).f3) ((rd_T43 x5 x7).f4)).bind fun t406 => (if t406 = true then (if x7 ≤ (x0.length : Int) then ((impl_follows.f (x0.take (x7 : Int).toNat) ((rd_T43 x5 x7).f0) ((rd_T43 x5 x7).f1) ((rd_T43 x5 x7).f2) ((rd_T43 x5 x7).f3) ((rd_T43 x5 x7).f4)).bind fun t411 => (if t411 = true then (impl_isLog.l0 k x0 x5 x6 (wrap64 (x7 + 1))) else (some false))) else (none)) else (some false))) else (none)) else (none)) else (some true)
def impl_isLog.f (k : Nat) (l0 : List (S43)) : Option (Bool) := impl_isLog.l0 k l0 l0 (l0.length : Int) 0
theorem impl_isLog.mono_l : ∀ k, (∀ y0 y1 y2 y3, LeO (impl_isLog.l0 k y0 y1 y2 y3) (impl_isLog.l0 (k + 1) y0 y1 y2 y3))
 | 0 => fun _ _ _ _ r h => by simp [impl_isLog.l0] at h
 | k + 1 => by
  have ih0 := impl_isLog.mono_l k
  ·intro y0 y1 y2 y3
   unfold impl_isLog.l0
   repeat' first
   | (with_reducible first | apply ih0 | exact LeO.refl _ | exact LeO.none _ | refine LeO.ite ?_ ?_ | refine LeO.bind ?_ (fun _ => ?_))
theorem impl_isLog.mono : ∀ a0 k, LeO (impl_isLog.f k a0) (impl_isLog.f (k + 1) a0) := by
 intro a0 k
 have ih0 := impl_isLog.mono_l k
 unfold impl_isLog.f
 repeat' first
   | (with_reducible first | apply ih0 | exact LeO.refl _ | exact LeO.none _ | refine LeO.ite ?_ ?_ | refine LeO.bind ?_ (fun _ => ?_))
def impl_isLog.T4 : Bool × List (List Nat × List Nat) := (true, [([], []), ([0], [0]), ([1], [1]), ([2, 1], [2]), ([3], [3]), ([3], [3]), ([4, 5, 3], [3, 4, 5]), ([3], [3]), ([6, 7, 3, 3], [3, 6, 7]), ([8, 3], [3, 8]), ([3, 9], [3, 9])])
def impl_isLog.B4 : List Nat := [0, 1, 3, 7, 15, 15, 63, 15, 255, 511, 1023]
theorem impl_isLog.tab4 : rtab .any (opsOf Try.f90 4) = impl_isLog.T4 := by kernel_rfl
theorem impl_isLog.bits4 : waitsOk impl_isLog.T4.2 impl_isLog.B4 = true := by kernel_rfl
set_option maxHeartbeats 8000000 in
set_option maxRecDepth 100000 in
theorem impl_isLog.calls (k : Nat) (A0 : Option Addr) (c0 : Nat) (l0 : List (S43)) (r : Bool) (w : World) (hr0 : Kd.C k43 w A0 l0.length l0) (hc0 : l0.length ≤ c0) (h : impl_isLog.f k l0 = some r) :
  Calls Try.prog 90 #[.slice A0 l0.length c0] w fun e w' => e = .returned (.bool r) ∧ Below w.heap.size w w' := by
 have hu43 := Try.underlying43
 have HR0 := Aside0.mk hr0
 have HC0 := Aside0.mk hc0
 clear hr0 hc0
 have HB := Aside0.mk (Below.refl w.heap.size w)
 have H : (impl_isLog.l0 k l0 l0 (l0.length : Int) 0) = some r := h
 clear h
 have H' := Aside0.mk H
 clear H
 go_enter Try.func90, Try.ntmps90
 go_wp2
 go_loopg [7] k (fun kq v7 w' => ∃ (x7_1 : Int), v7 = .int .i64 x7_1 ∧ Aside0 (impl_isLog.l0 kq l0 l0 (l0.length : Int) x7_1 = some r) ∧ Aside0 (kq ≤ k) ∧ Aside0 (Below w.heap.size w w'))
 case atStart => exact ⟨(0), sr_, H', ⟨Nat.le_refl _⟩, ⟨hb_⟩⟩
 case round =>
  clear H'
  obtain ⟨x7_1, rfl, HA, HK1, HB⟩ := hrel
  cases gk with
  | zero => exact absurd HA.out (by simp [impl_isLog.l0])
  | succ k1 =>
   have H := HA.out
   clear HA
   simp only [impl_isLog.l0] at H
   replace H := ite_ H
   obtain ⟨c2, H⟩ | ⟨c2, H⟩ := H
   rotate_left
   ·have c2b0 := decide_eq_false c2
    clear c2
    obtain rfl := Option.some.inj H
    go_wp2
    go_ret
    exact ⟨er_, hb_⟩
   have c2b0 := decide_eq_true c2
   clear c2
   replace H := ifs_ H
   obtain ⟨c3, H⟩ := H
   have c3b0 := decide_eq_true c3
   clear c3
   replace H := ifs_ H
   obtain ⟨c4, H⟩ := H
   have c4b0 := decide_eq_true c4
   clear c4
   replace H := bnd_ H
   obtain ⟨t406, A5, H⟩ := H
   replace H := ifb_ H
   obtain ⟨rfl, H⟩ | ⟨rfl, H⟩ := H
   rotate_left
   ·obtain rfl := Option.some.inj H
    have p404 : 0 ≤ (x7_1 : Int) := oa_
    have q404 : x7_1 < (l0.length : Int) := oa_
    obtain ⟨ad404, A404_4, c404_4, e404, hx404_0, hx404_1, hx404_2, hx404_3, hx404_4, hl404_4, hi404_4⟩ := at_T43 HR0.out x7_1 p404 q404
    cases e404
    replace hx404_0 := pc_ HB.out hx404_0
    replace hx404_1 := pc_ HB.out hx404_1
    replace hx404_2 := pc_ HB.out hx404_2
    replace hx404_3 := pc_ HB.out hx404_3
    replace hx404_4 := pc_ HB.out hx404_4
    have HR404_4 := Aside0.mk hi404_4
    have HC404_4 := Aside0.mk hl404_4
    clear hi404_4 hl404_4
    replace p404 := eq_true p404
    replace q404 := eq_true q404
    try go_wp2_with (first | ((with_reducible refine gate_dst (N := 4) rfl ?_); refine bq_ (N := 4) #[.int .i64 0, .int .i64 0, .int .i64 0, .int .i64 0, .slice none 0 0] 43 ?_; intro gb405 hg w25 BK405 hb; have GE405 := ge_ hg; replace HB := nb_ hb; clear hb hg; obtain ⟨hcz26_0, hcz26_1, hcz26_2, hcz26_3, hcz26_4, hfz26_0, hfz26_1, hfz26_2, hfz26_3, hfz26_4⟩ := cf5_ BK405.out))
    have n0_ : Aside0 ((((((w25.setCell ⟨gb405, 0, none⟩ (.int .i64 ((rd_T43 l0 x7_1).f0))).setCell ⟨gb405, 1, none⟩ (.int .i64 ((rd_T43 l0 x7_1).f1))).setCell ⟨gb405, 2, none⟩ (.int .i64 ((rd_T43 l0 x7_1).f2))).setCell ⟨gb405, 3, none⟩ (.int .i64 ((rd_T43 l0 x7_1).f3))).setCell ⟨gb405, 4, none⟩ (.slice A404_4 ((rd_T43 l0 x7_1).f4).length c404_4)).heap[gb405]? = some (.cells #[.int .i64 ((rd_T43 l0 x7_1).f0), .int .i64 ((rd_T43 l0 x7_1).f1), .int .i64 ((rd_T43 l0 x7_1).f2), .int .i64 ((rd_T43 l0 x7_1).f3), .slice A404_4 ((rd_T43 l0 x7_1).f4).length c404_4] 43 (0, 0))) := ⟨up_ BK405⟩
    have n1_ : Aside0 (Below w.heap.size w (((((w25.setCell ⟨gb405, 0, none⟩ (.int .i64 ((rd_T43 l0 x7_1).f0))).setCell ⟨gb405, 1, none⟩ (.int .i64 ((rd_T43 l0 x7_1).f1))).setCell ⟨gb405, 2, none⟩ (.int .i64 ((rd_T43 l0 x7_1).f2))).setCell ⟨gb405, 3, none⟩ (.int .i64 ((rd_T43 l0 x7_1).f3))).setCell ⟨gb405, 4, none⟩ (.slice A404_4 ((rd_T43 l0 x7_1).f4).length c404_4))) := ⟨hs_ GE405.out⟩
    (try clear BK405)
    (try clear HB)
    generalize (((((w25.setCell ⟨gb405, 0, none⟩ (.int .i64 ((rd_T43 l0 x7_1).f0))).setCell ⟨gb405, 1, none⟩ (.int .i64 ((rd_T43 l0 x7_1).f1))).setCell ⟨gb405, 2, none⟩ (.int .i64 ((rd_T43 l0 x7_1).f2))).setCell ⟨gb405, 3, none⟩ (.int .i64 ((rd_T43 l0 x7_1).f3))).setCell ⟨gb405, 4, none⟩ (.slice A404_4 ((rd_T43 l0 x7_1).f4).length c404_4)) = w27 at n0_ n1_ ⊢
    have BK405 := n0_
    have HB := n1_
    clear n0_ n1_
    replace BK405 := qK_ BK405
    replace HB := qH_ HB
    refine start_ (n := 11) (S := fun w' => w'.cell? ⟨gb405, 0, none⟩ = some (.int .i64 ((rd_T43 l0 x7_1).f0)) ∧ w'.cell? ⟨gb405, 1, none⟩ = some (.int .i64 ((rd_T43 l0 x7_1).f1)) ∧ w'.cell? ⟨gb405, 2, none⟩ = some (.int .i64 ((rd_T43 l0 x7_1).f2)) ∧ w'.cell? ⟨gb405, 3, none⟩ = some (.int .i64 ((rd_T43 l0 x7_1).f3)) ∧ w'.cell? ⟨gb405, 4, none⟩ = some (.slice A404_4 ((rd_T43 l0 x7_1).f4).length c404_4)) (ds := []) (List.replicate 11 false).toArray (by kernel_rfl) rfl rfl ⟨bt_ BK405 0, bt_ BK405 1, bt_ BK405 2, bt_ BK405 3, bt_ BK405 4⟩ (fun hHeld => ?_); refine with_tabW impl_isLog.tab4 impl_isLog.bits4 (fun HT_ HW_ => ?_)
    generalize w27.drew = w28 at BK405 HB hHeld ⊢
    refine tk_ 0 12 ?_
    refine on_ 1 13 (fun K hK => ?_)
    refine gs_ Try.func83 #[.agg #[.int .i64 ((rd_T43 l0 x7_1).f0), .int .i64 ((rd_T43 l0 x7_1).f1), .int .i64 ((rd_T43 l0 x7_1).f2), .int .i64 ((rd_T43 l0 x7_1).f3), .slice A404_4 ((rd_T43 l0 x7_1).f4).length c404_4]] rfl ma_ ?_
    with_reducible refine (impl_isBatch.calls ((rd_T43 l0 x7_1).f0) ((rd_T43 l0 x7_1).f1) ((rd_T43 l0 x7_1).f2) ((rd_T43 l0 x7_1).f3) _ _ ((rd_T43 l0 x7_1).f4) false _ ?side1 ?side2 A5.out).mono ?_
    (case side1 => exact cs_ ((Kd.C_below HR404_4.out HB.out)))
    (case side2 => exact HC404_4.out)
    rintro e w29 ⟨rfl, hb⟩
    refine ⟨_, rfl, ?_⟩
    replace BK405 := bK_ BK405 hb
    replace HB := nc_ GE405 hb
    (try clear hb)
    (try clear hb2)
    (try clear hk)
    (try clear hi)
    refine hK.out _ _ ⟨bt_ BK405 0, bt_ BK405 1, bt_ BK405 2, bt_ BK405 3, bt_ BK405 4⟩ (fun hHeld => ?_)
    clear hK K
    refine no_ ?_
    refine pv_ 2 14 ?_
    refine pv_ 3 15 ?_
    refine po_ 4 16 ?_
    refine po_ 5 17 ?_
    refine po_ 6 18 ?_
    refine po_ 7 19 ?_
    refine po_ 8 20 ?_
    refine po_ 9 21 ?_
    refine pv_ 10 22 ?_
    refine done_ (done_of HT_.out (by kernel_rfl)) ?_
    try go_wp2
    go_ret
    exact ⟨er_, hs_ GE405.out⟩
   have c7b0 := eq_true (oa_ : 0 ≤ x7_1)
   replace H := ifs_ H
   obtain ⟨c8, H⟩ := H
   have c8b0 := eq_true c8
   have c8b1 := decide_eq_true c8
   clear c8
   obtain ⟨y407, hy407⟩ : ∃ y_ : List (S43), y_ = (l0.take (x7_1 : Int).toNat) := ⟨_, rfl⟩
   replace H : ((impl_follows.f y407 ((rd_T43 l0 x7_1).f0) ((rd_T43 l0 x7_1).f1) ((rd_T43 l0 x7_1).f2) ((rd_T43 l0 x7_1).f3) ((rd_T43 l0 x7_1).f4)).bind fun t411 => (if t411 = true then (impl_isLog.l0 k1 l0 l0 (l0.length : Int) (wrap64 (x7_1 + 1))) else (some false))) = some r := by first | (rw [hy407]; with_reducible exact H) | (have H2_ := (Option.bind_some _ _).symm.trans H; rw [hy407]; with_reducible exact H2_) | (have H2_ := (Option.bind_some _ _).symm.trans H; with_reducible exact H2_) | with_reducible exact H | (rw [hy407]; exact H) | exact H
   have Ny407 := Aside0.mk hy407
   clear hy407
   replace H := bnd_ H
   obtain ⟨t411, A9, H⟩ := H
   replace H := ifb_ H
   obtain ⟨rfl, H⟩ | ⟨rfl, H⟩ := H
   rotate_left
   ·obtain rfl := Option.some.inj H
    have p404 : 0 ≤ (x7_1 : Int) := oa_
    have q404 : x7_1 < (l0.length : Int) := oa_
    obtain ⟨ad404, A404_4, c404_4, e404, hx404_0, hx404_1, hx404_2, hx404_3, hx404_4, hl404_4, hi404_4⟩ := at_T43 HR0.out x7_1 p404 q404
    cases e404
    replace hx404_0 := pc_ HB.out hx404_0
    replace hx404_1 := pc_ HB.out hx404_1
    replace hx404_2 := pc_ HB.out hx404_2
    replace hx404_3 := pc_ HB.out hx404_3
    replace hx404_4 := pc_ HB.out hx404_4
    have HR404_4 := Aside0.mk hi404_4
    have HC404_4 := Aside0.mk hl404_4
    clear hi404_4 hl404_4
    replace p404 := eq_true p404
    replace q404 := eq_true q404
    try go_wp2_with (first | ((with_reducible refine gate_dst (N := 4) rfl ?_); refine bq_ (N := 4) #[.int .i64 0, .int .i64 0, .int .i64 0, .int .i64 0, .slice none 0 0] 43 ?_; intro gb405 hg w18 BK405 hb; have GE405 := ge_ hg; replace HB := nb_ hb; clear hb hg; obtain ⟨hcz19_0, hcz19_1, hcz19_2, hcz19_3, hcz19_4, hfz19_0, hfz19_1, hfz19_2, hfz19_3, hfz19_4⟩ := cf5_ BK405.out))
    have n0_ : Aside0 ((((((w18.setCell ⟨gb405, 0, none⟩ (.int .i64 ((rd_T43 l0 x7_1).f0))).setCell ⟨gb405, 1, none⟩ (.int .i64 ((rd_T43 l0 x7_1).f1))).setCell ⟨gb405, 2, none⟩ (.int .i64 ((rd_T43 l0 x7_1).f2))).setCell ⟨gb405, 3, none⟩ (.int .i64 ((rd_T43 l0 x7_1).f3))).setCell ⟨gb405, 4, none⟩ (.slice A404_4 ((rd_T43 l0 x7_1).f4).length c404_4)).heap[gb405]? = some (.cells #[.int .i64 ((rd_T43 l0 x7_1).f0), .int .i64 ((rd_T43 l0 x7_1).f1), .int .i64 ((rd_T43 l0 x7_1).f2), .int .i64 ((rd_T43 l0 x7_1).f3), .slice A404_4 ((rd_T43 l0 x7_1).f4).length c404_4] 43 (0, 0))) := ⟨up_ BK405⟩
    have n1_ : Aside0 (Below w.heap.size w (((((w18.setCell ⟨gb405, 0, none⟩ (.int .i64 ((rd_T43 l0 x7_1).f0))).setCell ⟨gb405, 1, none⟩ (.int .i64 ((rd_T43 l0 x7_1).f1))).setCell ⟨gb405, 2, none⟩ (.int .i64 ((rd_T43 l0 x7_1).f2))).setCell ⟨gb405, 3, none⟩ (.int .i64 ((rd_T43 l0 x7_1).f3))).setCell ⟨gb405, 4, none⟩ (.slice A404_4 ((rd_T43 l0 x7_1).f4).length c404_4))) := ⟨hs_ GE405.out⟩
    (try clear BK405)
    (try clear HB)
    generalize (((((w18.setCell ⟨gb405, 0, none⟩ (.int .i64 ((rd_T43 l0 x7_1).f0))).setCell ⟨gb405, 1, none⟩ (.int .i64 ((rd_T43 l0 x7_1).f1))).setCell ⟨gb405, 2, none⟩ (.int .i64 ((rd_T43 l0 x7_1).f2))).setCell ⟨gb405, 3, none⟩ (.int .i64 ((rd_T43 l0 x7_1).f3))).setCell ⟨gb405, 4, none⟩ (.slice A404_4 ((rd_T43 l0 x7_1).f4).length c404_4)) = w20 at n0_ n1_ ⊢
    have BK405 := n0_
    have HB := n1_
    clear n0_ n1_
    replace BK405 := qK_ BK405
    replace HB := qH_ HB
    refine start_ (n := 11) (S := fun w' => w'.cell? ⟨gb405, 0, none⟩ = some (.int .i64 ((rd_T43 l0 x7_1).f0)) ∧ w'.cell? ⟨gb405, 1, none⟩ = some (.int .i64 ((rd_T43 l0 x7_1).f1)) ∧ w'.cell? ⟨gb405, 2, none⟩ = some (.int .i64 ((rd_T43 l0 x7_1).f2)) ∧ w'.cell? ⟨gb405, 3, none⟩ = some (.int .i64 ((rd_T43 l0 x7_1).f3)) ∧ w'.cell? ⟨gb405, 4, none⟩ = some (.slice A404_4 ((rd_T43 l0 x7_1).f4).length c404_4)) (ds := []) (List.replicate 11 false).toArray (by kernel_rfl) rfl rfl ⟨bt_ BK405 0, bt_ BK405 1, bt_ BK405 2, bt_ BK405 3, bt_ BK405 4⟩ (fun hHeld => ?_); refine with_tabW impl_isLog.tab4 impl_isLog.bits4 (fun HT_ HW_ => ?_)
    generalize w20.drew = w21 at BK405 HB hHeld ⊢
    refine tk_ 0 12 ?_
    refine on_ 1 13 (fun K hK => ?_)
    refine gs_ Try.func83 #[.agg #[.int .i64 ((rd_T43 l0 x7_1).f0), .int .i64 ((rd_T43 l0 x7_1).f1), .int .i64 ((rd_T43 l0 x7_1).f2), .int .i64 ((rd_T43 l0 x7_1).f3), .slice A404_4 ((rd_T43 l0 x7_1).f4).length c404_4]] rfl ma_ ?_
    with_reducible refine (impl_isBatch.calls ((rd_T43 l0 x7_1).f0) ((rd_T43 l0 x7_1).f1) ((rd_T43 l0 x7_1).f2) ((rd_T43 l0 x7_1).f3) _ _ ((rd_T43 l0 x7_1).f4) true _ ?side1 ?side2 A5.out).mono ?_
    (case side1 => exact cs_ ((Kd.C_below HR404_4.out HB.out)))
    (case side2 => exact HC404_4.out)
    rintro e w22 ⟨rfl, hb⟩
    refine ⟨_, rfl, ?_⟩
    replace BK405 := bK_ BK405 hb
    replace HB := nc_ GE405 hb
    (try clear hb)
    (try clear hb2)
    (try clear hk)
    (try clear hi)
    have q23 : (x7_1 : Int) ≤ ((l0.length : Int) : Int) := oa_
    obtain ⟨i023, hi023, _, hsz23, _⟩ := info_parts info43
    have hroom23 : l0.length ≤ c0 := HC0.out
    have hC23 : Kd.C k43 _ (some ad404) l0.length l0 := HR0.out
    have hcut23 := cut_to (P := Try.prog) 48 43 .i64 Try.underlying48 hi023 (some ad404) l0.length c0 x7_1 (oa_) q23 hroom23
    have hr23 := Kd.C_take (m := (x7_1 : Int).toNat) hC23 (by omega)
    have hy23 : y407.length = (x7_1 : Int).toNat := (by rw [Ny407.out, List.length_take]; omega)
    rw [← Ny407.out] at hr23
    rw [← hy23] at hcut23
    have HR410 := Aside0.mk hr23
    have HC410 := Aside0.mk (show y407.length ≤ c0 from by omega)
    clear hr23 hC23 hroom23 hi023 hsz23
    have KY23 := Aside0.mk hy23
    clear hy23
    replace q23 := eq_true q23
    refine hK.out _ _ ⟨bt_ BK405 0, bt_ BK405 1, bt_ BK405 2, bt_ BK405 3, bt_ BK405 4⟩ (fun hHeld => ?_)
    clear hK K
    refine no_ ?_
    refine pv_ 2 14 ?_
    refine pv_ 3 15 ?_
    refine pv_ 4 16 ?_
    refine pv_ 5 17 ?_
    refine pv_ 6 18 ?_
    refine tk_ 7 19 ?_
    refine on_ 8 20 (fun K hK => ?_)
    refine gs_ Try.func118 #[.slice (some ad404) y407.length c0, .agg #[.int .i64 ((rd_T43 l0 x7_1).f0), .int .i64 ((rd_T43 l0 x7_1).f1), .int .i64 ((rd_T43 l0 x7_1).f2), .int .i64 ((rd_T43 l0 x7_1).f3), .slice A404_4 ((rd_T43 l0 x7_1).f4).length c404_4]] rfl ma_ ?_
    with_reducible refine (impl_follows.calls _ _ y407 ((rd_T43 l0 x7_1).f0) ((rd_T43 l0 x7_1).f1) ((rd_T43 l0 x7_1).f2) ((rd_T43 l0 x7_1).f3) _ _ ((rd_T43 l0 x7_1).f4) false _ ?side1 ?side2 ?side3 ?side4 A9.out).mono ?_
    (case side1 => exact cs_ ((Kd.C_below HR410.out HB.out)))
    (case side2 => exact HC410.out)
    (case side3 => exact cs_ ((Kd.C_below HR404_4.out HB.out)))
    (case side4 => exact HC404_4.out)
    rintro e w24 ⟨rfl, hb⟩
    refine ⟨_, rfl, ?_⟩
    replace BK405 := bK_ BK405 hb
    replace HB := nc_ GE405 hb
    (try clear hb)
    (try clear hb2)
    (try clear hk)
    (try clear hi)
    refine hK.out _ _ ⟨bt_ BK405 0, bt_ BK405 1, bt_ BK405 2, bt_ BK405 3, bt_ BK405 4⟩ (fun hHeld => ?_)
    clear hK K
    refine no_ ?_
    refine pv_ 9 21 ?_
    refine pv_ 10 22 ?_
    refine done_ (done_of HT_.out (by kernel_rfl)) ?_
    try go_wp2
    go_ret
    exact ⟨er_, hs_ GE405.out⟩
   have H' := Aside0.mk H
   clear H
   have p404 : 0 ≤ (x7_1 : Int) := oa_
   have q404 : x7_1 < (l0.length : Int) := oa_
   obtain ⟨ad404, A404_4, c404_4, e404, hx404_0, hx404_1, hx404_2, hx404_3, hx404_4, hl404_4, hi404_4⟩ := at_T43 HR0.out x7_1 p404 q404
   cases e404
   replace hx404_0 := pc_ HB.out hx404_0
   replace hx404_1 := pc_ HB.out hx404_1
   replace hx404_2 := pc_ HB.out hx404_2
   replace hx404_3 := pc_ HB.out hx404_3
   replace hx404_4 := pc_ HB.out hx404_4
   have HR404_4 := Aside0.mk hi404_4
   have HC404_4 := Aside0.mk hl404_4
   clear hi404_4 hl404_4
   replace p404 := eq_true p404
   replace q404 := eq_true q404
   try go_wp2_with (first | ((with_reducible refine gate_dst (N := 4) rfl ?_); refine bq_ (N := 4) #[.int .i64 0, .int .i64 0, .int .i64 0, .int .i64 0, .slice none 0 0] 43 ?_; intro gb405 hg w11 BK405 hb; have GE405 := ge_ hg; replace HB := nb_ hb; clear hb hg; obtain ⟨hcz12_0, hcz12_1, hcz12_2, hcz12_3, hcz12_4, hfz12_0, hfz12_1, hfz12_2, hfz12_3, hfz12_4⟩ := cf5_ BK405.out))
   have n0_ : Aside0 ((((((w11.setCell ⟨gb405, 0, none⟩ (.int .i64 ((rd_T43 l0 x7_1).f0))).setCell ⟨gb405, 1, none⟩ (.int .i64 ((rd_T43 l0 x7_1).f1))).setCell ⟨gb405, 2, none⟩ (.int .i64 ((rd_T43 l0 x7_1).f2))).setCell ⟨gb405, 3, none⟩ (.int .i64 ((rd_T43 l0 x7_1).f3))).setCell ⟨gb405, 4, none⟩ (.slice A404_4 ((rd_T43 l0 x7_1).f4).length c404_4)).heap[gb405]? = some (.cells #[.int .i64 ((rd_T43 l0 x7_1).f0), .int .i64 ((rd_T43 l0 x7_1).f1), .int .i64 ((rd_T43 l0 x7_1).f2), .int .i64 ((rd_T43 l0 x7_1).f3), .slice A404_4 ((rd_T43 l0 x7_1).f4).length c404_4] 43 (0, 0))) := ⟨up_ BK405⟩
   have n1_ : Aside0 (Below w.heap.size w (((((w11.setCell ⟨gb405, 0, none⟩ (.int .i64 ((rd_T43 l0 x7_1).f0))).setCell ⟨gb405, 1, none⟩ (.int .i64 ((rd_T43 l0 x7_1).f1))).setCell ⟨gb405, 2, none⟩ (.int .i64 ((rd_T43 l0 x7_1).f2))).setCell ⟨gb405, 3, none⟩ (.int .i64 ((rd_T43 l0 x7_1).f3))).setCell ⟨gb405, 4, none⟩ (.slice A404_4 ((rd_T43 l0 x7_1).f4).length c404_4))) := ⟨hs_ GE405.out⟩
   (try clear BK405)
   (try clear HB)
   generalize (((((w11.setCell ⟨gb405, 0, none⟩ (.int .i64 ((rd_T43 l0 x7_1).f0))).setCell ⟨gb405, 1, none⟩ (.int .i64 ((rd_T43 l0 x7_1).f1))).setCell ⟨gb405, 2, none⟩ (.int .i64 ((rd_T43 l0 x7_1).f2))).setCell ⟨gb405, 3, none⟩ (.int .i64 ((rd_T43 l0 x7_1).f3))).setCell ⟨gb405, 4, none⟩ (.slice A404_4 ((rd_T43 l0 x7_1).f4).length c404_4)) = w13 at n0_ n1_ ⊢
   have BK405 := n0_
   have HB := n1_
   clear n0_ n1_
   replace BK405 := qK_ BK405
   replace HB := qH_ HB
   refine start_ (n := 11) (S := fun w' => w'.cell? ⟨gb405, 0, none⟩ = some (.int .i64 ((rd_T43 l0 x7_1).f0)) ∧ w'.cell? ⟨gb405, 1, none⟩ = some (.int .i64 ((rd_T43 l0 x7_1).f1)) ∧ w'.cell? ⟨gb405, 2, none⟩ = some (.int .i64 ((rd_T43 l0 x7_1).f2)) ∧ w'.cell? ⟨gb405, 3, none⟩ = some (.int .i64 ((rd_T43 l0 x7_1).f3)) ∧ w'.cell? ⟨gb405, 4, none⟩ = some (.slice A404_4 ((rd_T43 l0 x7_1).f4).length c404_4)) (ds := []) (List.replicate 11 false).toArray (by kernel_rfl) rfl rfl ⟨bt_ BK405 0, bt_ BK405 1, bt_ BK405 2, bt_ BK405 3, bt_ BK405 4⟩ (fun hHeld => ?_); refine with_tabW impl_isLog.tab4 impl_isLog.bits4 (fun HT_ HW_ => ?_)
   generalize w13.drew = w14 at BK405 HB hHeld ⊢
   refine tk_ 0 12 ?_
   refine on_ 1 13 (fun K hK => ?_)
   refine gs_ Try.func83 #[.agg #[.int .i64 ((rd_T43 l0 x7_1).f0), .int .i64 ((rd_T43 l0 x7_1).f1), .int .i64 ((rd_T43 l0 x7_1).f2), .int .i64 ((rd_T43 l0 x7_1).f3), .slice A404_4 ((rd_T43 l0 x7_1).f4).length c404_4]] rfl ma_ ?_
   with_reducible refine (impl_isBatch.calls ((rd_T43 l0 x7_1).f0) ((rd_T43 l0 x7_1).f1) ((rd_T43 l0 x7_1).f2) ((rd_T43 l0 x7_1).f3) _ _ ((rd_T43 l0 x7_1).f4) true _ ?side1 ?side2 A5.out).mono ?_
   (case side1 => exact cs_ ((Kd.C_below HR404_4.out HB.out)))
   (case side2 => exact HC404_4.out)
   rintro e w15 ⟨rfl, hb⟩
   refine ⟨_, rfl, ?_⟩
   replace BK405 := bK_ BK405 hb
   replace HB := nc_ GE405 hb
   (try clear hb)
   (try clear hb2)
   (try clear hk)
   (try clear hi)
   have q16 : (x7_1 : Int) ≤ ((l0.length : Int) : Int) := oa_
   obtain ⟨i016, hi016, _, hsz16, _⟩ := info_parts info43
   have hroom16 : l0.length ≤ c0 := HC0.out
   have hC16 : Kd.C k43 _ (some ad404) l0.length l0 := HR0.out
   have hcut16 := cut_to (P := Try.prog) 48 43 .i64 Try.underlying48 hi016 (some ad404) l0.length c0 x7_1 (oa_) q16 hroom16
   have hr16 := Kd.C_take (m := (x7_1 : Int).toNat) hC16 (by omega)
   have hy16 : y407.length = (x7_1 : Int).toNat := (by rw [Ny407.out, List.length_take]; omega)
   rw [← Ny407.out] at hr16
   rw [← hy16] at hcut16
   have HR410 := Aside0.mk hr16
   have HC410 := Aside0.mk (show y407.length ≤ c0 from by omega)
   clear hr16 hC16 hroom16 hi016 hsz16
   have KY16 := Aside0.mk hy16
   clear hy16
   replace q16 := eq_true q16
   refine hK.out _ _ ⟨bt_ BK405 0, bt_ BK405 1, bt_ BK405 2, bt_ BK405 3, bt_ BK405 4⟩ (fun hHeld => ?_)
   clear hK K
   refine no_ ?_
   refine pv_ 2 14 ?_
   refine pv_ 3 15 ?_
   refine pv_ 4 16 ?_
   refine pv_ 5 17 ?_
   refine pv_ 6 18 ?_
   refine tk_ 7 19 ?_
   refine on_ 8 20 (fun K hK => ?_)
   refine gs_ Try.func118 #[.slice (some ad404) y407.length c0, .agg #[.int .i64 ((rd_T43 l0 x7_1).f0), .int .i64 ((rd_T43 l0 x7_1).f1), .int .i64 ((rd_T43 l0 x7_1).f2), .int .i64 ((rd_T43 l0 x7_1).f3), .slice A404_4 ((rd_T43 l0 x7_1).f4).length c404_4]] rfl ma_ ?_
   with_reducible refine (impl_follows.calls _ _ y407 ((rd_T43 l0 x7_1).f0) ((rd_T43 l0 x7_1).f1) ((rd_T43 l0 x7_1).f2) ((rd_T43 l0 x7_1).f3) _ _ ((rd_T43 l0 x7_1).f4) true _ ?side1 ?side2 ?side3 ?side4 A9.out).mono ?_
   (case side1 => exact cs_ ((Kd.C_below HR410.out HB.out)))
   (case side2 => exact HC410.out)
   (case side3 => exact cs_ ((Kd.C_below HR404_4.out HB.out)))
   (case side4 => exact HC404_4.out)
   rintro e w17 ⟨rfl, hb⟩
   refine ⟨_, rfl, ?_⟩
   replace BK405 := bK_ BK405 hb
   replace HB := nc_ GE405 hb
   (try clear hb)
   (try clear hb2)
   (try clear hk)
   (try clear hi)
   refine hK.out _ _ ⟨bt_ BK405 0, bt_ BK405 1, bt_ BK405 2, bt_ BK405 3, bt_ BK405 4⟩ (fun hHeld => ?_)
   clear hK K
   refine no_ ?_
   refine pv_ 9 21 ?_
   refine pv_ 10 22 ?_
   refine done_ (done_of HT_.out (by kernel_rfl)) ?_
   try go_wp2
   go_roundg k1
   case measure => have := HK1.out; omega
   case rel => exact ⟨(wrap64 (x7_1 + 1)), sr_, H', ⟨by have := HK1.out; omega⟩, ⟨hs_ GE405.out⟩⟩

/-! ### slices_Equal_Mark: function 103 -/
def slices_Equal_Mark.l0 : Nat → List (S89) → List (S89) → Int → Int → Option (Bool)
 | 0, _, _, _, _ => none
 | k + 1, x0, x1, x12, x13 => if x13 < x12 then (if 0 ≤ x13 then (if x13 < (x0.length : Int) then (if x13 < (x1.length : Int) then (if (!(((rd_T89 x0 x13).f0) == ((rd_T89 x1 x13).f0)) || (!(((rd_T89 x0 x13).f1) == ((rd_T89 x1 x13).f1)))) = true then (some false) else (slices_Equal_Mark.l0 k x0 x1 x12 (wrap64 (x13 + 1)))) else (none)) else (none)) else (none)) else (some true)
def slices_Equal_Mark.f (k : Nat) (l0 : List (S89)) (l1 : List (S89)) : Option (Bool) := if (l0.length : Int) = (l1.length : Int) then (slices_Equal_Mark.l0 k l0 l1 (l0.length : Int) 0) else (some false)
theorem slices_Equal_Mark.mono_l : ∀ k, (∀ y0 y1 y2 y3, LeO (slices_Equal_Mark.l0 k y0 y1 y2 y3) (slices_Equal_Mark.l0 (k + 1) y0 y1 y2 y3))
 | 0 => fun _ _ _ _ r h => by simp [slices_Equal_Mark.l0] at h
 | k + 1 => by
  have ih0 := slices_Equal_Mark.mono_l k
  ·intro y0 y1 y2 y3
   unfold slices_Equal_Mark.l0
   repeat' first
   | (with_reducible first | apply ih0 | exact LeO.refl _ | exact LeO.none _ | refine LeO.ite ?_ ?_ | refine LeO.bind ?_ (fun _ => ?_))
theorem slices_Equal_Mark.mono : ∀ a0 a1 k, LeO (slices_Equal_Mark.f k a0 a1) (slices_Equal_Mark.f (k + 1) a0 a1) := by
 intro a0 a1 k
 have ih0 := slices_Equal_Mark.mono_l k
 unfold slices_Equal_Mark.f
 repeat' first
   | (with_reducible first | apply ih0 | exact LeO.refl _ | exact LeO.none _ | refine LeO.ite ?_ ?_ | refine LeO.bind ?_ (fun _ => ?_))
set_option maxHeartbeats 8000000 in
set_option maxRecDepth 100000 in
theorem slices_Equal_Mark.calls (k : Nat) (A0 : Option Addr) (c0 : Nat) (l0 : List (S89)) (A1 : Option Addr) (c1 : Nat) (l1 : List (S89)) (r : Bool) (w : World) (hr0 : Kd.C k89 w A0 l0.length l0) (hc0 : l0.length ≤ c0) (hr1 : Kd.C k89 w A1 l1.length l1) (hc1 : l1.length ≤ c1) (h : slices_Equal_Mark.f k l0 l1 = some r) :
  Calls Try.prog 103 #[.slice A0 l0.length c0, .slice A1 l1.length c1] w fun e w' => e = .returned (.bool r) ∧ Drawn0 w w' := by
 have hu89 := Try.underlying89
 have HR0 := Aside0.mk hr0
 have HC0 := Aside0.mk hc0
 clear hr0 hc0
 have HR1 := Aside0.mk hr1
 have HC1 := Aside0.mk hc1
 clear hr1 hc1
 have H : (if (l0.length : Int) = (l1.length : Int) then (slices_Equal_Mark.l0 k l0 l1 (l0.length : Int) 0) else (some false)) = some r := h
 clear h
 replace H := ite_ H
 obtain ⟨c3, H⟩ | ⟨c3, H⟩ := H
 rotate_left
 ·have c3b0 : ((l0.length : Int) == (l1.length : Int)) = false := beq_eq_false_iff_ne.mpr c3
  have c3b1 : ((l0.length : Int) != (l1.length : Int)) = true := bne_iff_ne.mpr c3
  have c3b2 : (l0.length == l1.length) = false := by first | simpa using c3 | (simp at c3 ⊢; omega)
  obtain rfl := Option.some.inj H
  go_enter Try.func103, Try.ntmps103
  go_wp2
  repeat (go_quiet (fail); try go_wp2)
  go_ret
  exact ⟨by first | rfl | (simp; done) | (simp [*]; done), dr_⟩
 have c3b0 : ((l0.length : Int) == (l1.length : Int)) = true := beq_iff_eq.mpr c3
 have c3b1 : ((l0.length : Int) != (l1.length : Int)) = false := bne_eq_false_iff_eq.mpr c3
 have c3b2 : (l0.length == l1.length) = true := by first | simpa using c3 | (simp at c3 ⊢; omega)
 clear c3
 have H' := Aside0.mk H
 clear H
 go_enter Try.func103, Try.ntmps103
 go_wp2
 repeat (go_quiet (fail); try go_wp2)
 go_loopg [13] k (fun kq v13 w' => ∃ (x13_1 : Int), v13 = .int .i64 x13_1 ∧ Aside0 (slices_Equal_Mark.l0 kq l0 l1 (l0.length : Int) x13_1 = some r) ∧ Aside0 (kq ≤ k) ∧ Drawn0 w w')
 case atStart => exact ⟨(0), sr_, H', ⟨Nat.le_refl _⟩, dr_⟩
 case round =>
  clear H'
  try clear c1
  try clear c3
  try clear c3b0
  try clear c3b1
  try clear c3b2
  obtain ⟨x13_1, rfl, HA, HK1, ⟨m1, rfl⟩⟩ := hrel
  cases gk with
  | zero => exact absurd HA.out (by simp [slices_Equal_Mark.l0])
  | succ k1 =>
   have H := HA.out
   clear HA
   simp only [slices_Equal_Mark.l0] at H
   replace H := ite_ H
   obtain ⟨c4, H⟩ | ⟨c4, H⟩ := H
   rotate_left
   ·have c4b0 := decide_eq_false c4
    clear c4
    obtain rfl := Option.some.inj H
    go_wp2
    repeat (go_quiet (fail); try go_wp2)
    go_ret
    exact ⟨by first | rfl | (simp; done) | (simp [*]; done), dr_⟩
   have c4b0 := decide_eq_true c4
   clear c4
   replace H := ifs_ H
   obtain ⟨c5, H⟩ := H
   have c5b0 := decide_eq_true c5
   clear c5
   replace H := ifs_ H
   obtain ⟨c6, H⟩ := H
   have c6b0 := decide_eq_true c6
   clear c6
   replace H := ifs_ H
   obtain ⟨c7, H⟩ := H
   have c7b0 := decide_eq_true c7
   clear c7
   replace H := ite_ H
   obtain ⟨c8, H⟩ | ⟨c8, H⟩ := H
   ·have c8b0 : (!(((rd_T89 l0 x13_1).f0) == ((rd_T89 l1 x13_1).f0)) || (!(((rd_T89 l0 x13_1).f1) == ((rd_T89 l1 x13_1).f1)))) = true := c8
    clear c8
    obtain rfl := Option.some.inj H
    have p412 : 0 ≤ (x13_1 : Int) := oa_
    have q412 : x13_1 < (l0.length : Int) := oa_
    obtain ⟨ad412, e412, hx412_0, hx412_1⟩ := at_T89 HR0.out x13_1 p412 q412
    cases e412
    replace p412 := eq_true p412
    replace q412 := eq_true q412
    have p413 : 0 ≤ (x13_1 : Int) := oa_
    have q413 : x13_1 < (l1.length : Int) := oa_
    obtain ⟨ad413, e413, hx413_0, hx413_1⟩ := at_T89 HR1.out x13_1 p413 q413
    cases e413
    replace p413 := eq_true p413
    replace q413 := eq_true q413
    go_wp2
    repeat (go_quiet (fail); try go_wp2)
    go_ret
    exact ⟨by first | rfl | (simp; done) | (simp [*]; done), dr_⟩
   have c8b0 : (!(((rd_T89 l0 x13_1).f0) == ((rd_T89 l1 x13_1).f0)) || (!(((rd_T89 l0 x13_1).f1) == ((rd_T89 l1 x13_1).f1)))) = false := by simpa using c8
   clear c8
   have H' := Aside0.mk H
   clear H
   have p412 : 0 ≤ (x13_1 : Int) := oa_
   have q412 : x13_1 < (l0.length : Int) := oa_
   obtain ⟨ad412, e412, hx412_0, hx412_1⟩ := at_T89 HR0.out x13_1 p412 q412
   cases e412
   replace p412 := eq_true p412
   replace q412 := eq_true q412
   have p413 : 0 ≤ (x13_1 : Int) := oa_
   have q413 : x13_1 < (l1.length : Int) := oa_
   obtain ⟨ad413, e413, hx413_0, hx413_1⟩ := at_T89 HR1.out x13_1 p413 q413
   cases e413
   replace p413 := eq_true p413
   replace q413 := eq_true q413
   go_wp2
   repeat (go_quiet (fail); try go_wp2)
   go_roundg k1
   case measure => have := HK1.out; omega
   case rel => exact ⟨(wrap64 (x13_1 + 1)), sr_, H', ⟨by have := HK1.out; omega⟩, dr_⟩

/-! ### impl_isStore_1: function 102 -/
def impl_isStore_1.f (k : Nat) (a0_0 : Int) (a0_1 : ByteArray) (l0_2 : List (S89)) (a1_0 : Int) (a1_1 : ByteArray) (l1_2 : List (S89)) : Option (Bool) := if a0_0 = a1_0 then (if a0_1.toList = a1_1.toList then ((slices_Equal_Mark.f k l0_2 l1_2).bind fun t416 => (some t416)) else (some false)) else (some false)
theorem impl_isStore_1.mono : ∀ a0 a1 a2 a3 a4 a5 k, LeO (impl_isStore_1.f k a0 a1 a2 a3 a4 a5) (impl_isStore_1.f (k + 1) a0 a1 a2 a3 a4 a5) := by
 intro a0 a1 a2 a3 a4 a5 k
 unfold impl_isStore_1.f
 repeat' first
   | (with_reducible first | apply slices_Equal_Mark.mono | exact LeO.refl _ | exact LeO.none _ | refine LeO.ite ?_ ?_ | refine LeO.bind ?_ (fun _ => ?_))
set_option maxHeartbeats 8000000 in
set_option maxRecDepth 100000 in
theorem impl_isStore_1.calls (k : Nat) (a0_0 : Int) (a0_1 : ByteArray) (A0_2 : Option Addr) (c0_2 : Nat) (l0_2 : List (S89)) (a1_0 : Int) (a1_1 : ByteArray) (A1_2 : Option Addr) (c1_2 : Nat) (l1_2 : List (S89)) (r : Bool) (w : World) (hr0_2 : Kd.C k89 w A0_2 l0_2.length l0_2) (hc0_2 : l0_2.length ≤ c0_2) (hr1_2 : Kd.C k89 w A1_2 l1_2.length l1_2) (hc1_2 : l1_2.length ≤ c1_2) (h : impl_isStore_1.f k a0_0 a0_1 l0_2 a1_0 a1_1 l1_2 = some r) :
  Calls Try.prog 102 #[.agg #[.int .i64 a0_0, .string a0_1, .slice A0_2 l0_2.length c0_2], .agg #[.int .i64 a1_0, .string a1_1, .slice A1_2 l1_2.length c1_2]] w fun e w' => e = .returned (.bool r) ∧ Below w.heap.size w w' := by
 have hu65 := Try.underlying65
 have HR0_2 := Aside0.mk hr0_2
 have HC0_2 := Aside0.mk hc0_2
 clear hr0_2 hc0_2
 have HR1_2 := Aside0.mk hr1_2
 have HC1_2 := Aside0.mk hc1_2
 clear hr1_2 hc1_2
 have HB := Aside0.mk (Below.refl w.heap.size w)
 have H : (if a0_0 = a1_0 then (if a0_1.toList = a1_1.toList then ((slices_Equal_Mark.f k l0_2 l1_2).bind fun t416 => (some t416)) else (some false)) else (some false)) = some r := h
 clear h
 replace H := ite_ H
 obtain ⟨c3, H⟩ | ⟨c3, H⟩ := H
 rotate_left
 ·have c3b0 : (a0_0 == a1_0) = false := beq_eq_false_iff_ne.mpr c3
  have c3b1 : (a0_0 != a1_0) = true := bne_iff_ne.mpr c3
  obtain rfl := Option.some.inj H
  go_enter Try.func102, Try.ntmps102
  go_wp2_with (first | ((with_reducible refine gate_dst (N := 2) rfl ?_); refine bq_ (N := 2) #[.int .i64 a0_0, .string a0_1, .slice A0_2 l0_2.length c0_2] 65 ?_; intro gb414 hg w16 BK414 hb; have GE414 := ge_ hg; replace HB := nb_ hb; clear hb hg) | ((with_reducible refine gate_dst (N := 3) rfl ?_); refine bq_ (N := 3) #[.int .i64 a1_0, .string a1_1, .slice A1_2 l1_2.length c1_2] 65 ?_; intro gb415 hg w17 BK415 hb; have GE415 := ge1_ hg GE414; replace HB := nc_ GE414 hb; have NB414_415 := nl_ BK414 hg; have NB415_414 := ng_ BK414 hg; replace BK414 := bK_ BK414 hb; clear hb hg; have hnb18 := NB414_415.out; have hnc18 := NB415_414.out; obtain ⟨hcz19_0, hcz19_1, hcz19_2, hfz19_0, hfz19_1, hfz19_2⟩ := cf3_ BK414.out; obtain ⟨hcz20_0, hcz20_1, hcz20_2, hfz20_0, hfz20_1, hfz20_2⟩ := cf3_ BK415.out))
  go_ret
  exact ⟨er_, hs2_ GE414.out GE415.out⟩
 have c3b0 : (a0_0 == a1_0) = true := beq_iff_eq.mpr c3
 have c3b1 : (a0_0 != a1_0) = false := bne_eq_false_iff_eq.mpr c3
 clear c3
 replace H := ite_ H
 obtain ⟨c4, H⟩ | ⟨c4, H⟩ := H
 rotate_left
 ·have c4b0 : (a0_1.toList == a1_1.toList) = false := beq_eq_false_iff_ne.mpr c4
  have c4b1 : (a0_1.toList != a1_1.toList) = true := bne_iff_ne.mpr c4
  obtain rfl := Option.some.inj H
  go_enter Try.func102, Try.ntmps102
  go_wp2_with (first | ((with_reducible refine gate_dst (N := 2) rfl ?_); refine bq_ (N := 2) #[.int .i64 a0_0, .string a0_1, .slice A0_2 l0_2.length c0_2] 65 ?_; intro gb414 hg w11 BK414 hb; have GE414 := ge_ hg; replace HB := nb_ hb; clear hb hg) | ((with_reducible refine gate_dst (N := 3) rfl ?_); refine bq_ (N := 3) #[.int .i64 a1_0, .string a1_1, .slice A1_2 l1_2.length c1_2] 65 ?_; intro gb415 hg w12 BK415 hb; have GE415 := ge1_ hg GE414; replace HB := nc_ GE414 hb; have NB414_415 := nl_ BK414 hg; have NB415_414 := ng_ BK414 hg; replace BK414 := bK_ BK414 hb; clear hb hg; have hnb13 := NB414_415.out; have hnc13 := NB415_414.out; obtain ⟨hcz14_0, hcz14_1, hcz14_2, hfz14_0, hfz14_1, hfz14_2⟩ := cf3_ BK414.out; obtain ⟨hcz15_0, hcz15_1, hcz15_2, hfz15_0, hfz15_1, hfz15_2⟩ := cf3_ BK415.out))
  go_ret
  exact ⟨er_, hs2_ GE414.out GE415.out⟩
 have c4b0 : (a0_1.toList == a1_1.toList) = true := beq_iff_eq.mpr c4
 have c4b1 : (a0_1.toList != a1_1.toList) = false := bne_eq_false_iff_eq.mpr c4
 clear c4
 replace H := bnd_ H
 obtain ⟨t416, A5, H⟩ := H
 obtain rfl := Option.some.inj H
 go_enter Try.func102, Try.ntmps102
 go_wp2_with (first | ((with_reducible refine gate_dst (N := 2) rfl ?_); refine bq_ (N := 2) #[.int .i64 a0_0, .string a0_1, .slice A0_2 l0_2.length c0_2] 65 ?_; intro gb414 hg w6 BK414 hb; have GE414 := ge_ hg; replace HB := nb_ hb; clear hb hg) | ((with_reducible refine gate_dst (N := 3) rfl ?_); refine bq_ (N := 3) #[.int .i64 a1_0, .string a1_1, .slice A1_2 l1_2.length c1_2] 65 ?_; intro gb415 hg w7 BK415 hb; have GE415 := ge1_ hg GE414; replace HB := nc_ GE414 hb; have NB414_415 := nl_ BK414 hg; have NB415_414 := ng_ BK414 hg; replace BK414 := bK_ BK414 hb; clear hb hg; have hnb8 := NB414_415.out; have hnc8 := NB415_414.out; obtain ⟨hcz9_0, hcz9_1, hcz9_2, hfz9_0, hfz9_1, hfz9_2⟩ := cf3_ BK414.out; obtain ⟨hcz10_0, hcz10_1, hcz10_2, hfz10_0, hfz10_1, hfz10_2⟩ := cf3_ BK415.out) | (go_at_call 103; (with_reducible refine (slices_Equal_Mark.calls k _ _ l0_2 _ _ l1_2 t416 _ ?side1 ?side2 ?side3 ?side4 A5.out).mono ?_); (case side1 => exact cs_ ((Kd.C_below HR0_2.out HB.out))); (case side2 => exact HC0_2.out); (case side3 => exact cs_ ((Kd.C_below HR1_2.out HB.out))); (case side4 => exact HC1_2.out); rintro e w' ⟨rfl, ⟨nd, rfl⟩⟩))
 go_ret
 exact ⟨er_, hs2_ GE414.out GE415.out⟩
/-! ### slices_EqualFunc_Segment: function 101 -/
def slices_EqualFunc_Segment.l0 : Nat → List S65 → List S65 → Nat → Option Bool
 | 0, _, _, _ => none
 | k + 1, x, y, i => if i < x.length then (impl_isStore_1.f k (x.getD i z65).f0 (x.getD i z65).f1 (x.getD i z65).f2 (y.getD i z65).f0 (y.getD i z65).f1 (y.getD i z65).f2).bind fun t => if t = true then slices_EqualFunc_Segment.l0 k x y (i + 1) else some false else some true
def slices_EqualFunc_Segment.f (k : Nat) (l0 : List S65) (l1 : List S65) : Option Bool := if l0.length = l1.length then slices_EqualFunc_Segment.l0 k l0 l1 0 else some false
theorem slices_EqualFunc_Segment.mono_l : ∀ k x y i, LeO (slices_EqualFunc_Segment.l0 k x y i) (slices_EqualFunc_Segment.l0 (k + 1) x y i)
 | 0, _, _, _ => fun r h => by simp [slices_EqualFunc_Segment.l0] at h
 | k + 1, x, y, i => by
  rw [slices_EqualFunc_Segment.l0, slices_EqualFunc_Segment.l0]
  exact LeO.ite (LeO.bind (impl_isStore_1.mono _ _ _ _ _ _ _) (fun _ => LeO.ite (slices_EqualFunc_Segment.mono_l k _ _ _) (LeO.refl _))) (LeO.refl _)
theorem slices_EqualFunc_Segment.mono : ∀ a0 a1 k, LeO (slices_EqualFunc_Segment.f k a0 a1) (slices_EqualFunc_Segment.f (k + 1) a0 a1) := fun a0 a1 k => LeO.ite (slices_EqualFunc_Segment.mono_l k a0 a1 0) (LeO.refl _)
set_option maxHeartbeats 8000000 in
set_option maxRecDepth 100000 in
theorem slices_EqualFunc_Segment.calls (k : Nat) (A0 : Option Addr) (c0 : Nat) (l0 : List S65) (A1 : Option Addr) (c1 : Nat) (l1 : List S65) (r : Bool) (w : World) (hr0 : Kd.C k65 w A0 l0.length l0) (hc0 : l0.length ≤ c0) (hr1 : Kd.C k65 w A1 l1.length l1) (hc1 : l1.length ≤ c1) (h : slices_EqualFunc_Segment.f k l0 l1 = some r) :
  Calls Try.prog 101 #[.slice A0 l0.length c0, .slice A1 l1.length c1, .func (.func 102) #[] #[]] w fun e w' => e = .returned (.bool r) ∧ Below w.heap.size w w' := by
 have hbig0 : l0.length ≤ 9223372036854775807 := hr0.2.1
 have hu_ := Try.underlying65
 have HR0 := Aside0.mk hr0
 have HR1 := Aside0.mk hr1
 clear hr0 hc0 hr1 hc1
 unfold slices_EqualFunc_Segment.f at h
 by_cases hl : l0.length = l1.length
 ·rw [if_pos hl] at h
  have hl1 : (((l0.length : Int) != (l1.length : Int)) = false) := bne_eq_false_iff_eq.mpr (by omega)
  have hl2 : ((l0.length != l1.length) = false) := bne_eq_false_iff_eq.mpr hl
  have H := Aside0.mk h
  have HL := Aside0.mk hl
  obtain ⟨g, hg⟩ : ∃ g : Nat, g = 102 := ⟨_, rfl⟩
  have eg : ∀ args w, (callFunc g args).run Try.prog w = .ok (.enter g args) w := by rw [hg]; exact fun args w => by first | rfl | kernel_rfl
  rw [show (Value.func (.func 102) #[] #[]) = Value.func (.func g) #[] #[] by rw [hg]]
  have HGG := Aside0.mk hg
  clear h hg hl
  go_enter Try.func101, Try.ntmps101
  go_wp2
  go_loopg [7, 8, 9, 17] k (fun kq s7 _ _ s17 wr => ∃ i : Nat, s17 = .int .i64 i ∧ i ≤ l0.length ∧ Aside0 (slices_EqualFunc_Segment.l0 kq l0 l1 i = some r) ∧ Aside0 (kq ≤ k) ∧ Aside0 (Below w.heap.size w wr))
  case atStart => exact ⟨0, rfl, Nat.zero_le _, H, ⟨Nat.le_refl _⟩, ⟨Below.refl _ _⟩⟩
  case round =>
   clear H
   obtain ⟨i, rfl, hi, HA, HK, HB⟩ := hrel
   cases gk with
   | zero => exact absurd HA.out (by simp [slices_EqualFunc_Segment.l0])
   | succ k1 =>
    have hA := HA.out
    clear HA
    rw [slices_EqualFunc_Segment.l0] at hA
    by_cases hlt : i < l0.length
    ·have hltz : (i : Int) < (l0.length : Int) := by omega
     have hltz1 : (i : Int) < (l1.length : Int) := by have := HL.out; omega
     rw [if_pos hlt] at hA
     obtain ⟨t, h1, h2⟩ := Option.bind_eq_some_iff.1 hA
     have H1 := Aside0.mk h1
     clear hA h1
     obtain ⟨ada, Aa2, Aac2, rfl, hca0, hca1, hca2, hla2, hra2⟩ := at_T65 (Kd.C_below HR0.out HB.out) (i : Int) (by omega) hltz
     obtain ⟨adb, Ab2, Abc2, rfl, hcb0, hcb1, hcb2, hlb2, hrb2⟩ := at_T65 (Kd.C_below HR1.out HB.out) (i : Int) (by omega) hltz1
     have e0 : rd_T65 l0 (i : Int) = l0.getD i z65 := rfl
     have e1 : rd_T65 l1 (i : Int) = l1.getD i z65 := rfl
     rw [e0] at hca0 hca1 hca2 hla2 hra2
     rw [e1] at hcb0 hcb1 hcb2 hlb2 hrb2
     generalize l0.getD i z65 = a at hca0 hca1 hca2 hla2 hra2 H1
     generalize l1.getD i z65 = b at hcb0 hcb1 hcb2 hlb2 hrb2 H1
     clear e0 e1
     rw [Int.toNat_natCast] at hca0 hca1 hca2 hcb0 hcb1 hcb2
     have CR0 := Aside0.mk hra2
     have CL0 := Aside0.mk hla2
     clear hra2 hla2
     have CR1 := Aside0.mk hrb2
     have CL1 := Aside0.mk hlb2
     clear hrb2 hlb2
     have HC : ∀ W, Below wr.heap.size wr W → Calls Try.prog g (#[.agg #[.int .i64 a.f0, .string a.f1, .slice Aa2 a.f2.length Aac2], .agg #[.int .i64 b.f0, .string b.f1, .slice Ab2 b.f2.length Abc2]] ++ #[]) W fun e w' => e = .returned (.bool t) ∧ Below W.heap.size W w' := fun W hW => by
      rw [HGG.out]
      exact impl_isStore_1.calls k1 a.f0 a.f1 Aa2 Aac2 a.f2 b.f0 b.f1 Ab2 Abc2 b.f2 t _ (Kd.C_below CR0.out hW) CL0.out (Kd.C_below CR1.out hW) CL1.out H1.out
     have HCC := Aside0.mk HC
     have ha0_ := fun (o_ : Obj) => pw_cell_below (below_alloc (Below.refl wr.heap.size wr) o_) hcb0
     have ha1_ := fun (o_ : Obj) => pw_cell_below (below_alloc (Below.refl wr.heap.size wr) o_) hcb1
     have ha2_ := fun (o_ : Obj) => pw_cell_below (below_alloc (Below.refl wr.heap.size wr) o_) hcb2
     clear HC
     go_wp2_with fail
     refine (HCC.out _ (by repeat (first | exact Below.refl _ _ | apply below_alloc))).mono ?_
     rintro e w2 ⟨rfl, hb2⟩
     have HB2 := Aside0.mk (show Below w.heap.size w w2 from below_step (by repeat (first | exact HB.out | apply below_alloc)) hb2)
     clear hb2
     cases t with
     | true =>
      rw [if_pos rfl] at h2
      have H2 := Aside0.mk h2
      clear h2
      go_wp2_with fail
      go_roundg k1
      case measure => have := HK.out; omega
      case rel => exact ⟨i + 1, by go_num, by omega, H2, ⟨by have := HK.out; omega⟩, HB2⟩
     | false =>
      rw [if_neg (by decide)] at h2
      obtain rfl : false = r := Option.some.inj h2
      clear h2
      go_wp2_with fail
      go_ret
      exact ⟨rfl, HB2.out⟩
    ·have hltz : ¬ (i : Int) < (l0.length : Int) := by omega
     have hil : i = l0.length := by omega
     subst hil
     rw [if_neg (by omega)] at hA
     obtain rfl : true = r := Option.some.inj hA
     clear hA
     go_wp2
     go_ret
     exact ⟨rfl, HB.out⟩
 ·rw [if_neg hl] at h
  obtain rfl : false = r := Option.some.inj h
  have hl1 : (((l0.length : Int) != (l1.length : Int)) = true) := bne_iff_ne.mpr (by omega)
  have hl2 : ((l0.length != l1.length) = true) := bne_iff_ne.mpr hl
  clear h
  go_enter Try.func101, Try.ntmps101
  go_wp2_with fail
  go_ret
  exact ⟨rfl, Below.refl _ _⟩
end Go.Proofs.Ytffpeklekkpbjaa.QFnExactTruncateTo
