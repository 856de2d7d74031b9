/- Functions that one statement reaches: of each a plain function, and the proof that calls come to it. Conditions: those that each contract names. Written by a program of this repository. -/
import Derived.Test.YtojdaolclcmalaaVRecordsOfa
import Derived.Test.YtojdaolclcmalaaQFnExactRecordsOfx0
import Derived.Test.YtojdaolclcmalaaQFnExactRecordsOfx14
namespace Go.Proofs.Ytojdaolclcmalaa.QFnExactRecordsOf
open Go.RowKit Go.Proofs.YtojdaolclcmalaaW.PrintWords Go.Proofs.YtojdaolclcmalaaW.PrintLast Go.Proofs.YtojdaolclcmalaaW.PrintMore
attribute [local go_sem] max2_int min2_int max_two min_two max_three min_three max_four min_four Go.Proofs.YtojdaolclcmalaaW.PrintMore2.isSome_setCell   -- for this text's walks alone
set_option linter.unusedVariables false
set_option linter.unusedSimpArgs false

/-! ### laws_eqDoneS: function 94 -/
def laws_eqDoneS.l0 : Nat → List (S112) → List (S112) → Int → Option (Bool)
 | 0, _, _, _ => none
 | k + 1, x0, x1, x5 => if x5 < (x0.length : Int) then (if 0 ≤ x5 then (if x5 < (x1.length : Int) then ((laws_eqDone.f ((rd_T112 x0 x5).f0) ((rd_T112 x0 x5).f1) ((rd_T112 x0 x5).f2) ((rd_T112 x1 x5).f0) ((rd_T112 x1 x5).f1) ((rd_T112 x1 x5).f2)).bind fun t302 => (if t302 = true then (laws_eqDoneS.l0 k x0 x1 (wrap64 (x5 + 1))) else (some false))) else (none)) else (none)) else (some true)
def laws_eqDoneS.f (k : Nat) (l0 : List (S112)) (l1 : List (S112)) : Option (Bool) := if (l0.length : Int) = (l1.length : Int) then (laws_eqDoneS.l0 k l0 l1 0) else (some false)
theorem laws_eqDoneS.mono_l : ∀ k, (∀ y0 y1 y2, LeO (laws_eqDoneS.l0 k y0 y1 y2) (laws_eqDoneS.l0 (k + 1) y0 y1 y2))
 | 0 => fun _ _ _ r h => by simp [laws_eqDoneS.l0] at h
 | k + 1 => by
  have ih0 := laws_eqDoneS.mono_l k
  ·intro y0 y1 y2
   unfold laws_eqDoneS.l0
   repeat' first
   | (with_reducible first | apply ih0 | exact LeO.refl _ | exact LeO.none _ | refine LeO.ite ?_ ?_ | refine LeO.bind ?_ (fun _ => ?_))
theorem laws_eqDoneS.mono : ∀ a0 a1 k, LeO (laws_eqDoneS.f k a0 a1) (laws_eqDoneS.f (k + 1) a0 a1) := by
 intro a0 a1 k
 have ih0 := laws_eqDoneS.mono_l k
 unfold laws_eqDoneS.f
 repeat' first
   | (with_reducible first | apply ih0 | exact LeO.refl _ | exact LeO.none _ | refine LeO.ite ?_ ?_ | refine LeO.bind ?_ (fun _ => ?_))
def laws_eqDoneS.T6 : Bool × List (List Nat × List Nat) := (true, [([], []), ([], []), ([0, 1], [0, 1]), ([2], [2]), ([], []), ([], []), ([4, 5], [4, 5]), ([6], [6]), ([3, 7], [3, 7]), ([8], [8])])
def laws_eqDoneS.B6 : List Nat := [0, 0, 3, 7, 0, 0, 48, 112, 255, 511]
theorem laws_eqDoneS.tab6 : rtab .any (opsOf Try.f94 6) = laws_eqDoneS.T6 := by kernel_rfl
theorem laws_eqDoneS.bits6 : waitsOk laws_eqDoneS.T6.2 laws_eqDoneS.B6 = true := by kernel_rfl
set_option maxHeartbeats 8000000 in
set_option maxRecDepth 100000 in
theorem laws_eqDoneS.calls (k : Nat) (A0 : Option Addr) (c0 : Nat) (l0 : List (S112)) (A1 : Option Addr) (c1 : Nat) (l1 : List (S112)) (r : Bool) (w : World) (hr0 : Kd.C k112 w A0 l0.length l0) (hc0 : l0.length ≤ c0) (hr1 : Kd.C k112 w A1 l1.length l1) (hc1 : l1.length ≤ c1) (h : laws_eqDoneS.f k l0 l1 = some r) :
  Calls Try.prog 94 #[.slice A0 l0.length c0, .slice A1 l1.length c1] w fun e w' => e = .returned (.bool r) ∧ Below w.heap.size w w' := by
 have hu112 := Try.underlying112
 have HR0 := am_ hr0
 have HC0 := am_ hc0
 clear hr0 hc0
 have HR1 := am_ hr1
 have HC1 := am_ hc1
 clear hr1 hc1
 have HB := am_ (Below.refl w.heap.size w)
 have H : (if (l0.length : Int) = (l1.length : Int) then (laws_eqDoneS.l0 k l0 l1 0) else (some false)) = some r := h
 clear h
 replace H := ite_ H
 obtain ⟨c3, H⟩ | ⟨c3, H⟩ := H
 rotate_left
 ·have c3b0 : ((l0.length : Int) == (l1.length : Int)) = false := beq_eq_false_iff_ne.mpr c3
  have c3b1 : ((l0.length : Int) != (l1.length : Int)) = true := bne_iff_ne.mpr c3
  have c3b2 : (l0.length == l1.length) = false := by first | simpa using c3 | (simp at c3 ⊢; omega)
  obtain rfl := Option.some.inj H
  go_enter Try.func94, Try.ntmps94
  go_wp2
  go_ret
  exact ⟨er_, hb_⟩
 have c3b0 : ((l0.length : Int) == (l1.length : Int)) = true := beq_iff_eq.mpr c3
 have c3b1 : ((l0.length : Int) != (l1.length : Int)) = false := bne_eq_false_iff_eq.mpr c3
 have c3b2 : (l0.length == l1.length) = true := by first | simpa using c3 | (simp at c3 ⊢; omega)
 clear c3
 have H' := am_ H
 clear H
 go_enter Try.func94, Try.ntmps94
 go_wp2
 go_loopg [5] k (fun kq v5 w' => ∃ (x5_1 : Int), v5 = .int .i64 x5_1 ∧ Aside0 (laws_eqDoneS.l0 kq l0 l1 x5_1 = some r) ∧ Aside0 (kq ≤ k) ∧ Aside0 (Below w.heap.size w w'))
 case atStart => exact ⟨(0), sr_, H', ⟨Nat.le_refl _⟩, ⟨hb_⟩⟩
 case round =>
  clear H'
  try clear c1
  try clear c3
  try clear c3b0
  try clear c3b1
  try clear c3b2
  obtain ⟨x5_1, rfl, HA, HK1, HB⟩ := hrel
  cases gk with
  | zero => exact absurd HA.out (by simp [laws_eqDoneS.l0])
  | succ k1 =>
   have H := HA.out
   clear HA
   simp only [laws_eqDoneS.l0] at H
   replace H := ite_ H
   obtain ⟨c4, H⟩ | ⟨c4, H⟩ := H
   rotate_left
   ·have c4b0 := decide_eq_false c4
    clear c4
    obtain rfl := Option.some.inj H
    go_wp2
    go_ret
    exact ⟨er_, hb_⟩
   have c4b0 := decide_eq_true c4
   clear c4
   replace H := ifs_ H
   obtain ⟨c5, H⟩ := H
   have c5b0 := decide_eq_true c5
   clear c5
   replace H := ifs_ H
   obtain ⟨c6, H⟩ := H
   have c6b0 := decide_eq_true c6
   clear c6
   replace H := bnd_ H
   obtain ⟨t302, A7, H⟩ := H
   replace H := ifb_ H
   obtain ⟨rfl, H⟩ | ⟨rfl, H⟩ := H
   rotate_left
   ·obtain rfl := Option.some.inj H
    try go_wp2
    replace HB := qH_ HB
    have p300 : 0 ≤ (x5_1 : Int) := oa_
    have q300 : x5_1 < (l0.length : Int) := oa_
    obtain ⟨ad300, e300, hx300_0, hx300_1, hx300_2⟩ := at_T112 HR0.out x5_1 p300 q300
    have hw300_2 := hx300_2
    have hw300_1 := hx300_1
    have hw300_0 := hx300_0
    cases e300
    replace hx300_0 := pc_ HB.out hx300_0
    replace hx300_1 := pc_ HB.out hx300_1
    replace hx300_2 := pc_ HB.out hx300_2
    replace p300 := eq_true p300
    replace q300 := eq_true q300
    have p301 : 0 ≤ (x5_1 : Int) := oa_
    have q301 : x5_1 < (l1.length : Int) := oa_
    obtain ⟨ad301, e301, hx301_0, hx301_1, hx301_2⟩ := at_T112 HR1.out x5_1 p301 q301
    have hw301_2 := hx301_2
    have hw301_1 := hx301_1
    have hw301_0 := hx301_0
    cases e301
    replace hx301_0 := pc_ HB.out hx301_0
    replace hx301_1 := pc_ HB.out hx301_1
    replace hx301_2 := pc_ HB.out hx301_2
    replace p301 := eq_true p301
    replace q301 := eq_true q301
    refine start_ (n := 10) (S := fun w' => w'.cell? (ad300.add ((x5_1).toNat * 3)) = some (.int .i64 ((rd_T112 l0 x5_1).f0)) ∧ w'.cell? ⟨(ad300.add ((x5_1).toNat * 3)).block, (ad300.add ((x5_1).toNat * 3)).off + 1, none⟩ = some (.int .i64 ((rd_T112 l0 x5_1).f1)) ∧ w'.cell? ⟨(ad300.add ((x5_1).toNat * 3)).block, (ad300.add ((x5_1).toNat * 3)).off + 2, none⟩ = some (.int .i64 ((rd_T112 l0 x5_1).f2)) ∧ w'.cell? (ad301.add ((x5_1).toNat * 3)) = some (.int .i64 ((rd_T112 l1 x5_1).f0)) ∧ w'.cell? ⟨(ad301.add ((x5_1).toNat * 3)).block, (ad301.add ((x5_1).toNat * 3)).off + 1, none⟩ = some (.int .i64 ((rd_T112 l1 x5_1).f1)) ∧ w'.cell? ⟨(ad301.add ((x5_1).toNat * 3)).block, (ad301.add ((x5_1).toNat * 3)).off + 2, none⟩ = some (.int .i64 ((rd_T112 l1 x5_1).f2))) (ds := []) (List.replicate 10 false).toArray (by kernel_rfl) rfl rfl ⟨(pc_ HB.out hw300_0), (pc_ HB.out hw300_1), (pc_ HB.out hw300_2), (pc_ HB.out hw301_0), (pc_ HB.out hw301_1), (pc_ HB.out hw301_2)⟩ (fun hHeld => ?_); refine with_tabW laws_eqDoneS.tab6 laws_eqDoneS.bits6 (fun HT_ HW_ => ?_)
    generalize wr.drew = w11 at HB hx300_0 hx300_1 hx300_2 hx301_0 hx301_1 hx301_2 hHeld ⊢
    refine pv_ 0 17 ?_
    refine pv_ 1 18 ?_
    refine pv_ 2 19 ?_
    refine pv_ 4 21 ?_
    refine pv_ 5 22 ?_
    refine pv_ 6 23 ?_
    refine tk_ 3 20 ?_
    refine tk_ 7 24 ?_
    refine on_ 8 25 (fun K hK => ?_)
    refine gs_ Try.func99 #[.agg #[.int .i64 ((rd_T112 l0 x5_1).f0), .int .i64 ((rd_T112 l0 x5_1).f1), .int .i64 ((rd_T112 l0 x5_1).f2)], .agg #[.int .i64 ((rd_T112 l1 x5_1).f0), .int .i64 ((rd_T112 l1 x5_1).f1), .int .i64 ((rd_T112 l1 x5_1).f2)]] rfl ma_ ?_
    with_reducible refine (laws_eqDone.calls ((rd_T112 l0 x5_1).f0) ((rd_T112 l0 x5_1).f1) ((rd_T112 l0 x5_1).f2) ((rd_T112 l1 x5_1).f0) ((rd_T112 l1 x5_1).f1) ((rd_T112 l1 x5_1).f2) false _ A7.out).mono ?_
    rintro e w12 ⟨rfl, hb⟩
    refine ⟨_, rfl, ?_⟩
    replace HB := nb_ hb
    (try clear hb)
    (try clear hb2)
    (try clear hk)
    (try clear hi)
    refine hK.out _ _ ⟨(pc_ HB.out hw300_0), (pc_ HB.out hw300_1), (pc_ HB.out hw300_2), (pc_ HB.out hw301_0), (pc_ HB.out hw301_1), (pc_ HB.out hw301_2)⟩ (fun hHeld => ?_)
    clear hK K
    refine no_ ?_
    refine pv_ 9 26 ?_
    refine done_ (done_of HT_.out (by kernel_rfl)) ?_
    try go_wp2
    go_ret
    exact ⟨er_, hb_⟩
   have H' := am_ H
   clear H
   try go_wp2
   replace HB := qH_ HB
   have p300 : 0 ≤ (x5_1 : Int) := oa_
   have q300 : x5_1 < (l0.length : Int) := oa_
   obtain ⟨ad300, e300, hx300_0, hx300_1, hx300_2⟩ := at_T112 HR0.out x5_1 p300 q300
   have hw300_2 := hx300_2
   have hw300_1 := hx300_1
   have hw300_0 := hx300_0
   cases e300
   replace hx300_0 := pc_ HB.out hx300_0
   replace hx300_1 := pc_ HB.out hx300_1
   replace hx300_2 := pc_ HB.out hx300_2
   replace p300 := eq_true p300
   replace q300 := eq_true q300
   have p301 : 0 ≤ (x5_1 : Int) := oa_
   have q301 : x5_1 < (l1.length : Int) := oa_
   obtain ⟨ad301, e301, hx301_0, hx301_1, hx301_2⟩ := at_T112 HR1.out x5_1 p301 q301
   have hw301_2 := hx301_2
   have hw301_1 := hx301_1
   have hw301_0 := hx301_0
   cases e301
   replace hx301_0 := pc_ HB.out hx301_0
   replace hx301_1 := pc_ HB.out hx301_1
   replace hx301_2 := pc_ HB.out hx301_2
   replace p301 := eq_true p301
   replace q301 := eq_true q301
   refine start_ (n := 10) (S := fun w' => w'.cell? (ad300.add ((x5_1).toNat * 3)) = some (.int .i64 ((rd_T112 l0 x5_1).f0)) ∧ w'.cell? ⟨(ad300.add ((x5_1).toNat * 3)).block, (ad300.add ((x5_1).toNat * 3)).off + 1, none⟩ = some (.int .i64 ((rd_T112 l0 x5_1).f1)) ∧ w'.cell? ⟨(ad300.add ((x5_1).toNat * 3)).block, (ad300.add ((x5_1).toNat * 3)).off + 2, none⟩ = some (.int .i64 ((rd_T112 l0 x5_1).f2)) ∧ w'.cell? (ad301.add ((x5_1).toNat * 3)) = some (.int .i64 ((rd_T112 l1 x5_1).f0)) ∧ w'.cell? ⟨(ad301.add ((x5_1).toNat * 3)).block, (ad301.add ((x5_1).toNat * 3)).off + 1, none⟩ = some (.int .i64 ((rd_T112 l1 x5_1).f1)) ∧ w'.cell? ⟨(ad301.add ((x5_1).toNat * 3)).block, (ad301.add ((x5_1).toNat * 3)).off + 2, none⟩ = some (.int .i64 ((rd_T112 l1 x5_1).f2))) (ds := []) (List.replicate 10 false).toArray (by kernel_rfl) rfl rfl ⟨(pc_ HB.out hw300_0), (pc_ HB.out hw300_1), (pc_ HB.out hw300_2), (pc_ HB.out hw301_0), (pc_ HB.out hw301_1), (pc_ HB.out hw301_2)⟩ (fun hHeld => ?_); refine with_tabW laws_eqDoneS.tab6 laws_eqDoneS.bits6 (fun HT_ HW_ => ?_)
   generalize wr.drew = w9 at HB hx300_0 hx300_1 hx300_2 hx301_0 hx301_1 hx301_2 hHeld ⊢
   refine pv_ 0 17 ?_
   refine pv_ 1 18 ?_
   refine pv_ 2 19 ?_
   refine pv_ 4 21 ?_
   refine pv_ 5 22 ?_
   refine pv_ 6 23 ?_
   refine tk_ 3 20 ?_
   refine tk_ 7 24 ?_
   refine on_ 8 25 (fun K hK => ?_)
   refine gs_ Try.func99 #[.agg #[.int .i64 ((rd_T112 l0 x5_1).f0), .int .i64 ((rd_T112 l0 x5_1).f1), .int .i64 ((rd_T112 l0 x5_1).f2)], .agg #[.int .i64 ((rd_T112 l1 x5_1).f0), .int .i64 ((rd_T112 l1 x5_1).f1), .int .i64 ((rd_T112 l1 x5_1).f2)]] rfl ma_ ?_
   with_reducible refine (laws_eqDone.calls ((rd_T112 l0 x5_1).f0) ((rd_T112 l0 x5_1).f1) ((rd_T112 l0 x5_1).f2) ((rd_T112 l1 x5_1).f0) ((rd_T112 l1 x5_1).f1) ((rd_T112 l1 x5_1).f2) true _ A7.out).mono ?_
   rintro e w10 ⟨rfl, hb⟩
   refine ⟨_, rfl, ?_⟩
   replace HB := nb_ hb
   (try clear hb)
   (try clear hb2)
   (try clear hk)
   (try clear hi)
   refine hK.out _ _ ⟨(pc_ HB.out hw300_0), (pc_ HB.out hw300_1), (pc_ HB.out hw300_2), (pc_ HB.out hw301_0), (pc_ HB.out hw301_1), (pc_ HB.out hw301_2)⟩ (fun hHeld => ?_)
   clear hK K
   refine no_ ?_
   refine pv_ 9 26 ?_
   refine done_ (done_of HT_.out (by kernel_rfl)) ?_
   try go_wp2
   go_roundg k1
   case measure => have := HK1.out; omega
   case rel => exact ⟨(wrap64 (x5_1 + 1)), sr_, H', ⟨by have := HK1.out; omega⟩, ⟨hb_⟩⟩

/-! ### laws_eqProducer: function 80 -/
def laws_eqProducer.f (k : Nat) (a0_0 : Int) (a0_1 : Int) (a0_2 : Int) (l0_3 : List (S112)) (a1_0 : Int) (a1_1 : Int) (a1_2 : Int) (l1_3 : List (S112)) : Option (Bool) := if a0_0 = a1_0 then (if a0_1 = a1_1 then (if a0_2 = a1_2 then ((laws_eqDoneS.f k l0_3 l1_3).bind fun t305 => (if t305 = true then (some true) else (some false))) else (some false)) else (some false)) else (some false)
theorem laws_eqProducer.mono : ∀ a0 a1 a2 a3 a4 a5 a6 a7 k, LeO (laws_eqProducer.f k a0 a1 a2 a3 a4 a5 a6 a7) (laws_eqProducer.f (k + 1) a0 a1 a2 a3 a4 a5 a6 a7) := by
 intro a0 a1 a2 a3 a4 a5 a6 a7 k
 unfold laws_eqProducer.f
 repeat' first
   | (with_reducible first | apply laws_eqDoneS.mono | exact LeO.refl _ | exact LeO.none _ | refine LeO.ite ?_ ?_ | refine LeO.bind ?_ (fun _ => ?_))
set_option maxHeartbeats 8000000 in
set_option maxRecDepth 100000 in
theorem laws_eqProducer.calls (k : Nat) (a0_0 : Int) (a0_1 : Int) (a0_2 : Int) (A0_3 : Option Addr) (c0_3 : Nat) (l0_3 : List (S112)) (a1_0 : Int) (a1_1 : Int) (a1_2 : Int) (A1_3 : Option Addr) (c1_3 : Nat) (l1_3 : List (S112)) (r : Bool) (w : World) (hr0_3 : Kd.C k112 w A0_3 l0_3.length l0_3) (hc0_3 : l0_3.length ≤ c0_3) (hr1_3 : Kd.C k112 w A1_3 l1_3.length l1_3) (hc1_3 : l1_3.length ≤ c1_3) (h : laws_eqProducer.f k a0_0 a0_1 a0_2 l0_3 a1_0 a1_1 a1_2 l1_3 = some r) :
  Calls Try.prog 80 #[.agg #[.int .i64 a0_0, .int .i64 a0_1, .int .i64 a0_2, .slice A0_3 l0_3.length c0_3], .agg #[.int .i64 a1_0, .int .i64 a1_1, .int .i64 a1_2, .slice A1_3 l1_3.length c1_3]] w fun e w' => e = .returned (.bool r) ∧ Below w.heap.size w w' := by
 have hu81 := Try.underlying81
 have HR0_3 := am_ hr0_3
 have HC0_3 := am_ hc0_3
 clear hr0_3 hc0_3
 have HR1_3 := am_ hr1_3
 have HC1_3 := am_ hc1_3
 clear hr1_3 hc1_3
 have HB := am_ (Below.refl w.heap.size w)
 have H : (if a0_0 = a1_0 then (if a0_1 = a1_1 then (if a0_2 = a1_2 then ((laws_eqDoneS.f k l0_3 l1_3).bind fun t305 => (if t305 = true then (some true) else (some false))) else (some false)) else (some false)) else (some false)) = some r := h
 clear h
 replace H := ite_ H
 obtain ⟨c3, H⟩ | ⟨c3, H⟩ := H
 rotate_left
 ·have c3b0 : (a0_0 == a1_0) = false := beq_eq_false_iff_ne.mpr c3
  have c3b1 : (a0_0 != a1_0) = true := bne_iff_ne.mpr c3
  obtain rfl := Option.some.inj H
  go_enter Try.func80, Try.ntmps80
  go_wp2_with (first | ((with_reducible refine gate_dst (N := 2) rfl ?_); refine bq_ (N := 2) #[.int .i64 a0_0, .int .i64 a0_1, .int .i64 a0_2, .slice A0_3 l0_3.length c0_3] 81 ?_; intro gb303 hg w30 BK303 hb; have GE303 := ge_ hg; replace HB := nb_ hb; clear hb hg) | ((with_reducible refine gate_dst (N := 3) rfl ?_); refine bq_ (N := 3) #[.int .i64 a1_0, .int .i64 a1_1, .int .i64 a1_2, .slice A1_3 l1_3.length c1_3] 81 ?_; intro gb304 hg w31 BK304 hb; have GE304 := ge1_ hg GE303; replace HB := nc_ GE303 hb; have NB303_304 := nl_ BK303 hg; have NB304_303 := ng_ BK303 hg; replace BK303 := bK_ BK303 hb; clear hb hg; have hnb32 := NB303_304.out; have hnc32 := NB304_303.out; obtain ⟨hcz33_0, hcz33_1, hcz33_2, hcz33_3, hfz33_0, hfz33_1, hfz33_2, hfz33_3⟩ := cf4_ BK303.out; obtain ⟨hcz34_0, hcz34_1, hcz34_2, hcz34_3, hfz34_0, hfz34_1, hfz34_2, hfz34_3⟩ := cf4_ BK304.out))
  go_ret
  exact ⟨er_, hs2_ GE303.out GE304.out⟩
 have c3b0 : (a0_0 == a1_0) = true := beq_iff_eq.mpr c3
 have c3b1 : (a0_0 != a1_0) = false := bne_eq_false_iff_eq.mpr c3
 clear c3
 replace H := ite_ H
 obtain ⟨c4, H⟩ | ⟨c4, H⟩ := H
 rotate_left
 ·have c4b0 : (a0_1 == a1_1) = false := beq_eq_false_iff_ne.mpr c4
  have c4b1 : (a0_1 != a1_1) = true := bne_iff_ne.mpr c4
  obtain rfl := Option.some.inj H
  go_enter Try.func80, Try.ntmps80
  go_wp2_with (first | ((with_reducible refine gate_dst (N := 2) rfl ?_); refine bq_ (N := 2) #[.int .i64 a0_0, .int .i64 a0_1, .int .i64 a0_2, .slice A0_3 l0_3.length c0_3] 81 ?_; intro gb303 hg w25 BK303 hb; have GE303 := ge_ hg; replace HB := nb_ hb; clear hb hg) | ((with_reducible refine gate_dst (N := 3) rfl ?_); refine bq_ (N := 3) #[.int .i64 a1_0, .int .i64 a1_1, .int .i64 a1_2, .slice A1_3 l1_3.length c1_3] 81 ?_; intro gb304 hg w26 BK304 hb; have GE304 := ge1_ hg GE303; replace HB := nc_ GE303 hb; have NB303_304 := nl_ BK303 hg; have NB304_303 := ng_ BK303 hg; replace BK303 := bK_ BK303 hb; clear hb hg; have hnb27 := NB303_304.out; have hnc27 := NB304_303.out; obtain ⟨hcz28_0, hcz28_1, hcz28_2, hcz28_3, hfz28_0, hfz28_1, hfz28_2, hfz28_3⟩ := cf4_ BK303.out; obtain ⟨hcz29_0, hcz29_1, hcz29_2, hcz29_3, hfz29_0, hfz29_1, hfz29_2, hfz29_3⟩ := cf4_ BK304.out))
  go_ret
  exact ⟨er_, hs2_ GE303.out GE304.out⟩
 have c4b0 : (a0_1 == a1_1) = true := beq_iff_eq.mpr c4
 have c4b1 : (a0_1 != a1_1) = false := bne_eq_false_iff_eq.mpr c4
 clear c4
 replace H := ite_ H
 obtain ⟨c5, H⟩ | ⟨c5, H⟩ := H
 rotate_left
 ·have c5b0 : (a0_2 == a1_2) = false := beq_eq_false_iff_ne.mpr c5
  have c5b1 : (a0_2 != a1_2) = true := bne_iff_ne.mpr c5
  obtain rfl := Option.some.inj H
  go_enter Try.func80, Try.ntmps80
  go_wp2_with (first | ((with_reducible refine gate_dst (N := 2) rfl ?_); refine bq_ (N := 2) #[.int .i64 a0_0, .int .i64 a0_1, .int .i64 a0_2, .slice A0_3 l0_3.length c0_3] 81 ?_; intro gb303 hg w20 BK303 hb; have GE303 := ge_ hg; replace HB := nb_ hb; clear hb hg) | ((with_reducible refine gate_dst (N := 3) rfl ?_); refine bq_ (N := 3) #[.int .i64 a1_0, .int .i64 a1_1, .int .i64 a1_2, .slice A1_3 l1_3.length c1_3] 81 ?_; intro gb304 hg w21 BK304 hb; have GE304 := ge1_ hg GE303; replace HB := nc_ GE303 hb; have NB303_304 := nl_ BK303 hg; have NB304_303 := ng_ BK303 hg; replace BK303 := bK_ BK303 hb; clear hb hg; have hnb22 := NB303_304.out; have hnc22 := NB304_303.out; obtain ⟨hcz23_0, hcz23_1, hcz23_2, hcz23_3, hfz23_0, hfz23_1, hfz23_2, hfz23_3⟩ := cf4_ BK303.out; obtain ⟨hcz24_0, hcz24_1, hcz24_2, hcz24_3, hfz24_0, hfz24_1, hfz24_2, hfz24_3⟩ := cf4_ BK304.out))
  go_ret
  exact ⟨er_, hs2_ GE303.out GE304.out⟩
 have c5b0 : (a0_2 == a1_2) = true := beq_iff_eq.mpr c5
 have c5b1 : (a0_2 != a1_2) = false := bne_eq_false_iff_eq.mpr c5
 clear c5
 replace H := bnd_ H
 obtain ⟨t305, A6, H⟩ := H
 replace H := ifb_ H
 obtain ⟨rfl, H⟩ | ⟨rfl, H⟩ := H
 ·obtain rfl := Option.some.inj H
  go_enter Try.func80, Try.ntmps80
  go_wp2_with (first | ((with_reducible refine gate_dst (N := 2) rfl ?_); refine bq_ (N := 2) #[.int .i64 a0_0, .int .i64 a0_1, .int .i64 a0_2, .slice A0_3 l0_3.length c0_3] 81 ?_; intro gb303 hg w8 BK303 hb; have GE303 := ge_ hg; replace HB := nb_ hb; clear hb hg) | ((with_reducible refine gate_dst (N := 3) rfl ?_); refine bq_ (N := 3) #[.int .i64 a1_0, .int .i64 a1_1, .int .i64 a1_2, .slice A1_3 l1_3.length c1_3] 81 ?_; intro gb304 hg w9 BK304 hb; have GE304 := ge1_ hg GE303; replace HB := nc_ GE303 hb; have NB303_304 := nl_ BK303 hg; have NB304_303 := ng_ BK303 hg; replace BK303 := bK_ BK303 hb; clear hb hg; have hnb10 := NB303_304.out; have hnc10 := NB304_303.out; obtain ⟨hcz11_0, hcz11_1, hcz11_2, hcz11_3, hfz11_0, hfz11_1, hfz11_2, hfz11_3⟩ := cf4_ BK303.out; obtain ⟨hcz12_0, hcz12_1, hcz12_2, hcz12_3, hfz12_0, hfz12_1, hfz12_2, hfz12_3⟩ := cf4_ BK304.out) | ((with_reducible refine gate_callee (f := 94) rfl ?_); refine gl_ 24 Try.func94 #[.slice A0_3 l0_3.length c0_3, .slice A1_3 l1_3.length c1_3] rfl ma_ ?_; (with_reducible refine (laws_eqDoneS.calls k _ _ l0_3 _ _ l1_3 true _ ?side1 ?side2 ?side3 ?side4 A6.out).mono ?_); (case side1 => exact cs_ ((Kd.C_below HR0_3.out HB.out))); (case side2 => exact HC0_3.out); (case side3 => exact cs_ ((Kd.C_below HR1_3.out HB.out))); (case side4 => exact HC1_3.out); rintro e w13 ⟨rfl, hb⟩; refine ⟨_, rfl, ?_⟩; replace BK303 := bK_ BK303 hb; replace BK304 := bK_ BK304 hb; replace HB := nc2_ GE303 GE304 hb; (try clear hb); (try clear hb2); (try clear hk); (try clear hi)))
  go_ret
  exact ⟨er_, hs2_ GE303.out GE304.out⟩
 obtain rfl := Option.some.inj H
 go_enter Try.func80, Try.ntmps80
 go_wp2_with (first | ((with_reducible refine gate_dst (N := 2) rfl ?_); refine bq_ (N := 2) #[.int .i64 a0_0, .int .i64 a0_1, .int .i64 a0_2, .slice A0_3 l0_3.length c0_3] 81 ?_; intro gb303 hg w14 BK303 hb; have GE303 := ge_ hg; replace HB := nb_ hb; clear hb hg) | ((with_reducible refine gate_dst (N := 3) rfl ?_); refine bq_ (N := 3) #[.int .i64 a1_0, .int .i64 a1_1, .int .i64 a1_2, .slice A1_3 l1_3.length c1_3] 81 ?_; intro gb304 hg w15 BK304 hb; have GE304 := ge1_ hg GE303; replace HB := nc_ GE303 hb; have NB303_304 := nl_ BK303 hg; have NB304_303 := ng_ BK303 hg; replace BK303 := bK_ BK303 hb; clear hb hg; have hnb16 := NB303_304.out; have hnc16 := NB304_303.out; obtain ⟨hcz17_0, hcz17_1, hcz17_2, hcz17_3, hfz17_0, hfz17_1, hfz17_2, hfz17_3⟩ := cf4_ BK303.out; obtain ⟨hcz18_0, hcz18_1, hcz18_2, hcz18_3, hfz18_0, hfz18_1, hfz18_2, hfz18_3⟩ := cf4_ BK304.out) | ((with_reducible refine gate_callee (f := 94) rfl ?_); refine gl_ 24 Try.func94 #[.slice A0_3 l0_3.length c0_3, .slice A1_3 l1_3.length c1_3] rfl ma_ ?_; (with_reducible refine (laws_eqDoneS.calls k _ _ l0_3 _ _ l1_3 false _ ?side1 ?side2 ?side3 ?side4 A6.out).mono ?_); (case side1 => exact cs_ ((Kd.C_below HR0_3.out HB.out))); (case side2 => exact HC0_3.out); (case side3 => exact cs_ ((Kd.C_below HR1_3.out HB.out))); (case side4 => exact HC1_3.out); rintro e w19 ⟨rfl, hb⟩; refine ⟨_, rfl, ?_⟩; replace BK303 := bK_ BK303 hb; replace BK304 := bK_ BK304 hb; replace HB := nc2_ GE303 GE304 hb; (try clear hb); (try clear hb2); (try clear hk); (try clear hi)))
 go_ret
 exact ⟨er_, hs2_ GE303.out GE304.out⟩

end Go.Proofs.Ytojdaolclcmalaa.QFnExactRecordsOf
