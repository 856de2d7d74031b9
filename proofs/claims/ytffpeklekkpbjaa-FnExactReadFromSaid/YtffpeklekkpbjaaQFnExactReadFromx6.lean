/- Functions that one statement reaches: of each a plain function, and the proof that calls come to it. Conditions: those that each contract names. Written by a program of this repository. -/
import Derived.Test.YtffpeklekkpbjaaVReadFroma
import Derived.Test.YtffpeklekkpbjaaQFnExactReadFromx2
import Derived.Test.YtffpeklekkpbjaaQFnExactReadFromx3
import Derived.Test.YtffpeklekkpbjaaQFnExactReadFromx4
namespace Go.Proofs.Ytffpeklekkpbjaa.QFnExactReadFrom
open Go.RowKit Go.Proofs.YtffpeklekkpbjaaW.PrintWords Go.Proofs.YtffpeklekkpbjaaW.PrintLast Go.Proofs.YtffpeklekkpbjaaW.PrintMore
attribute [local go_sem] max2_int min2_int max_two min_two max_three min_three max_four min_four Go.Proofs.YtffpeklekkpbjaaW.PrintMore2.isSome_setCell   -- for this text's walks alone
set_option linter.unusedVariables false
set_option linter.unusedSimpArgs false

/-! ### laws_eqBatchS: function 36 -/
def laws_eqBatchS.l0 : Nat → List (S43) → List (S43) → Int → Option (Bool)
 | 0, _, _, _ => none
 | k + 1, x0, x1, x5 => if x5 < (x0.length : Int) then (if 0 ≤ x5 then (if x5 < (x1.length : Int) then ((laws_eqBatch.f k ((rd_T43 x0 x5).f0) ((rd_T43 x0 x5).f1) ((rd_T43 x0 x5).f2) ((rd_T43 x0 x5).f3) ((rd_T43 x0 x5).f4) ((rd_T43 x1 x5).f0) ((rd_T43 x1 x5).f1) ((rd_T43 x1 x5).f2) ((rd_T43 x1 x5).f3) ((rd_T43 x1 x5).f4)).bind fun t165 => (if t165 = true then (laws_eqBatchS.l0 k x0 x1 (wrap64 (x5 + 1))) else (some false))) else (none)) else (none)) else (some true)
def laws_eqBatchS.f (k : Nat) (l0 : List (S43)) (l1 : List (S43)) : Option (Bool) := if (l0.length : Int) = (l1.length : Int) then (laws_eqBatchS.l0 k l0 l1 0) else (some false)
theorem laws_eqBatchS.mono_l : ∀ k, (∀ y0 y1 y2, LeO (laws_eqBatchS.l0 k y0 y1 y2) (laws_eqBatchS.l0 (k + 1) y0 y1 y2))
 | 0 => fun _ _ _ r h => by simp [laws_eqBatchS.l0] at h
 | k + 1 => by
  have ih0 := laws_eqBatchS.mono_l k
  ·intro y0 y1 y2
   unfold laws_eqBatchS.l0
   repeat' first
   | (with_reducible first | apply ih0 | apply laws_eqBatch.mono | exact LeO.refl _ | exact LeO.none _ | refine LeO.ite ?_ ?_ | refine LeO.bind ?_ (fun _ => ?_))
theorem laws_eqBatchS.mono : ∀ a0 a1 k, LeO (laws_eqBatchS.f k a0 a1) (laws_eqBatchS.f (k + 1) a0 a1) := by
 intro a0 a1 k
 have ih0 := laws_eqBatchS.mono_l k
 unfold laws_eqBatchS.f
 repeat' first
   | (with_reducible first | apply ih0 | apply laws_eqBatch.mono | exact LeO.refl _ | exact LeO.none _ | refine LeO.ite ?_ ?_ | refine LeO.bind ?_ (fun _ => ?_))
def laws_eqBatchS.T6 : Bool × List (List Nat × List Nat) := (true, [([], []), ([], []), ([0, 1], [0, 1]), ([2], [2]), ([], []), ([], []), ([4, 5], [4, 5]), ([6], [6]), ([3, 7], [3, 7]), ([8], [8])])
def laws_eqBatchS.B6 : List Nat := [0, 0, 3, 7, 0, 0, 48, 112, 255, 511]
theorem laws_eqBatchS.tab6 : rtab .any (opsOf Try.f36 6) = laws_eqBatchS.T6 := by kernel_rfl
theorem laws_eqBatchS.bits6 : waitsOk laws_eqBatchS.T6.2 laws_eqBatchS.B6 = true := by kernel_rfl
set_option maxHeartbeats 8000000 in
set_option maxRecDepth 100000 in
theorem laws_eqBatchS.calls (k : Nat) (A0 : Option Addr) (c0 : Nat) (l0 : List (S43)) (A1 : Option Addr) (c1 : Nat) (l1 : List (S43)) (r : Bool) (w : World) (hr0 : Kd.C k43 w A0 l0.length l0) (hc0 : l0.length ≤ c0) (hr1 : Kd.C k43 w A1 l1.length l1) (hc1 : l1.length ≤ c1) (h : laws_eqBatchS.f k l0 l1 = some r) :
  Calls Try.prog 36 #[.slice A0 l0.length c0, .slice A1 l1.length c1] w fun e w' => e = .returned (.bool r) ∧ Below w.heap.size w w' := by
 have hu43 := Try.underlying43
 have HR0 := Aside0.mk hr0
 have HC0 := Aside0.mk hc0
 clear hr0 hc0
 have HR1 := Aside0.mk hr1
 have HC1 := Aside0.mk hc1
 clear hr1 hc1
 have HB := Aside0.mk (Below.refl w.heap.size w)
 have H : (if (l0.length : Int) = (l1.length : Int) then (laws_eqBatchS.l0 k l0 l1 0) else (some false)) = some r := h
 clear h
 replace H := ite_ H
 obtain ⟨c3, H⟩ | ⟨c3, H⟩ := H
 rotate_left
 ·have c3b0 : ((l0.length : Int) == (l1.length : Int)) = false := beq_eq_false_iff_ne.mpr c3
  have c3b1 : ((l0.length : Int) != (l1.length : Int)) = true := bne_iff_ne.mpr c3
  have c3b2 : (l0.length == l1.length) = false := by first | simpa using c3 | (simp at c3 ⊢; omega)
  obtain rfl := Option.some.inj H
  go_enter Try.func36, Try.ntmps36
  go_wp2
  go_ret
  exact ⟨er_, hb_⟩
 have c3b0 : ((l0.length : Int) == (l1.length : Int)) = true := beq_iff_eq.mpr c3
 have c3b1 : ((l0.length : Int) != (l1.length : Int)) = false := bne_eq_false_iff_eq.mpr c3
 have c3b2 : (l0.length == l1.length) = true := by first | simpa using c3 | (simp at c3 ⊢; omega)
 clear c3
 have H' := Aside0.mk H
 clear H
 go_enter Try.func36, Try.ntmps36
 go_wp2
 go_loopg [5] k (fun kq v5 w' => ∃ (x5_1 : Int), v5 = .int .i64 x5_1 ∧ Aside0 (laws_eqBatchS.l0 kq l0 l1 x5_1 = some r) ∧ Aside0 (kq ≤ k) ∧ Aside0 (Below w.heap.size w w'))
 case atStart => exact ⟨(0), sr_, H', ⟨Nat.le_refl _⟩, ⟨hb_⟩⟩
 case round =>
  clear H'
  try clear c1
  try clear c3
  try clear c3b0
  try clear c3b1
  try clear c3b2
  obtain ⟨x5_1, rfl, HA, HK1, HB⟩ := hrel
  cases gk with
  | zero => exact absurd HA.out (by simp [laws_eqBatchS.l0])
  | succ k1 =>
   have H := HA.out
   clear HA
   simp only [laws_eqBatchS.l0] at H
   replace H := ite_ H
   obtain ⟨c4, H⟩ | ⟨c4, H⟩ := H
   rotate_left
   ·have c4b0 := decide_eq_false c4
    clear c4
    obtain rfl := Option.some.inj H
    go_wp2
    go_ret
    exact ⟨er_, hb_⟩
   have c4b0 := decide_eq_true c4
   clear c4
   replace H := ifs_ H
   obtain ⟨c5, H⟩ := H
   have c5b0 := decide_eq_true c5
   clear c5
   replace H := ifs_ H
   obtain ⟨c6, H⟩ := H
   have c6b0 := decide_eq_true c6
   clear c6
   replace H := bnd_ H
   obtain ⟨t165, A7, H⟩ := H
   replace H := ifb_ H
   obtain ⟨rfl, H⟩ | ⟨rfl, H⟩ := H
   rotate_left
   ·obtain rfl := Option.some.inj H
    try go_wp2
    replace HB := qH_ HB
    have p163 : 0 ≤ (x5_1 : Int) := oa_
    have q163 : x5_1 < (l0.length : Int) := oa_
    obtain ⟨ad163, A163_4, c163_4, e163, hx163_0, hx163_1, hx163_2, hx163_3, hx163_4, hl163_4, hi163_4⟩ := at_T43 HR0.out x5_1 p163 q163
    have hw163_4 := hx163_4
    have hw163_3 := hx163_3
    have hw163_2 := hx163_2
    have hw163_1 := hx163_1
    have hw163_0 := hx163_0
    cases e163
    replace hx163_0 := pc_ HB.out hx163_0
    replace hx163_1 := pc_ HB.out hx163_1
    replace hx163_2 := pc_ HB.out hx163_2
    replace hx163_3 := pc_ HB.out hx163_3
    replace hx163_4 := pc_ HB.out hx163_4
    have HR163_4 := Aside0.mk hi163_4
    have HC163_4 := Aside0.mk hl163_4
    clear hi163_4 hl163_4
    replace p163 := eq_true p163
    replace q163 := eq_true q163
    have p164 : 0 ≤ (x5_1 : Int) := oa_
    have q164 : x5_1 < (l1.length : Int) := oa_
    obtain ⟨ad164, A164_4, c164_4, e164, hx164_0, hx164_1, hx164_2, hx164_3, hx164_4, hl164_4, hi164_4⟩ := at_T43 HR1.out x5_1 p164 q164
    have hw164_4 := hx164_4
    have hw164_3 := hx164_3
    have hw164_2 := hx164_2
    have hw164_1 := hx164_1
    have hw164_0 := hx164_0
    cases e164
    replace hx164_0 := pc_ HB.out hx164_0
    replace hx164_1 := pc_ HB.out hx164_1
    replace hx164_2 := pc_ HB.out hx164_2
    replace hx164_3 := pc_ HB.out hx164_3
    replace hx164_4 := pc_ HB.out hx164_4
    have HR164_4 := Aside0.mk hi164_4
    have HC164_4 := Aside0.mk hl164_4
    clear hi164_4 hl164_4
    replace p164 := eq_true p164
    replace q164 := eq_true q164
    refine start_ (n := 10) (S := fun w' => w'.cell? (ad163.add ((x5_1).toNat * 5)) = some (.int .i64 ((rd_T43 l0 x5_1).f0)) ∧ w'.cell? ⟨(ad163.add ((x5_1).toNat * 5)).block, (ad163.add ((x5_1).toNat * 5)).off + 1, none⟩ = some (.int .i64 ((rd_T43 l0 x5_1).f1)) ∧ w'.cell? ⟨(ad163.add ((x5_1).toNat * 5)).block, (ad163.add ((x5_1).toNat * 5)).off + 2, none⟩ = some (.int .i64 ((rd_T43 l0 x5_1).f2)) ∧ w'.cell? ⟨(ad163.add ((x5_1).toNat * 5)).block, (ad163.add ((x5_1).toNat * 5)).off + 3, none⟩ = some (.int .i64 ((rd_T43 l0 x5_1).f3)) ∧ w'.cell? ⟨(ad163.add ((x5_1).toNat * 5)).block, (ad163.add ((x5_1).toNat * 5)).off + 4, none⟩ = some (.slice A163_4 ((rd_T43 l0 x5_1).f4).length c163_4) ∧ w'.cell? (ad164.add ((x5_1).toNat * 5)) = some (.int .i64 ((rd_T43 l1 x5_1).f0)) ∧ w'.cell? ⟨(ad164.add ((x5_1).toNat * 5)).block, (ad164.add ((x5_1).toNat * 5)).off + 1, none⟩ = some (.int .i64 ((rd_T43 l1 x5_1).f1)) ∧ w'.cell? ⟨(ad164.add ((x5_1).toNat * 5)).block, (ad164.add ((x5_1).toNat * 5)).off + 2, none⟩ = some (.int .i64 ((rd_T43 l1 x5_1).f2)) ∧ w'.cell? ⟨(ad164.add ((x5_1).toNat * 5)).block, (ad164.add ((x5_1).toNat * 5)).off + 3, none⟩ = some (.int .i64 ((rd_T43 l1 x5_1).f3)) ∧ w'.cell? ⟨(ad164.add ((x5_1).toNat * 5)).block, (ad164.add ((x5_1).toNat * 5)).off + 4, none⟩ = some (.slice A164_4 ((rd_T43 l1 x5_1).f4).length c164_4)) (ds := []) (List.replicate 10 false).toArray (by kernel_rfl) rfl rfl ⟨(pc_ HB.out hw163_0), (pc_ HB.out hw163_1), (pc_ HB.out hw163_2), (pc_ HB.out hw163_3), (pc_ HB.out hw163_4), (pc_ HB.out hw164_0), (pc_ HB.out hw164_1), (pc_ HB.out hw164_2), (pc_ HB.out hw164_3), (pc_ HB.out hw164_4)⟩ (fun hHeld => ?_); refine with_tabW laws_eqBatchS.tab6 laws_eqBatchS.bits6 (fun HT_ HW_ => ?_)
    generalize wr.drew = w11 at HB HR163_4 HR164_4 hx163_0 hx163_1 hx163_2 hx163_3 hx163_4 hx164_0 hx164_1 hx164_2 hx164_3 hx164_4 hHeld ⊢
    refine pv_ 0 17 ?_
    refine pv_ 1 18 ?_
    refine pv_ 2 19 ?_
    refine pv_ 4 21 ?_
    refine pv_ 5 22 ?_
    refine pv_ 6 23 ?_
    refine tk_ 3 20 ?_
    refine tk_ 7 24 ?_
    refine on_ 8 25 (fun K hK => ?_)
    refine gs_ Try.func31 #[.agg #[.int .i64 ((rd_T43 l0 x5_1).f0), .int .i64 ((rd_T43 l0 x5_1).f1), .int .i64 ((rd_T43 l0 x5_1).f2), .int .i64 ((rd_T43 l0 x5_1).f3), .slice A163_4 ((rd_T43 l0 x5_1).f4).length c163_4], .agg #[.int .i64 ((rd_T43 l1 x5_1).f0), .int .i64 ((rd_T43 l1 x5_1).f1), .int .i64 ((rd_T43 l1 x5_1).f2), .int .i64 ((rd_T43 l1 x5_1).f3), .slice A164_4 ((rd_T43 l1 x5_1).f4).length c164_4]] rfl ma_ ?_
    with_reducible refine (laws_eqBatch.calls k1 ((rd_T43 l0 x5_1).f0) ((rd_T43 l0 x5_1).f1) ((rd_T43 l0 x5_1).f2) ((rd_T43 l0 x5_1).f3) _ _ ((rd_T43 l0 x5_1).f4) ((rd_T43 l1 x5_1).f0) ((rd_T43 l1 x5_1).f1) ((rd_T43 l1 x5_1).f2) ((rd_T43 l1 x5_1).f3) _ _ ((rd_T43 l1 x5_1).f4) false _ ?side1 ?side2 ?side3 ?side4 A7.out).mono ?_
    (case side1 => exact cs_ ((Kd.C_below HR163_4.out HB.out)))
    (case side2 => exact HC163_4.out)
    (case side3 => exact cs_ ((Kd.C_below HR164_4.out HB.out)))
    (case side4 => exact HC164_4.out)
    rintro e w12 ⟨rfl, hb⟩
    refine ⟨_, rfl, ?_⟩
    replace HB := nb_ hb
    (try clear hb)
    (try clear hb2)
    (try clear hk)
    (try clear hi)
    refine hK.out _ _ ⟨(pc_ HB.out hw163_0), (pc_ HB.out hw163_1), (pc_ HB.out hw163_2), (pc_ HB.out hw163_3), (pc_ HB.out hw163_4), (pc_ HB.out hw164_0), (pc_ HB.out hw164_1), (pc_ HB.out hw164_2), (pc_ HB.out hw164_3), (pc_ HB.out hw164_4)⟩ (fun hHeld => ?_)
    clear hK K
    refine no_ ?_
    refine pv_ 9 26 ?_
    refine done_ (done_of HT_.out (by kernel_rfl)) ?_
    try go_wp2
    go_ret
    exact ⟨er_, hb_⟩
   have H' := Aside0.mk H
   clear H
   try go_wp2
   replace HB := qH_ HB
   have p163 : 0 ≤ (x5_1 : Int) := oa_
   have q163 : x5_1 < (l0.length : Int) := oa_
   obtain ⟨ad163, A163_4, c163_4, e163, hx163_0, hx163_1, hx163_2, hx163_3, hx163_4, hl163_4, hi163_4⟩ := at_T43 HR0.out x5_1 p163 q163
   have hw163_4 := hx163_4
   have hw163_3 := hx163_3
   have hw163_2 := hx163_2
   have hw163_1 := hx163_1
   have hw163_0 := hx163_0
   cases e163
   replace hx163_0 := pc_ HB.out hx163_0
   replace hx163_1 := pc_ HB.out hx163_1
   replace hx163_2 := pc_ HB.out hx163_2
   replace hx163_3 := pc_ HB.out hx163_3
   replace hx163_4 := pc_ HB.out hx163_4
   have HR163_4 := Aside0.mk hi163_4
   have HC163_4 := Aside0.mk hl163_4
   clear hi163_4 hl163_4
   replace p163 := eq_true p163
   replace q163 := eq_true q163
   have p164 : 0 ≤ (x5_1 : Int) := oa_
   have q164 : x5_1 < (l1.length : Int) := oa_
   obtain ⟨ad164, A164_4, c164_4, e164, hx164_0, hx164_1, hx164_2, hx164_3, hx164_4, hl164_4, hi164_4⟩ := at_T43 HR1.out x5_1 p164 q164
   have hw164_4 := hx164_4
   have hw164_3 := hx164_3
   have hw164_2 := hx164_2
   have hw164_1 := hx164_1
   have hw164_0 := hx164_0
   cases e164
   replace hx164_0 := pc_ HB.out hx164_0
   replace hx164_1 := pc_ HB.out hx164_1
   replace hx164_2 := pc_ HB.out hx164_2
   replace hx164_3 := pc_ HB.out hx164_3
   replace hx164_4 := pc_ HB.out hx164_4
   have HR164_4 := Aside0.mk hi164_4
   have HC164_4 := Aside0.mk hl164_4
   clear hi164_4 hl164_4
   replace p164 := eq_true p164
   replace q164 := eq_true q164
   refine start_ (n := 10) (S := fun w' => w'.cell? (ad163.add ((x5_1).toNat * 5)) = some (.int .i64 ((rd_T43 l0 x5_1).f0)) ∧ w'.cell? ⟨(ad163.add ((x5_1).toNat * 5)).block, (ad163.add ((x5_1).toNat * 5)).off + 1, none⟩ = some (.int .i64 ((rd_T43 l0 x5_1).f1)) ∧ w'.cell? ⟨(ad163.add ((x5_1).toNat * 5)).block, (ad163.add ((x5_1).toNat * 5)).off + 2, none⟩ = some (.int .i64 ((rd_T43 l0 x5_1).f2)) ∧ w'.cell? ⟨(ad163.add ((x5_1).toNat * 5)).block, (ad163.add ((x5_1).toNat * 5)).off + 3, none⟩ = some (.int .i64 ((rd_T43 l0 x5_1).f3)) ∧ w'.cell? ⟨(ad163.add ((x5_1).toNat * 5)).block, (ad163.add ((x5_1).toNat * 5)).off + 4, none⟩ = some (.slice A163_4 ((rd_T43 l0 x5_1).f4).length c163_4) ∧ w'.cell? (ad164.add ((x5_1).toNat * 5)) = some (.int .i64 ((rd_T43 l1 x5_1).f0)) ∧ w'.cell? ⟨(ad164.add ((x5_1).toNat * 5)).block, (ad164.add ((x5_1).toNat * 5)).off + 1, none⟩ = some (.int .i64 ((rd_T43 l1 x5_1).f1)) ∧ w'.cell? ⟨(ad164.add ((x5_1).toNat * 5)).block, (ad164.add ((x5_1).toNat * 5)).off + 2, none⟩ = some (.int .i64 ((rd_T43 l1 x5_1).f2)) ∧ w'.cell? ⟨(ad164.add ((x5_1).toNat * 5)).block, (ad164.add ((x5_1).toNat * 5)).off + 3, none⟩ = some (.int .i64 ((rd_T43 l1 x5_1).f3)) ∧ w'.cell? ⟨(ad164.add ((x5_1).toNat * 5)).block, (ad164.add ((x5_1).toNat * 5)).off + 4, none⟩ = some (.slice A164_4 ((rd_T43 l1 x5_1).f4).length c164_4)) (ds := []) (List.replicate 10 false).toArray (by kernel_rfl) rfl rfl ⟨(pc_ HB.out hw163_0), (pc_ HB.out hw163_1), (pc_ HB.out hw163_2), (pc_ HB.out hw163_3), (pc_ HB.out hw163_4), (pc_ HB.out hw164_0), (pc_ HB.out hw164_1), (pc_ HB.out hw164_2), (pc_ HB.out hw164_3), (pc_ HB.out hw164_4)⟩ (fun hHeld => ?_); refine with_tabW laws_eqBatchS.tab6 laws_eqBatchS.bits6 (fun HT_ HW_ => ?_)
   generalize wr.drew = w9 at HB HR163_4 HR164_4 hx163_0 hx163_1 hx163_2 hx163_3 hx163_4 hx164_0 hx164_1 hx164_2 hx164_3 hx164_4 hHeld ⊢
   refine pv_ 0 17 ?_
   refine pv_ 1 18 ?_
   refine pv_ 2 19 ?_
   refine pv_ 4 21 ?_
   refine pv_ 5 22 ?_
   refine pv_ 6 23 ?_
   refine tk_ 3 20 ?_
   refine tk_ 7 24 ?_
   refine on_ 8 25 (fun K hK => ?_)
   refine gs_ Try.func31 #[.agg #[.int .i64 ((rd_T43 l0 x5_1).f0), .int .i64 ((rd_T43 l0 x5_1).f1), .int .i64 ((rd_T43 l0 x5_1).f2), .int .i64 ((rd_T43 l0 x5_1).f3), .slice A163_4 ((rd_T43 l0 x5_1).f4).length c163_4], .agg #[.int .i64 ((rd_T43 l1 x5_1).f0), .int .i64 ((rd_T43 l1 x5_1).f1), .int .i64 ((rd_T43 l1 x5_1).f2), .int .i64 ((rd_T43 l1 x5_1).f3), .slice A164_4 ((rd_T43 l1 x5_1).f4).length c164_4]] rfl ma_ ?_
   with_reducible refine (laws_eqBatch.calls k1 ((rd_T43 l0 x5_1).f0) ((rd_T43 l0 x5_1).f1) ((rd_T43 l0 x5_1).f2) ((rd_T43 l0 x5_1).f3) _ _ ((rd_T43 l0 x5_1).f4) ((rd_T43 l1 x5_1).f0) ((rd_T43 l1 x5_1).f1) ((rd_T43 l1 x5_1).f2) ((rd_T43 l1 x5_1).f3) _ _ ((rd_T43 l1 x5_1).f4) true _ ?side1 ?side2 ?side3 ?side4 A7.out).mono ?_
   (case side1 => exact cs_ ((Kd.C_below HR163_4.out HB.out)))
   (case side2 => exact HC163_4.out)
   (case side3 => exact cs_ ((Kd.C_below HR164_4.out HB.out)))
   (case side4 => exact HC164_4.out)
   rintro e w10 ⟨rfl, hb⟩
   refine ⟨_, rfl, ?_⟩
   replace HB := nb_ hb
   (try clear hb)
   (try clear hb2)
   (try clear hk)
   (try clear hi)
   refine hK.out _ _ ⟨(pc_ HB.out hw163_0), (pc_ HB.out hw163_1), (pc_ HB.out hw163_2), (pc_ HB.out hw163_3), (pc_ HB.out hw163_4), (pc_ HB.out hw164_0), (pc_ HB.out hw164_1), (pc_ HB.out hw164_2), (pc_ HB.out hw164_3), (pc_ HB.out hw164_4)⟩ (fun hHeld => ?_)
   clear hK K
   refine no_ ?_
   refine pv_ 9 26 ?_
   refine done_ (done_of HT_.out (by kernel_rfl)) ?_
   try go_wp2
   go_roundg k1
   case measure => have := HK1.out; omega
   case rel => exact ⟨(wrap64 (x5_1 + 1)), sr_, H', ⟨by have := HK1.out; omega⟩, ⟨hb_⟩⟩

/-! ### laws_markStringS: function 44 -/
def laws_markStringS.l0 : Nat → List ByteArray → Int → Int → Option (Int × List ByteArray)
 | 0, _, _, _ => none
 | k + 1, x0, x1, x5 => if x5 < (x0.length : Int) then ((laws_markText.f k x1).bind fun t166 => (if 0 ≤ x5 then (laws_markStringS.l0 k (x0.set (x5 : Int).toNat t166) (wrap64 (x1 + 1)) (wrap64 (x5 + 1))) else (none))) else (some (x1, x0))
def laws_markStringS.f (k : Nat) (l0 : List ByteArray) (a1 : Int) : Option (Int × List ByteArray) := laws_markStringS.l0 k l0 a1 0
theorem laws_markStringS.mono_l : ∀ k, (∀ y0 y1 y2, LeO (laws_markStringS.l0 k y0 y1 y2) (laws_markStringS.l0 (k + 1) y0 y1 y2))
 | 0 => fun _ _ _ r h => by simp [laws_markStringS.l0] at h
 | k + 1 => by
  have ih0 := laws_markStringS.mono_l k
  ·intro y0 y1 y2
   unfold laws_markStringS.l0
   repeat' first
   | (with_reducible first | apply ih0 | apply laws_markText.mono | exact LeO.refl _ | exact LeO.none _ | refine LeO.ite ?_ ?_ | refine LeO.bind ?_ (fun _ => ?_))
theorem laws_markStringS.mono : ∀ a0 a1 k, LeO (laws_markStringS.f k a0 a1) (laws_markStringS.f (k + 1) a0 a1) := by
 intro a0 a1 k
 have ih0 := laws_markStringS.mono_l k
 unfold laws_markStringS.f
 repeat' first
   | (with_reducible first | apply ih0 | apply laws_markText.mono | exact LeO.refl _ | exact LeO.none _ | refine LeO.ite ?_ ?_ | refine LeO.bind ?_ (fun _ => ?_))
set_option maxHeartbeats 8000000 in
set_option maxRecDepth 100000 in
theorem laws_markStringS.calls (k : Nat) (P0_ : Nat → Prop) (u9000_ : Value) (l0 : List ByteArray) (a1 : Int) (r1 : Int) (r2 : List ByteArray) (w0 w : World) (hB : Below w0.heap.size w0 w) (ho0 : Kd.R Kd.string 9 w w0.heap.size P0_ u9000_ l0) (h : laws_markStringS.f k l0 a1 = some (r1, r2)) :
  Calls Try.prog 44 #[u9000_, .int .i64 a1] w fun e w' => e = .returned (.int .i64 r1) ∧ Kd.R Kd.string 9 w' w0.heap.size (fun k_ => (P0_ k_ ∨ w.heap.size ≤ k_)) u9000_ r2 ∧ Below w0.heap.size w0 w' ∧ Kept w w' (fun k_ => P0_ k_) := by
 have HO0 := Aside0.mk (show Kd.R Kd.string 9 w w0.heap.size (fun k_ => (P0_ k_ ∨ w.heap.size ≤ k_)) u9000_ l0 from Kd.R_mono ho0 (fun k_ hk => (.inl hk)))
 have HK := Aside0.mk (Kept.refl w (fun k_ => P0_ k_))
 have HW0 := Aside0.mk hB.size
 have HB := Aside0.mk hB
 clear hB
 have H : (laws_markStringS.l0 k l0 a1 0) = some (r1, r2) := h
 clear h
 have H' := Aside0.mk H
 clear H
 go_enter Try.func44, Try.ntmps44
 go_wp2
 go_loopg [1, 5] k (fun kq v1 v5 w' => ∃ (x0_1 : List ByteArray) (x1_1 : Int) (x5_1 : Int), v1 = .int .i64 x1_1 ∧ v5 = .int .i64 x5_1 ∧ Aside0 (laws_markStringS.l0 kq x0_1 x1_1 x5_1 = some (r1, r2)) ∧ Aside0 (kq ≤ k) ∧ Aside0 (Kd.R Kd.string 9 w' w0.heap.size (fun k_ => (P0_ k_ ∨ w.heap.size ≤ k_)) u9000_ x0_1) ∧ Aside0 (Kept w w' (fun k_ => P0_ k_)) ∧ Aside0 (Below w0.heap.size w0 w'))
 case atStart => exact ⟨(l0), (a1), (0), sr_, sr_, H', ⟨Nat.le_refl _⟩, ⟨kr_ HO0.out⟩, ⟨by repeat (first | (with_reducible first | exact HK.out | apply Kept.alloc | apply Kept.drewN | apply Kept.drew) | exact HK.out)⟩, ⟨hb_⟩⟩
 case round =>
  clear H'
  obtain ⟨x0_1, x1_1, x5_1, rfl, rfl, HA, HK1, HO_0, HK, HB⟩ := hrel
  cases gk with
  | zero => exact absurd HA.out (by simp [laws_markStringS.l0])
  | succ k1 =>
   have H := HA.out
   clear HA
   simp only [laws_markStringS.l0] at H
   replace H := ite_ H
   obtain ⟨c3, H⟩ | ⟨c3, H⟩ := H
   rotate_left
   ·have c3b0 := decide_eq_false c3
    clear c3
    simp only [Option.some.injEq, Prod.mk.injEq] at H
    obtain ⟨rfl, rfl⟩ := H
    obtain ⟨Ao11, co11, eo11⟩ := Kd.R_slice HO_0.out
    subst eo11
    go_wp2
    go_ret
    exact ⟨er_, kr_ HO_0.out, hb_, by repeat (first | (with_reducible first | exact HK.out | apply Kept.alloc | apply Kept.drewN | apply Kept.drew) | exact HK.out)⟩
   have c3b0 := decide_eq_true c3
   clear c3
   replace H := bnd_ H
   obtain ⟨t166, A4, H⟩ := H
   replace H := ifs_ H
   obtain ⟨c5, H⟩ := H
   have c5b0 := decide_eq_true c5
   clear c5
   obtain ⟨y167, hy167⟩ : ∃ y_ : List ByteArray, y_ = (x0_1.set (x5_1 : Int).toNat t166) := ⟨_, rfl⟩
   replace H : (laws_markStringS.l0 k1 y167 (wrap64 (x1_1 + 1)) (wrap64 (x5_1 + 1))) = some (r1, r2) := by first | (rw [hy167]; with_reducible exact H) | (have H2_ := (Option.bind_some _ _).symm.trans H; rw [hy167]; with_reducible exact H2_) | (have H2_ := (Option.bind_some _ _).symm.trans H; with_reducible exact H2_) | with_reducible exact H | (rw [hy167]; exact H) | exact H
   have Ny167 := Aside0.mk hy167
   clear hy167
   have H' := Aside0.mk H
   clear H
   obtain ⟨Ao7, co7, eo7⟩ := Kd.R_slice HO_0.out
   subst eo7
   go_wp2_with (first | ((with_reducible refine gate_callee (f := 85) rfl ?_); refine gl_ 15 Try.func85 #[.int .i64 x1_1] rfl ma_ ?_; (with_reducible refine (laws_markText.calls k1 x1_1 t166 _ A4.out).mono ?_); rintro e w8 ⟨rfl, hb⟩; refine ⟨_, rfl, ?_⟩; replace HO_0 := rB_ HO_0 hb; replace HK := Aside0.mk (Kept.below (S := (fun k_ => P0_ k_)) (by repeat (first | (with_reducible first | exact HK.out | apply Kept.alloc | apply Kept.drewN | apply Kept.drew) | exact HK.out)) hb); replace HB := nb_ hb; (try clear hb); (try clear hb2); (try clear hk); (try clear hi); have p6 : 0 ≤ (x5_1 : Int) := oa_; have q6 : (x5_1 : Int) < ((x0_1.length : Int) : Int) := oa_; obtain ⟨go6, co6, eo6, gb6, gl6, cl6, HG6⟩ := Kd.R_form HO_0.out (by omega); (first | cases eo6 | (injection eo6 with ea_ en_ ec_; (first | subst ea_ | (injection ea_ with ea_; subst ea_)); subst ec_; clear en_)); have GB6 := Aside0.mk gb6; have GG6 := Aside0.mk HG6; clear gb6 gl6 HG6; have HMgo6 := Aside0.mk (show (P0_ go6 ∨ w.heap.size ≤ go6) from (HO_0.out.1 _ rfl)); obtain ⟨hx6_0, hf6_0⟩ := Kd.R_celln (⟨#[]⟩ : ByteArray) HO_0.out (x5_1 : Int) p6 q6; replace p6 := eq_true p6; replace q6 := eq_true q6; obtain ⟨hy9_, hz9_⟩ := Kd.R_celln (⟨#[]⟩ : ByteArray) HO_0.out (x5_1 : Int) (oa_) (oa_); have HP9 := Kd.R_putg HO_0.out (x5_1 : Int) t166) | ((with_reducible refine gate_store (t := 9) (p := 16) rfl ?_); refine store_event (t := 9) (p := 16) (v := ?vo_w10) (w1 := (w8.setCell ⟨go6, (x5_1 : Int).toNat, none⟩ (.string t166))) ?hg ?ho ?hn ?hr ?_; (case ho => rfl); (case hg => rfl); (case hn => rfl); (case hr => first | (go_simp; done) | (go_simp; rfl)); intro w10 hw; have hg : w8.grownBy w10 (some go6) := (by rw [hw]; exact HP9.2); have hp_ : Kd.R Kd.string 9 w10 w0.heap.size (fun k_ => (P0_ k_ ∨ w.heap.size ≤ k_)) (.slice (some ⟨go6, 0, none⟩) x0_1.length co7) y167 := (by rw [hw, Ny167.out]; exact HP9.1); clear HP9; replace HB := Aside0.mk ((by rw [hw]; exact below_set (HB.out) GB6.out : Below w0.heap.size w0 w10)); replace HK := Aside0.mk (Kept.of_grown (S := (fun k_ => P0_ k_)) hg (by repeat (first | (with_reducible first | exact HK.out | apply Kept.alloc | apply Kept.drewN | apply Kept.drew) | exact HK.out)) (fun k_ e_ => (HO_0.out.1 k_ e_))); replace HO_0 := Aside0.mk (hp_); clear hg hw hp_))
   go_roundg k1
   case measure => have := HK1.out; omega
   case rel => exact ⟨(y167), (wrap64 (x1_1 + 1)), (wrap64 (x5_1 + 1)), sr_, sr_, H', ⟨by have := HK1.out; omega⟩, ⟨kr_ HO_0.out⟩, ⟨by repeat (first | (with_reducible first | exact HK.out | apply Kept.alloc | apply Kept.drewN | apply Kept.drew) | exact HK.out)⟩, ⟨hb_⟩⟩

/-! ### laws_markBatchS: function 37 -/
def laws_markBatchS.l0 : Nat → List S43 → Int → Nat → Option (Int × List S43)
 | 0, _, _, _ => none
 | k + 1, x, m, i => if i < x.length then (laws_markStringS.f k (x.getD i z43).f4 (wrap64 ((wrap64 ((wrap64 ((wrap64 (m + 1)) + 1)) + 1)) + 1))).bind fun t => laws_markBatchS.l0 k (x.set i ⟨m, (wrap64 (m + 1)), (wrap64 ((wrap64 (m + 1)) + 1)), (wrap64 ((wrap64 ((wrap64 (m + 1)) + 1)) + 1)), t.2⟩) t.1 (i + 1) else some (m, x)
def laws_markBatchS.f (k : Nat) (l0 : List S43) (a1 : Int) : Option (Int × List S43) := laws_markBatchS.l0 k l0 a1 0
theorem laws_markBatchS.mono_l : ∀ k x m i, LeO (laws_markBatchS.l0 k x m i) (laws_markBatchS.l0 (k + 1) x m i)
 | 0, _, _, _ => fun r h => by simp [laws_markBatchS.l0] at h
 | k + 1, x, m, i => by
  rw [laws_markBatchS.l0, laws_markBatchS.l0]
  exact LeO.ite (LeO.bind (laws_markStringS.mono _ _ _) (fun _ => laws_markBatchS.mono_l k _ _ _)) (LeO.refl _)
theorem laws_markBatchS.mono : ∀ a0 a1 k, LeO (laws_markBatchS.f k a0 a1) (laws_markBatchS.f (k + 1) a0 a1) := fun a0 a1 k => laws_markBatchS.mono_l k a0 a1 0
theorem laws_markBatchS.put {e base g n cap : Nat} {ok oki : Nat → Prop} {W : World} {xs : List S43} {i : Nat} {c : List Value} (h : Kd.H k43 e W base ok (.slice (some ⟨g, 0, none⟩) n cap) xs (i : Int) oki c) (h1 : (i : Int) < n) (j : Nat) (hj : j < 5) (u : Value) (hu : u.oneCell' = true) :
  Kd.H k43 e (W.setCell ⟨g, i * 5 + j, none⟩ u) base ok (.slice (some ⟨g, 0, none⟩) n cap) xs (i : Int) oki (c.take j ++ [u] ++ c.drop (j + 1)) ∧ W.grownBy (W.setCell ⟨g, i * 5 + j, none⟩ u) (some g) :=
 Kd.H_seg h (by omega) h1 (seg := [u]) (j := j) (show j + 1 ≤ 5 from hj) (fun q hq => by rw [List.mem_singleton.1 hq]; exact hu)
set_option maxHeartbeats 8000000 in
set_option maxRecDepth 100000 in
theorem laws_markBatchS.calls (k : Nat) (P0_ : Nat → Prop) (u : Value) (l0 : List S43) (a1 : Int) (r1 : Int) (r2 : List S43) (w0 w : World) (hB : Below w0.heap.size w0 w) (ho0 : Kd.S k43 43 w w0.heap.size P0_ u l0) (h : laws_markBatchS.f k l0 a1 = some (r1, r2)) :
  Calls Try.prog 37 #[u, .int .i64 a1] w fun e w' => e = .returned (.int .i64 r1) ∧ Kd.S k43 43 w' w0.heap.size P0_ u r2 ∧ Below w0.heap.size w0 w' ∧ Kept w w' P0_ := by
 obtain ⟨A, c, rfl, hc0, hC0⟩ := Kd.S_reads ho0
 have hbig : l0.length ≤ 9223372036854775807 := hC0.2.1
 clear hC0
 have HO := Aside0.mk ho0
 have HB := Aside0.mk hB
 have HH := Aside0.mk h
 clear ho0 hB h
 go_enter Try.func37, Try.ntmps37
 go_wp2
 go_loopg [1, 5] k (fun kq v1 v5 wr => ∃ (x : List S43) (m : Int) (i : Nat), v1 = .int .i64 m ∧ v5 = .int .i64 i ∧ i ≤ l0.length ∧ Aside0 (x.length = l0.length) ∧ Aside0 (laws_markBatchS.l0 kq x m i = some (r1, r2)) ∧ Aside0 (kq ≤ k) ∧ Aside0 (Kd.S k43 43 wr w0.heap.size P0_ (.slice A l0.length c) x) ∧ Aside0 (Kept w wr P0_) ∧ Aside0 (Below w0.heap.size w0 wr))
 case atStart => exact ⟨l0, a1, 0, rfl, rfl, Nat.zero_le _, ⟨rfl⟩, HH, ⟨Nat.le_refl _⟩, HO, ⟨Kept.refl _ _⟩, HB⟩
 case round =>
  clear HO HB HH
  obtain ⟨x, m, i, rfl, rfl, hi, HL, HA, HK, HO, HP, HB⟩ := hrel
  cases gk with
  | zero => exact absurd HA.out (by simp [laws_markBatchS.l0])
  | succ k1 =>
   have hA := HA.out
   clear HA
   rw [laws_markBatchS.l0] at hA
   by_cases hlt : i < l0.length
   ·have hltz : (i : Int) < (l0.length : Int) := by omega
    rw [if_pos (by rw [HL.out]; exact hlt)] at hA
    obtain ⟨t, h1, h2⟩ := Option.bind_eq_some_iff.1 hA
    have H1 := Aside0.mk h1
    have H2 := Aside0.mk h2
    clear hA h1 h2
    obtain ⟨g, cap, eg, hgb, _⟩ := Kd.S_form HO.out (by rw [HL.out]; omega)
    injection eg with eg1 eg2 eg3
    subst eg1
    clear eg2 eg3
    have HGB := Aside0.mk hgb
    have HPG := Aside0.mk ((Kd.S_R HO.out).1 g (by simp [Value.ownBlock]))
    clear hgb
    obtain ⟨oki, cs, _, hM, hcc, hfr, hoki, hH⟩ := Kd.S_elem HO.out z43 (i : Int) (by omega) hltz
    rw [Int.toNat_natCast] at hM
    obtain ⟨ve, rfl, ge⟩ := k43_openM hM
    clear hM
    obtain ⟨Ai, ci, rfl⟩ := Kd.R_slice ge
    have hci : ∀ j u_, j < 5 → [.int .i64 (x.getD i z43).f0, .int .i64 (x.getD i z43).f1, .int .i64 (x.getD i z43).f2, .int .i64 (x.getD i z43).f3, .slice Ai (x.getD i z43).f4.length ci][j]? = some u_ → wr.cell? ⟨g, i * 5 + j, none⟩ = some u_ := fun j u_ _ hu => hcc j u_ hu
    have hfi : ∀ j, wr.frozen? ⟨g, i * 5 + j, none⟩ = false := fun j => hfr (i * 5 + j) |> fun h_ => by first | exact h_ | exact hfr j
    have GE := Aside0.mk ge
    have HI := Aside0.mk hH
    have HQ := Aside0.mk hoki
    clear hcc hfr hH ge hoki
    have hc0 : wr.cell? ⟨g, i * 5, none⟩ = some (.int .i64 (x.getD i z43).f0) := hci 0 _ (by decide) rfl
    have hf0 : wr.frozen? ⟨g, i * 5, none⟩ = false := hfi 0
    have hc1 : wr.cell? ⟨g, i * 5 + 1, none⟩ = some (.int .i64 (x.getD i z43).f1) := hci 1 _ (by decide) rfl
    have hf1 : wr.frozen? ⟨g, i * 5 + 1, none⟩ = false := hfi 1
    have hc2 : wr.cell? ⟨g, i * 5 + 2, none⟩ = some (.int .i64 (x.getD i z43).f2) := hci 2 _ (by decide) rfl
    have hf2 : wr.frozen? ⟨g, i * 5 + 2, none⟩ = false := hfi 2
    have hc3 : wr.cell? ⟨g, i * 5 + 3, none⟩ = some (.int .i64 (x.getD i z43).f3) := hci 3 _ (by decide) rfl
    have hf3 : wr.frozen? ⟨g, i * 5 + 3, none⟩ = false := hfi 3
    have hc4 : wr.cell? ⟨g, i * 5 + 4, none⟩ = some (.slice Ai (x.getD i z43).f4.length ci) := hci 4 _ (by decide) rfl
    clear hci hfi
    go_wp2_with fail
    have P0 := laws_markBatchS.put HI.out hltz 0 (by decide) (.int .i64 m) rfl
    have P1 := laws_markBatchS.put P0.1 hltz 1 (by decide) (.int .i64 (wrap64 (m + 1))) rfl
    have P2 := laws_markBatchS.put P1.1 hltz 2 (by decide) (.int .i64 (wrap64 ((wrap64 (m + 1)) + 1))) rfl
    have P3 := laws_markBatchS.put P2.1 hltz 3 (by decide) (.int .i64 (wrap64 ((wrap64 ((wrap64 (m + 1)) + 1)) + 1))) rfl
    have HG := Aside0.mk (show wr.grownBy _ (some g) from (World.grownBy.trans (World.grownBy.trans (World.grownBy.trans P0.2 P1.2) P2.2) P3.2))
    have HI2 := Aside0.mk P3.1
    clear P0 P1 P2 P3
    refine (laws_markStringS.calls k1 oki (.slice Ai (x.getD i z43).f4.length ci) (x.getD i z43).f4 (wrap64 ((wrap64 ((wrap64 ((wrap64 (m + 1)) + 1)) + 1)) + 1)) t.1 t.2 w0 _ (pw_below_grown HB.out (some g) HB.out.size HG.out (fun k_ e_ => by obtain rfl := Option.some.inj e_; exact HGB.out)) (Kd.R_grown GE.out HG.out (fun k_ hk_ e_ => (HQ.out k_ hk_).2 (Option.some.inj e_))) H1.out).mono ?_
    rintro e w2 ⟨rfl, hy, hb2, hkp⟩
    have HY := Aside0.mk hy
    have HB2 := Aside0.mk hb2
    have HKP := Aside0.mk hkp
    clear hy hb2 hkp
    have HS := Aside0.mk (Kd.H_back (Kd.H_step HI2.out (fun k_ _ hn hlt_ => HKP.out.2 k_ hlt_ hn)) (x' := ⟨m, (wrap64 (m + 1)), (wrap64 ((wrap64 (m + 1)) + 1)), (wrap64 ((wrap64 ((wrap64 (m + 1)) + 1)) + 1)), t.2⟩) (okp := oki) (k43_mkM w2 w0.heap.size oki ⟨m, (wrap64 (m + 1)), (wrap64 ((wrap64 (m + 1)) + 1)), (wrap64 ((wrap64 ((wrap64 (m + 1)) + 1)) + 1)), t.2⟩ (Kd.R_reok rfl HY.out (fun k_ e_ => GE.out.1 k_ e_))) (fun _ h_ => h_))
    have HP2 := Aside0.mk (Kept.then_ (Kept.of_grown HG.out HP.out (fun k_ e_ => .inl (by obtain rfl := Option.some.inj e_; exact HPG.out))) HKP.out (fun k_ h_ => .inl (HQ.out k_ h_).1))
    clear HI HI2 HY HKP GE HP HB HO HQ HG HPG HGB
    go_wp2_with fail
    go_roundg k1
    case measure => have := HK.out; omega
    case rel => exact ⟨x.set i ⟨m, (wrap64 (m + 1)), (wrap64 ((wrap64 (m + 1)) + 1)), (wrap64 ((wrap64 ((wrap64 (m + 1)) + 1)) + 1)), t.2⟩, t.1, i + 1, rfl, by go_num, by omega, ⟨by rw [List.length_set]; exact HL.out⟩, H2, ⟨by have := HK.out; omega⟩, HS, HP2, HB2⟩
   ·have hltz : ¬ (i : Int) < (l0.length : Int) := by omega
    have hil : i = l0.length := by omega
    subst hil
    rw [if_neg (by rw [HL.out]; omega)] at hA
    have H2 := Aside0.mk (Prod.mk.inj (Option.some.inj hA))
    clear hA
    go_wp2
    go_ret
    exact ⟨by rw [H2.out.1]; rfl, by rw [← H2.out.2]; exact HO.out, HB.out, HP.out⟩
/-! ### laws_heldStringS: function 79 -/
def laws_heldStringS.l0 : Nat → List ByteArray → Int → Int → Option (Int)
 | 0, _, _, _ => none
 | k + 1, x0, x1, x5 => if x5 < (x0.length : Int) then (if 0 ≤ x5 then ((laws_markText.f k x1).bind fun t169 => (if (rdOf ByteArray.empty x0 x5).toList = t169.toList then (laws_heldStringS.l0 k x0 (wrap64 (x1 + 1)) (wrap64 (x5 + 1))) else (some (-1)))) else (none)) else (some x1)
def laws_heldStringS.f (k : Nat) (l0 : List ByteArray) (a1 : Int) : Option (Int) := laws_heldStringS.l0 k l0 a1 0
theorem laws_heldStringS.mono_l : ∀ k, (∀ y0 y1 y2, LeO (laws_heldStringS.l0 k y0 y1 y2) (laws_heldStringS.l0 (k + 1) y0 y1 y2))
 | 0 => fun _ _ _ r h => by simp [laws_heldStringS.l0] at h
 | k + 1 => by
  have ih0 := laws_heldStringS.mono_l k
  ·intro y0 y1 y2
   unfold laws_heldStringS.l0
   repeat' first
   | (with_reducible first | apply ih0 | apply laws_markText.mono | exact LeO.refl _ | exact LeO.none _ | refine LeO.ite ?_ ?_ | refine LeO.bind ?_ (fun _ => ?_))
theorem laws_heldStringS.mono : ∀ a0 a1 k, LeO (laws_heldStringS.f k a0 a1) (laws_heldStringS.f (k + 1) a0 a1) := by
 intro a0 a1 k
 have ih0 := laws_heldStringS.mono_l k
 unfold laws_heldStringS.f
 repeat' first
   | (with_reducible first | apply ih0 | apply laws_markText.mono | exact LeO.refl _ | exact LeO.none _ | refine LeO.ite ?_ ?_ | refine LeO.bind ?_ (fun _ => ?_))
set_option maxHeartbeats 8000000 in
set_option maxRecDepth 100000 in
theorem laws_heldStringS.calls (k : Nat) (A0 : Option Addr) (c0 : Nat) (l0 : List ByteArray) (a1 : Int) (r : Int) (w : World) (hr0 : Kd.C Kd.string w A0 l0.length l0) (hc0 : l0.length ≤ c0) (h : laws_heldStringS.f k l0 a1 = some r) :
  Calls Try.prog 79 #[.slice A0 l0.length c0, .int .i64 a1] w fun e w' => e = .returned (.int .i64 r) ∧ Below w.heap.size w w' := by
 have HR0 := Aside0.mk hr0
 have HC0 := Aside0.mk hc0
 clear hr0 hc0
 have HB := Aside0.mk (Below.refl w.heap.size w)
 have H : (laws_heldStringS.l0 k l0 a1 0) = some r := h
 clear h
 have H' := Aside0.mk H
 clear H
 go_enter Try.func79, Try.ntmps79
 go_wp2
 go_loopg [1, 5] k (fun kq v1 v5 w' => ∃ (x1_1 : Int) (x5_1 : Int), v1 = .int .i64 x1_1 ∧ v5 = .int .i64 x5_1 ∧ Aside0 (laws_heldStringS.l0 kq l0 x1_1 x5_1 = some r) ∧ Aside0 (kq ≤ k) ∧ Aside0 (Below w.heap.size w w'))
 case atStart => exact ⟨(a1), (0), sr_, sr_, H', ⟨Nat.le_refl _⟩, ⟨hb_⟩⟩
 case round =>
  clear H'
  obtain ⟨x1_1, x5_1, rfl, rfl, HA, HK1, HB⟩ := hrel
  cases gk with
  | zero => exact absurd HA.out (by simp [laws_heldStringS.l0])
  | succ k1 =>
   have H := HA.out
   clear HA
   simp only [laws_heldStringS.l0] at H
   replace H := ite_ H
   obtain ⟨c3, H⟩ | ⟨c3, H⟩ := H
   rotate_left
   ·have c3b0 := decide_eq_false c3
    clear c3
    obtain rfl := Option.some.inj H
    go_wp2
    go_ret
    exact ⟨er_, hb_⟩
   have c3b0 := decide_eq_true c3
   clear c3
   replace H := ifs_ H
   obtain ⟨c4, H⟩ := H
   have c4b0 := decide_eq_true c4
   clear c4
   replace H := bnd_ H
   obtain ⟨t169, A5, H⟩ := H
   replace H := ite_ H
   obtain ⟨c6, H⟩ | ⟨c6, H⟩ := H
   rotate_left
   ·have c6b0 : ((rdOf ByteArray.empty l0 x5_1).toList == t169.toList) = false := beq_eq_false_iff_ne.mpr c6
    have c6b1 : ((rdOf ByteArray.empty l0 x5_1).toList != t169.toList) = true := bne_iff_ne.mpr c6
    obtain rfl := Option.some.inj H
    try go_wp2
    replace HB := qH_ HB
    have p168 : 0 ≤ (x5_1 : Int) := oa_
    have q168 : x5_1 < (l0.length : Int) := oa_
    obtain ⟨ad168, e168, hx168_0⟩ := Kd.at_string HR0.out x5_1 p168 q168
    have hw168_0 := hx168_0
    cases e168
    replace hx168_0 := pc_ HB.out hx168_0
    replace p168 := eq_true p168
    replace q168 := eq_true q168
    refine start_ (n := 7) (S := fun w' => w'.cell? (ad168.add (x5_1).toNat) = some (.string (rdOf ByteArray.empty l0 x5_1))) (ds := []) #[false, false, false, false, false, false, false] (by kernel_rfl) rfl rfl ((pc_ HB.out hw168_0)) (fun hHeld => ?_)
    generalize wr.drew = w9 at HB hx168_0 hHeld ⊢
    refine pure_ (i := 0) (N := some 12) (v := ?_) (a' := ?_) #[true, false, false, false, false, false, false] rfl rfl (by kernel_rfl) (fun _ _ _ h => h) (Or.inl ⟨by rfl, ?_⟩) ?_ ?_
    rotate_left
    ·intro w'
     go_simp
     with_reducible rfl
    rotate_left
    ·simp only [Act.put, List.setIfInBounds_toArray, List.set_cons_zero, List.set_cons_succ, i64_w, i32_w]
     rfl
    refine pure_ (i := 1) (N := some 13) (v := ?_) (a' := ?_) #[true, true, false, false, false, false, false] rfl rfl (by kernel_rfl) (fun _ _ _ h => h) (Or.inl ⟨by rfl, ?_⟩) ?_ ?_
    rotate_left
    ·intro w'
     go_simp
     with_reducible rfl
    rotate_left
    ·simp only [Act.put, List.setIfInBounds_toArray, List.set_cons_zero, List.set_cons_succ, i64_w, i32_w]
     rfl
    refine pure_ (i := 2) (N := some 14) (v := ?_) (a' := ?_) #[true, true, true, false, false, false, false] rfl rfl (by kernel_rfl) (fun _ _ _ h => h) (Or.inl ⟨by rfl, ?_⟩) ?_ ?_
    rotate_left
    ·intro w'
     go_simp
     with_reducible rfl
    rotate_left
    ·simp only [Act.put, List.setIfInBounds_toArray, List.set_cons_zero, List.set_cons_succ, i64_w, i32_w]
     rfl
    refine pure_ (i := 4) (N := some 16) (v := ?_) (a' := ?_) #[true, true, true, false, true, false, false] rfl rfl (by kernel_rfl) (fun _ _ _ h => h) (Or.inl ⟨by rfl, ?_⟩) ?_ ?_
    rotate_left
    ·intro w'
     go_simp
     with_reducible rfl
    rotate_left
    ·simp only [Act.put, List.setIfInBounds_toArray, List.set_cons_zero, List.set_cons_succ, i64_w, i32_w]
     rfl
    refine take_ (i := 3) (N := some 15) (v := ?_) (a' := ?_) #[true, true, true, true, true, false, false] rfl rfl (by kernel_rfl) (fun _ _ _ h => h) (Or.inl ⟨by rfl, ?_⟩) hHeld ?_ ?_
    rotate_left
    ·intro w' s0
     go_simp
     with_reducible rfl
    rotate_left
    ·simp only [Act.put, List.setIfInBounds_toArray, List.set_cons_zero, List.set_cons_succ, i64_w, i32_w]
     rfl
    refine one_ (i := 5) (N := some 17) #[true, true, true, true, true, true, false] rfl rfl (by kernel_rfl) (by decide) (fun K hK => ?_)
    refine gs_ Try.func85 #[.int .i64 x1_1] rfl ma_ ?_
    with_reducible refine (laws_markText.calls k1 x1_1 t169 _ A5.out).mono ?_
    rintro e w10 ⟨rfl, hb⟩
    refine ⟨_, rfl, ?_⟩
    replace HB := nb_ hb
    (try clear hb)
    (try clear hb2)
    (try clear hk)
    (try clear hi)
    refine hK.out _ _ ((pc_ HB.out hw168_0)) (fun hHeld => ?_)
    clear hK K
    refine no_ ?_
    refine pure_ (i := 6) (N := some 18) (v := ?_) (a' := ?_) #[true, true, true, true, true, true, true] rfl rfl (by kernel_rfl) (fun _ _ _ h => h) (Or.inl ⟨by rfl, ?_⟩) ?_ ?_
    rotate_left
    ·intro w'
     go_simp
     with_reducible rfl
    rotate_left
    ·simp only [Act.put, List.setIfInBounds_toArray, List.set_cons_zero, List.set_cons_succ, i64_w, i32_w]
     rfl
    refine done_ (by kernel_rfl) ?_
    try go_wp2
    go_ret
    exact ⟨er_, hb_⟩
   have c6b0 : ((rdOf ByteArray.empty l0 x5_1).toList == t169.toList) = true := beq_iff_eq.mpr c6
   have c6b1 : ((rdOf ByteArray.empty l0 x5_1).toList != t169.toList) = false := bne_eq_false_iff_eq.mpr c6
   clear c6
   have H' := Aside0.mk H
   clear H
   try go_wp2
   replace HB := qH_ HB
   have p168 : 0 ≤ (x5_1 : Int) := oa_
   have q168 : x5_1 < (l0.length : Int) := oa_
   obtain ⟨ad168, e168, hx168_0⟩ := Kd.at_string HR0.out x5_1 p168 q168
   have hw168_0 := hx168_0
   cases e168
   replace hx168_0 := pc_ HB.out hx168_0
   replace p168 := eq_true p168
   replace q168 := eq_true q168
   refine start_ (n := 7) (S := fun w' => w'.cell? (ad168.add (x5_1).toNat) = some (.string (rdOf ByteArray.empty l0 x5_1))) (ds := []) #[false, false, false, false, false, false, false] (by kernel_rfl) rfl rfl ((pc_ HB.out hw168_0)) (fun hHeld => ?_)
   generalize wr.drew = w7 at HB hx168_0 hHeld ⊢
   refine pure_ (i := 0) (N := some 12) (v := ?_) (a' := ?_) #[true, false, false, false, false, false, false] rfl rfl (by kernel_rfl) (fun _ _ _ h => h) (Or.inl ⟨by rfl, ?_⟩) ?_ ?_
   rotate_left
   ·intro w'
    go_simp
    with_reducible rfl
   rotate_left
   ·simp only [Act.put, List.setIfInBounds_toArray, List.set_cons_zero, List.set_cons_succ, i64_w, i32_w]
    rfl
   refine pure_ (i := 1) (N := some 13) (v := ?_) (a' := ?_) #[true, true, false, false, false, false, false] rfl rfl (by kernel_rfl) (fun _ _ _ h => h) (Or.inl ⟨by rfl, ?_⟩) ?_ ?_
   rotate_left
   ·intro w'
    go_simp
    with_reducible rfl
   rotate_left
   ·simp only [Act.put, List.setIfInBounds_toArray, List.set_cons_zero, List.set_cons_succ, i64_w, i32_w]
    rfl
   refine pure_ (i := 2) (N := some 14) (v := ?_) (a' := ?_) #[true, true, true, false, false, false, false] rfl rfl (by kernel_rfl) (fun _ _ _ h => h) (Or.inl ⟨by rfl, ?_⟩) ?_ ?_
   rotate_left
   ·intro w'
    go_simp
    with_reducible rfl
   rotate_left
   ·simp only [Act.put, List.setIfInBounds_toArray, List.set_cons_zero, List.set_cons_succ, i64_w, i32_w]
    rfl
   refine pure_ (i := 4) (N := some 16) (v := ?_) (a' := ?_) #[true, true, true, false, true, false, false] rfl rfl (by kernel_rfl) (fun _ _ _ h => h) (Or.inl ⟨by rfl, ?_⟩) ?_ ?_
   rotate_left
   ·intro w'
    go_simp
    with_reducible rfl
   rotate_left
   ·simp only [Act.put, List.setIfInBounds_toArray, List.set_cons_zero, List.set_cons_succ, i64_w, i32_w]
    rfl
   refine take_ (i := 3) (N := some 15) (v := ?_) (a' := ?_) #[true, true, true, true, true, false, false] rfl rfl (by kernel_rfl) (fun _ _ _ h => h) (Or.inl ⟨by rfl, ?_⟩) hHeld ?_ ?_
   rotate_left
   ·intro w' s0
    go_simp
    with_reducible rfl
   rotate_left
   ·simp only [Act.put, List.setIfInBounds_toArray, List.set_cons_zero, List.set_cons_succ, i64_w, i32_w]
    rfl
   refine one_ (i := 5) (N := some 17) #[true, true, true, true, true, true, false] rfl rfl (by kernel_rfl) (by decide) (fun K hK => ?_)
   refine gs_ Try.func85 #[.int .i64 x1_1] rfl ma_ ?_
   with_reducible refine (laws_markText.calls k1 x1_1 t169 _ A5.out).mono ?_
   rintro e w8 ⟨rfl, hb⟩
   refine ⟨_, rfl, ?_⟩
   replace HB := nb_ hb
   (try clear hb)
   (try clear hb2)
   (try clear hk)
   (try clear hi)
   refine hK.out _ _ ((pc_ HB.out hw168_0)) (fun hHeld => ?_)
   clear hK K
   refine no_ ?_
   refine pure_ (i := 6) (N := some 18) (v := ?_) (a' := ?_) #[true, true, true, true, true, true, true] rfl rfl (by kernel_rfl) (fun _ _ _ h => h) (Or.inl ⟨by rfl, ?_⟩) ?_ ?_
   rotate_left
   ·intro w'
    go_simp
    with_reducible rfl
   rotate_left
   ·simp only [Act.put, List.setIfInBounds_toArray, List.set_cons_zero, List.set_cons_succ, i64_w, i32_w]
    rfl
   refine done_ (by kernel_rfl) ?_
   try go_wp2
   go_roundg k1
   case measure => have := HK1.out; omega
   case rel => exact ⟨(wrap64 (x1_1 + 1)), (wrap64 (x5_1 + 1)), sr_, sr_, H', ⟨by have := HK1.out; omega⟩, ⟨hb_⟩⟩

/-! ### laws_heldBatchS: function 38 -/
def laws_heldBatchS.l0 : Nat → List (S43) → Int → Int → Option (Int)
 | 0, _, _, _ => none
 | k + 1, x0, x1, x5 => if x5 < (x0.length : Int) then (if 0 ≤ x5 then (if ((rd_T43 x0 x5).f0) = x1 then (if ((rd_T43 x0 x5).f1) = (wrap64 (x1 + 1)) then (if ((rd_T43 x0 x5).f2) = (wrap64 ((wrap64 (x1 + 1)) + 1)) then (if ((rd_T43 x0 x5).f3) = (wrap64 ((wrap64 ((wrap64 (x1 + 1)) + 1)) + 1)) then ((laws_heldStringS.f k ((rd_T43 x0 x5).f4) (wrap64 ((wrap64 ((wrap64 ((wrap64 (x1 + 1)) + 1)) + 1)) + 1))).bind fun t175 => (if t175 < 0 then (some (-1)) else (laws_heldBatchS.l0 k x0 t175 (wrap64 (x5 + 1))))) else (some (-1))) else (some (-1))) else (some (-1))) else (some (-1))) else (none)) else (some x1)
def laws_heldBatchS.f (k : Nat) (l0 : List (S43)) (a1 : Int) : Option (Int) := laws_heldBatchS.l0 k l0 a1 0
theorem laws_heldBatchS.mono_l : ∀ k, (∀ y0 y1 y2, LeO (laws_heldBatchS.l0 k y0 y1 y2) (laws_heldBatchS.l0 (k + 1) y0 y1 y2))
 | 0 => fun _ _ _ r h => by simp [laws_heldBatchS.l0] at h
 | k + 1 => by
  have ih0 := laws_heldBatchS.mono_l k
  ·intro y0 y1 y2
   unfold laws_heldBatchS.l0
   repeat' first
   | (with_reducible first | apply ih0 | apply laws_heldStringS.mono | exact LeO.refl _ | exact LeO.none _ | refine LeO.ite ?_ ?_ | refine LeO.bind ?_ (fun _ => ?_))
theorem laws_heldBatchS.mono : ∀ a0 a1 k, LeO (laws_heldBatchS.f k a0 a1) (laws_heldBatchS.f (k + 1) a0 a1) := by
 intro a0 a1 k
 have ih0 := laws_heldBatchS.mono_l k
 unfold laws_heldBatchS.f
 repeat' first
   | (with_reducible first | apply ih0 | apply laws_heldStringS.mono | exact LeO.refl _ | exact LeO.none _ | refine LeO.ite ?_ ?_ | refine LeO.bind ?_ (fun _ => ?_))
set_option maxHeartbeats 8000000 in
set_option maxRecDepth 100000 in
theorem laws_heldBatchS.calls (k : Nat) (A0 : Option Addr) (c0 : Nat) (l0 : List (S43)) (a1 : Int) (r : Int) (w : World) (hr0 : Kd.C k43 w A0 l0.length l0) (hc0 : l0.length ≤ c0) (h : laws_heldBatchS.f k l0 a1 = some r) :
  Calls Try.prog 38 #[.slice A0 l0.length c0, .int .i64 a1] w fun e w' => e = .returned (.int .i64 r) ∧ Below w.heap.size w w' := by
 have HR0 := Aside0.mk hr0
 have HC0 := Aside0.mk hc0
 clear hr0 hc0
 have HB := Aside0.mk (Below.refl w.heap.size w)
 have H : (laws_heldBatchS.l0 k l0 a1 0) = some r := h
 clear h
 have H' := Aside0.mk H
 clear H
 go_enter Try.func38, Try.ntmps38
 go_wp2
 go_loopg [1, 5] k (fun kq v1 v5 w' => ∃ (x1_1 : Int) (x5_1 : Int), v1 = .int .i64 x1_1 ∧ v5 = .int .i64 x5_1 ∧ Aside0 (laws_heldBatchS.l0 kq l0 x1_1 x5_1 = some r) ∧ Aside0 (kq ≤ k) ∧ Aside0 (Below w.heap.size w w'))
 case atStart => exact ⟨(a1), (0), sr_, sr_, H', ⟨Nat.le_refl _⟩, ⟨hb_⟩⟩
 case round =>
  clear H'
  obtain ⟨x1_1, x5_1, rfl, rfl, HA, HK1, HB⟩ := hrel
  cases gk with
  | zero => exact absurd HA.out (by simp [laws_heldBatchS.l0])
  | succ k1 =>
   have H := HA.out
   clear HA
   simp only [laws_heldBatchS.l0] at H
   replace H := ite_ H
   obtain ⟨c3, H⟩ | ⟨c3, H⟩ := H
   rotate_left
   ·have c3b0 := decide_eq_false c3
    clear c3
    obtain rfl := Option.some.inj H
    go_wp2
    go_ret
    exact ⟨er_, hb_⟩
   have c3b0 := decide_eq_true c3
   clear c3
   replace H := ifs_ H
   obtain ⟨c4, H⟩ := H
   have c4b0 := decide_eq_true c4
   clear c4
   replace H := ite_ H
   obtain ⟨c5, H⟩ | ⟨c5, H⟩ := H
   rotate_left
   ·have c5b0 : (((rd_T43 l0 x5_1).f0) == x1_1) = false := beq_eq_false_iff_ne.mpr c5
    have c5b1 : (((rd_T43 l0 x5_1).f0) != x1_1) = true := bne_iff_ne.mpr c5
    obtain rfl := Option.some.inj H
    have p170 : 0 ≤ (x5_1 : Int) := oa_
    have q170 : x5_1 < (l0.length : Int) := oa_
    obtain ⟨ad170, A170_4, c170_4, e170, hx170_0, hx170_1, hx170_2, hx170_3, hx170_4, hl170_4, hi170_4⟩ := at_T43 HR0.out x5_1 p170 q170
    cases e170
    replace hx170_0 := pc_ HB.out hx170_0
    replace hx170_1 := pc_ HB.out hx170_1
    replace hx170_2 := pc_ HB.out hx170_2
    replace hx170_3 := pc_ HB.out hx170_3
    replace hx170_4 := pc_ HB.out hx170_4
    have HR170_4 := Aside0.mk hi170_4
    have HC170_4 := Aside0.mk hl170_4
    clear hi170_4 hl170_4
    replace p170 := eq_true p170
    replace q170 := eq_true q170
    go_wp2
    go_ret
    exact ⟨er_, hb_⟩
   have c5b0 : (((rd_T43 l0 x5_1).f0) == x1_1) = true := beq_iff_eq.mpr c5
   have c5b1 : (((rd_T43 l0 x5_1).f0) != x1_1) = false := bne_eq_false_iff_eq.mpr c5
   clear c5
   replace H := ite_ H
   obtain ⟨c6, H⟩ | ⟨c6, H⟩ := H
   rotate_left
   ·have c6b0 : (((rd_T43 l0 x5_1).f1) == (wrap64 (x1_1 + 1))) = false := beq_eq_false_iff_ne.mpr c6
    have c6b1 : (((rd_T43 l0 x5_1).f1) != (wrap64 (x1_1 + 1))) = true := bne_iff_ne.mpr c6
    obtain rfl := Option.some.inj H
    have p170 : 0 ≤ (x5_1 : Int) := oa_
    have q170 : x5_1 < (l0.length : Int) := oa_
    obtain ⟨ad170, A170_4, c170_4, e170, hx170_0, hx170_1, hx170_2, hx170_3, hx170_4, hl170_4, hi170_4⟩ := at_T43 HR0.out x5_1 p170 q170
    cases e170
    replace hx170_0 := pc_ HB.out hx170_0
    replace hx170_1 := pc_ HB.out hx170_1
    replace hx170_2 := pc_ HB.out hx170_2
    replace hx170_3 := pc_ HB.out hx170_3
    replace hx170_4 := pc_ HB.out hx170_4
    have HR170_4 := Aside0.mk hi170_4
    have HC170_4 := Aside0.mk hl170_4
    clear hi170_4 hl170_4
    replace p170 := eq_true p170
    replace q170 := eq_true q170
    have p171 : 0 ≤ (x5_1 : Int) := oa_
    have q171 : x5_1 < (l0.length : Int) := oa_
    obtain ⟨ad171, A171_4, c171_4, e171, hx171_0, hx171_1, hx171_2, hx171_3, hx171_4, hl171_4, hi171_4⟩ := at_T43 HR0.out x5_1 p171 q171
    obtain rfl : ad170 = ad171 := (by injection e171)
    replace hx171_0 := pc_ HB.out hx171_0
    replace hx171_1 := pc_ HB.out hx171_1
    replace hx171_2 := pc_ HB.out hx171_2
    replace hx171_3 := pc_ HB.out hx171_3
    replace hx171_4 := pc_ HB.out hx171_4
    have HR171_4 := Aside0.mk hi171_4
    have HC171_4 := Aside0.mk hl171_4
    clear hi171_4 hl171_4
    replace p171 := eq_true p171
    replace q171 := eq_true q171
    have ea_ := Option.some.inj (hx170_4.symm.trans hx171_4)
    injection ea_ with ea_ en_ ec_
    subst ea_
    subst ec_
    clear en_
    go_wp2
    go_ret
    exact ⟨er_, hb_⟩
   have c6b0 : (((rd_T43 l0 x5_1).f1) == (wrap64 (x1_1 + 1))) = true := beq_iff_eq.mpr c6
   have c6b1 : (((rd_T43 l0 x5_1).f1) != (wrap64 (x1_1 + 1))) = false := bne_eq_false_iff_eq.mpr c6
   clear c6
   replace H := ite_ H
   obtain ⟨c7, H⟩ | ⟨c7, H⟩ := H
   rotate_left
   ·have c7b0 : (((rd_T43 l0 x5_1).f2) == (wrap64 ((wrap64 (x1_1 + 1)) + 1))) = false := beq_eq_false_iff_ne.mpr c7
    have c7b1 : (((rd_T43 l0 x5_1).f2) != (wrap64 ((wrap64 (x1_1 + 1)) + 1))) = true := bne_iff_ne.mpr c7
    obtain rfl := Option.some.inj H
    have p170 : 0 ≤ (x5_1 : Int) := oa_
    have q170 : x5_1 < (l0.length : Int) := oa_
    obtain ⟨ad170, A170_4, c170_4, e170, hx170_0, hx170_1, hx170_2, hx170_3, hx170_4, hl170_4, hi170_4⟩ := at_T43 HR0.out x5_1 p170 q170
    cases e170
    replace hx170_0 := pc_ HB.out hx170_0
    replace hx170_1 := pc_ HB.out hx170_1
    replace hx170_2 := pc_ HB.out hx170_2
    replace hx170_3 := pc_ HB.out hx170_3
    replace hx170_4 := pc_ HB.out hx170_4
    have HR170_4 := Aside0.mk hi170_4
    have HC170_4 := Aside0.mk hl170_4
    clear hi170_4 hl170_4
    replace p170 := eq_true p170
    replace q170 := eq_true q170
    have p171 : 0 ≤ (x5_1 : Int) := oa_
    have q171 : x5_1 < (l0.length : Int) := oa_
    obtain ⟨ad171, A171_4, c171_4, e171, hx171_0, hx171_1, hx171_2, hx171_3, hx171_4, hl171_4, hi171_4⟩ := at_T43 HR0.out x5_1 p171 q171
    obtain rfl : ad170 = ad171 := (by injection e171)
    replace hx171_0 := pc_ HB.out hx171_0
    replace hx171_1 := pc_ HB.out hx171_1
    replace hx171_2 := pc_ HB.out hx171_2
    replace hx171_3 := pc_ HB.out hx171_3
    replace hx171_4 := pc_ HB.out hx171_4
    have HR171_4 := Aside0.mk hi171_4
    have HC171_4 := Aside0.mk hl171_4
    clear hi171_4 hl171_4
    replace p171 := eq_true p171
    replace q171 := eq_true q171
    have ea_ := Option.some.inj (hx170_4.symm.trans hx171_4)
    injection ea_ with ea_ en_ ec_
    subst ea_
    subst ec_
    clear en_
    have p172 : 0 ≤ (x5_1 : Int) := oa_
    have q172 : x5_1 < (l0.length : Int) := oa_
    obtain ⟨ad172, A172_4, c172_4, e172, hx172_0, hx172_1, hx172_2, hx172_3, hx172_4, hl172_4, hi172_4⟩ := at_T43 HR0.out x5_1 p172 q172
    obtain rfl : ad170 = ad172 := (by injection e172)
    replace hx172_0 := pc_ HB.out hx172_0
    replace hx172_1 := pc_ HB.out hx172_1
    replace hx172_2 := pc_ HB.out hx172_2
    replace hx172_3 := pc_ HB.out hx172_3
    replace hx172_4 := pc_ HB.out hx172_4
    have HR172_4 := Aside0.mk hi172_4
    have HC172_4 := Aside0.mk hl172_4
    clear hi172_4 hl172_4
    replace p172 := eq_true p172
    replace q172 := eq_true q172
    have ea_ := Option.some.inj (hx170_4.symm.trans hx172_4)
    injection ea_ with ea_ en_ ec_
    subst ea_
    subst ec_
    clear en_
    go_wp2
    go_ret
    exact ⟨er_, hb_⟩
   have c7b0 : (((rd_T43 l0 x5_1).f2) == (wrap64 ((wrap64 (x1_1 + 1)) + 1))) = true := beq_iff_eq.mpr c7
   have c7b1 : (((rd_T43 l0 x5_1).f2) != (wrap64 ((wrap64 (x1_1 + 1)) + 1))) = false := bne_eq_false_iff_eq.mpr c7
   clear c7
   replace H := ite_ H
   obtain ⟨c8, H⟩ | ⟨c8, H⟩ := H
   rotate_left
   ·have c8b0 : (((rd_T43 l0 x5_1).f3) == (wrap64 ((wrap64 ((wrap64 (x1_1 + 1)) + 1)) + 1))) = false := beq_eq_false_iff_ne.mpr c8
    have c8b1 : (((rd_T43 l0 x5_1).f3) != (wrap64 ((wrap64 ((wrap64 (x1_1 + 1)) + 1)) + 1))) = true := bne_iff_ne.mpr c8
    obtain rfl := Option.some.inj H
    have p170 : 0 ≤ (x5_1 : Int) := oa_
    have q170 : x5_1 < (l0.length : Int) := oa_
    obtain ⟨ad170, A170_4, c170_4, e170, hx170_0, hx170_1, hx170_2, hx170_3, hx170_4, hl170_4, hi170_4⟩ := at_T43 HR0.out x5_1 p170 q170
    cases e170
    replace hx170_0 := pc_ HB.out hx170_0
    replace hx170_1 := pc_ HB.out hx170_1
    replace hx170_2 := pc_ HB.out hx170_2
    replace hx170_3 := pc_ HB.out hx170_3
    replace hx170_4 := pc_ HB.out hx170_4
    have HR170_4 := Aside0.mk hi170_4
    have HC170_4 := Aside0.mk hl170_4
    clear hi170_4 hl170_4
    replace p170 := eq_true p170
    replace q170 := eq_true q170
    have p171 : 0 ≤ (x5_1 : Int) := oa_
    have q171 : x5_1 < (l0.length : Int) := oa_
    obtain ⟨ad171, A171_4, c171_4, e171, hx171_0, hx171_1, hx171_2, hx171_3, hx171_4, hl171_4, hi171_4⟩ := at_T43 HR0.out x5_1 p171 q171
    obtain rfl : ad170 = ad171 := (by injection e171)
    replace hx171_0 := pc_ HB.out hx171_0
    replace hx171_1 := pc_ HB.out hx171_1
    replace hx171_2 := pc_ HB.out hx171_2
    replace hx171_3 := pc_ HB.out hx171_3
    replace hx171_4 := pc_ HB.out hx171_4
    have HR171_4 := Aside0.mk hi171_4
    have HC171_4 := Aside0.mk hl171_4
    clear hi171_4 hl171_4
    replace p171 := eq_true p171
    replace q171 := eq_true q171
    have ea_ := Option.some.inj (hx170_4.symm.trans hx171_4)
    injection ea_ with ea_ en_ ec_
    subst ea_
    subst ec_
    clear en_
    have p172 : 0 ≤ (x5_1 : Int) := oa_
    have q172 : x5_1 < (l0.length : Int) := oa_
    obtain ⟨ad172, A172_4, c172_4, e172, hx172_0, hx172_1, hx172_2, hx172_3, hx172_4, hl172_4, hi172_4⟩ := at_T43 HR0.out x5_1 p172 q172
    obtain rfl : ad170 = ad172 := (by injection e172)
    replace hx172_0 := pc_ HB.out hx172_0
    replace hx172_1 := pc_ HB.out hx172_1
    replace hx172_2 := pc_ HB.out hx172_2
    replace hx172_3 := pc_ HB.out hx172_3
    replace hx172_4 := pc_ HB.out hx172_4
    have HR172_4 := Aside0.mk hi172_4
    have HC172_4 := Aside0.mk hl172_4
    clear hi172_4 hl172_4
    replace p172 := eq_true p172
    replace q172 := eq_true q172
    have ea_ := Option.some.inj (hx170_4.symm.trans hx172_4)
    injection ea_ with ea_ en_ ec_
    subst ea_
    subst ec_
    clear en_
    have p173 : 0 ≤ (x5_1 : Int) := oa_
    have q173 : x5_1 < (l0.length : Int) := oa_
    obtain ⟨ad173, A173_4, c173_4, e173, hx173_0, hx173_1, hx173_2, hx173_3, hx173_4, hl173_4, hi173_4⟩ := at_T43 HR0.out x5_1 p173 q173
    obtain rfl : ad170 = ad173 := (by injection e173)
    replace hx173_0 := pc_ HB.out hx173_0
    replace hx173_1 := pc_ HB.out hx173_1
    replace hx173_2 := pc_ HB.out hx173_2
    replace hx173_3 := pc_ HB.out hx173_3
    replace hx173_4 := pc_ HB.out hx173_4
    have HR173_4 := Aside0.mk hi173_4
    have HC173_4 := Aside0.mk hl173_4
    clear hi173_4 hl173_4
    replace p173 := eq_true p173
    replace q173 := eq_true q173
    have ea_ := Option.some.inj (hx170_4.symm.trans hx173_4)
    injection ea_ with ea_ en_ ec_
    subst ea_
    subst ec_
    clear en_
    go_wp2
    go_ret
    exact ⟨er_, hb_⟩
   have c8b0 : (((rd_T43 l0 x5_1).f3) == (wrap64 ((wrap64 ((wrap64 (x1_1 + 1)) + 1)) + 1))) = true := beq_iff_eq.mpr c8
   have c8b1 : (((rd_T43 l0 x5_1).f3) != (wrap64 ((wrap64 ((wrap64 (x1_1 + 1)) + 1)) + 1))) = false := bne_eq_false_iff_eq.mpr c8
   clear c8
   replace H := bnd_ H
   obtain ⟨t175, A9, H⟩ := H
   replace H := ite_ H
   obtain ⟨c10, H⟩ | ⟨c10, H⟩ := H
   ·have c10b0 := decide_eq_true c10
    clear c10
    obtain rfl := Option.some.inj H
    have p170 : 0 ≤ (x5_1 : Int) := oa_
    have q170 : x5_1 < (l0.length : Int) := oa_
    obtain ⟨ad170, A170_4, c170_4, e170, hx170_0, hx170_1, hx170_2, hx170_3, hx170_4, hl170_4, hi170_4⟩ := at_T43 HR0.out x5_1 p170 q170
    cases e170
    replace hx170_0 := pc_ HB.out hx170_0
    replace hx170_1 := pc_ HB.out hx170_1
    replace hx170_2 := pc_ HB.out hx170_2
    replace hx170_3 := pc_ HB.out hx170_3
    replace hx170_4 := pc_ HB.out hx170_4
    have HR170_4 := Aside0.mk hi170_4
    have HC170_4 := Aside0.mk hl170_4
    clear hi170_4 hl170_4
    replace p170 := eq_true p170
    replace q170 := eq_true q170
    have p171 : 0 ≤ (x5_1 : Int) := oa_
    have q171 : x5_1 < (l0.length : Int) := oa_
    obtain ⟨ad171, A171_4, c171_4, e171, hx171_0, hx171_1, hx171_2, hx171_3, hx171_4, hl171_4, hi171_4⟩ := at_T43 HR0.out x5_1 p171 q171
    obtain rfl : ad170 = ad171 := (by injection e171)
    replace hx171_0 := pc_ HB.out hx171_0
    replace hx171_1 := pc_ HB.out hx171_1
    replace hx171_2 := pc_ HB.out hx171_2
    replace hx171_3 := pc_ HB.out hx171_3
    replace hx171_4 := pc_ HB.out hx171_4
    have HR171_4 := Aside0.mk hi171_4
    have HC171_4 := Aside0.mk hl171_4
    clear hi171_4 hl171_4
    replace p171 := eq_true p171
    replace q171 := eq_true q171
    have ea_ := Option.some.inj (hx170_4.symm.trans hx171_4)
    injection ea_ with ea_ en_ ec_
    subst ea_
    subst ec_
    clear en_
    have p172 : 0 ≤ (x5_1 : Int) := oa_
    have q172 : x5_1 < (l0.length : Int) := oa_
    obtain ⟨ad172, A172_4, c172_4, e172, hx172_0, hx172_1, hx172_2, hx172_3, hx172_4, hl172_4, hi172_4⟩ := at_T43 HR0.out x5_1 p172 q172
    obtain rfl : ad170 = ad172 := (by injection e172)
    replace hx172_0 := pc_ HB.out hx172_0
    replace hx172_1 := pc_ HB.out hx172_1
    replace hx172_2 := pc_ HB.out hx172_2
    replace hx172_3 := pc_ HB.out hx172_3
    replace hx172_4 := pc_ HB.out hx172_4
    have HR172_4 := Aside0.mk hi172_4
    have HC172_4 := Aside0.mk hl172_4
    clear hi172_4 hl172_4
    replace p172 := eq_true p172
    replace q172 := eq_true q172
    have ea_ := Option.some.inj (hx170_4.symm.trans hx172_4)
    injection ea_ with ea_ en_ ec_
    subst ea_
    subst ec_
    clear en_
    have p173 : 0 ≤ (x5_1 : Int) := oa_
    have q173 : x5_1 < (l0.length : Int) := oa_
    obtain ⟨ad173, A173_4, c173_4, e173, hx173_0, hx173_1, hx173_2, hx173_3, hx173_4, hl173_4, hi173_4⟩ := at_T43 HR0.out x5_1 p173 q173
    obtain rfl : ad170 = ad173 := (by injection e173)
    replace hx173_0 := pc_ HB.out hx173_0
    replace hx173_1 := pc_ HB.out hx173_1
    replace hx173_2 := pc_ HB.out hx173_2
    replace hx173_3 := pc_ HB.out hx173_3
    replace hx173_4 := pc_ HB.out hx173_4
    have HR173_4 := Aside0.mk hi173_4
    have HC173_4 := Aside0.mk hl173_4
    clear hi173_4 hl173_4
    replace p173 := eq_true p173
    replace q173 := eq_true q173
    have ea_ := Option.some.inj (hx170_4.symm.trans hx173_4)
    injection ea_ with ea_ en_ ec_
    subst ea_
    subst ec_
    clear en_
    have p174 : 0 ≤ (x5_1 : Int) := oa_
    have q174 : x5_1 < (l0.length : Int) := oa_
    obtain ⟨ad174, A174_4, c174_4, e174, hx174_0, hx174_1, hx174_2, hx174_3, hx174_4, hl174_4, hi174_4⟩ := at_T43 HR0.out x5_1 p174 q174
    obtain rfl : ad170 = ad174 := (by injection e174)
    replace hx174_0 := pc_ HB.out hx174_0
    replace hx174_1 := pc_ HB.out hx174_1
    replace hx174_2 := pc_ HB.out hx174_2
    replace hx174_3 := pc_ HB.out hx174_3
    replace hx174_4 := pc_ HB.out hx174_4
    have HR174_4 := Aside0.mk hi174_4
    have HC174_4 := Aside0.mk hl174_4
    clear hi174_4 hl174_4
    replace p174 := eq_true p174
    replace q174 := eq_true q174
    have ea_ := Option.some.inj (hx170_4.symm.trans hx174_4)
    injection ea_ with ea_ en_ ec_
    subst ea_
    subst ec_
    clear en_
    go_wp2_with (first | ((with_reducible refine gate_callee (f := 79) rfl ?_); refine gl_ 54 Try.func79 #[.slice A170_4 ((rd_T43 l0 x5_1).f4).length c170_4, .int .i64 (wrap64 ((wrap64 ((wrap64 ((wrap64 (x1_1 + 1)) + 1)) + 1)) + 1))] rfl ma_ ?_; (with_reducible refine (laws_heldStringS.calls k1 _ _ ((rd_T43 l0 x5_1).f4) (wrap64 ((wrap64 ((wrap64 ((wrap64 (x1_1 + 1)) + 1)) + 1)) + 1)) t175 _ ?side1 ?side2 A9.out).mono ?_); (case side1 => exact cs_ ((Kd.C_below HR174_4.out HB.out))); (case side2 => exact HC174_4.out); rintro e w11 ⟨rfl, hb⟩; refine ⟨_, rfl, ?_⟩; replace HB := nb_ hb; (try clear hb); (try clear hb2); (try clear hk); (try clear hi)))
    go_ret
    exact ⟨er_, hb_⟩
   have c10b0 := decide_eq_false c10
   clear c10
   have H' := Aside0.mk H
   clear H
   have p170 : 0 ≤ (x5_1 : Int) := oa_
   have q170 : x5_1 < (l0.length : Int) := oa_
   obtain ⟨ad170, A170_4, c170_4, e170, hx170_0, hx170_1, hx170_2, hx170_3, hx170_4, hl170_4, hi170_4⟩ := at_T43 HR0.out x5_1 p170 q170
   cases e170
   replace hx170_0 := pc_ HB.out hx170_0
   replace hx170_1 := pc_ HB.out hx170_1
   replace hx170_2 := pc_ HB.out hx170_2
   replace hx170_3 := pc_ HB.out hx170_3
   replace hx170_4 := pc_ HB.out hx170_4
   have HR170_4 := Aside0.mk hi170_4
   have HC170_4 := Aside0.mk hl170_4
   clear hi170_4 hl170_4
   replace p170 := eq_true p170
   replace q170 := eq_true q170
   have p171 : 0 ≤ (x5_1 : Int) := oa_
   have q171 : x5_1 < (l0.length : Int) := oa_
   obtain ⟨ad171, A171_4, c171_4, e171, hx171_0, hx171_1, hx171_2, hx171_3, hx171_4, hl171_4, hi171_4⟩ := at_T43 HR0.out x5_1 p171 q171
   obtain rfl : ad170 = ad171 := (by injection e171)
   replace hx171_0 := pc_ HB.out hx171_0
   replace hx171_1 := pc_ HB.out hx171_1
   replace hx171_2 := pc_ HB.out hx171_2
   replace hx171_3 := pc_ HB.out hx171_3
   replace hx171_4 := pc_ HB.out hx171_4
   have HR171_4 := Aside0.mk hi171_4
   have HC171_4 := Aside0.mk hl171_4
   clear hi171_4 hl171_4
   replace p171 := eq_true p171
   replace q171 := eq_true q171
   have ea_ := Option.some.inj (hx170_4.symm.trans hx171_4)
   injection ea_ with ea_ en_ ec_
   subst ea_
   subst ec_
   clear en_
   have p172 : 0 ≤ (x5_1 : Int) := oa_
   have q172 : x5_1 < (l0.length : Int) := oa_
   obtain ⟨ad172, A172_4, c172_4, e172, hx172_0, hx172_1, hx172_2, hx172_3, hx172_4, hl172_4, hi172_4⟩ := at_T43 HR0.out x5_1 p172 q172
   obtain rfl : ad170 = ad172 := (by injection e172)
   replace hx172_0 := pc_ HB.out hx172_0
   replace hx172_1 := pc_ HB.out hx172_1
   replace hx172_2 := pc_ HB.out hx172_2
   replace hx172_3 := pc_ HB.out hx172_3
   replace hx172_4 := pc_ HB.out hx172_4
   have HR172_4 := Aside0.mk hi172_4
   have HC172_4 := Aside0.mk hl172_4
   clear hi172_4 hl172_4
   replace p172 := eq_true p172
   replace q172 := eq_true q172
   have ea_ := Option.some.inj (hx170_4.symm.trans hx172_4)
   injection ea_ with ea_ en_ ec_
   subst ea_
   subst ec_
   clear en_
   have p173 : 0 ≤ (x5_1 : Int) := oa_
   have q173 : x5_1 < (l0.length : Int) := oa_
   obtain ⟨ad173, A173_4, c173_4, e173, hx173_0, hx173_1, hx173_2, hx173_3, hx173_4, hl173_4, hi173_4⟩ := at_T43 HR0.out x5_1 p173 q173
   obtain rfl : ad170 = ad173 := (by injection e173)
   replace hx173_0 := pc_ HB.out hx173_0
   replace hx173_1 := pc_ HB.out hx173_1
   replace hx173_2 := pc_ HB.out hx173_2
   replace hx173_3 := pc_ HB.out hx173_3
   replace hx173_4 := pc_ HB.out hx173_4
   have HR173_4 := Aside0.mk hi173_4
   have HC173_4 := Aside0.mk hl173_4
   clear hi173_4 hl173_4
   replace p173 := eq_true p173
   replace q173 := eq_true q173
   have ea_ := Option.some.inj (hx170_4.symm.trans hx173_4)
   injection ea_ with ea_ en_ ec_
   subst ea_
   subst ec_
   clear en_
   have p174 : 0 ≤ (x5_1 : Int) := oa_
   have q174 : x5_1 < (l0.length : Int) := oa_
   obtain ⟨ad174, A174_4, c174_4, e174, hx174_0, hx174_1, hx174_2, hx174_3, hx174_4, hl174_4, hi174_4⟩ := at_T43 HR0.out x5_1 p174 q174
   obtain rfl : ad170 = ad174 := (by injection e174)
   replace hx174_0 := pc_ HB.out hx174_0
   replace hx174_1 := pc_ HB.out hx174_1
   replace hx174_2 := pc_ HB.out hx174_2
   replace hx174_3 := pc_ HB.out hx174_3
   replace hx174_4 := pc_ HB.out hx174_4
   have HR174_4 := Aside0.mk hi174_4
   have HC174_4 := Aside0.mk hl174_4
   clear hi174_4 hl174_4
   replace p174 := eq_true p174
   replace q174 := eq_true q174
   have ea_ := Option.some.inj (hx170_4.symm.trans hx174_4)
   injection ea_ with ea_ en_ ec_
   subst ea_
   subst ec_
   clear en_
   go_wp2_with (first | ((with_reducible refine gate_callee (f := 79) rfl ?_); refine gl_ 54 Try.func79 #[.slice A170_4 ((rd_T43 l0 x5_1).f4).length c170_4, .int .i64 (wrap64 ((wrap64 ((wrap64 ((wrap64 (x1_1 + 1)) + 1)) + 1)) + 1))] rfl ma_ ?_; (with_reducible refine (laws_heldStringS.calls k1 _ _ ((rd_T43 l0 x5_1).f4) (wrap64 ((wrap64 ((wrap64 ((wrap64 (x1_1 + 1)) + 1)) + 1)) + 1)) t175 _ ?side1 ?side2 A9.out).mono ?_); (case side1 => exact cs_ ((Kd.C_below HR174_4.out HB.out))); (case side2 => exact HC174_4.out); rintro e w12 ⟨rfl, hb⟩; refine ⟨_, rfl, ?_⟩; replace HB := nb_ hb; (try clear hb); (try clear hb2); (try clear hk); (try clear hi)))
   go_roundg k1
   case measure => have := HK1.out; omega
   case rel => exact ⟨(t175), (wrap64 (x5_1 + 1)), sr_, sr_, H', ⟨by have := HK1.out; omega⟩, ⟨hb_⟩⟩

/-! ### spec_l1In: function 57 -/
def spec_l1In.f (a0 : Int) (a1 : Int) (a2 : Int) : Option (Bool) := if a0 ≥ a1 then (some (decide (a0 ≤ a2))) else (some false)
set_option maxHeartbeats 8000000 in
set_option maxRecDepth 100000 in
theorem spec_l1In.calls (a0 : Int) (a1 : Int) (a2 : Int) (r : Bool) (w : World) (h : spec_l1In.f a0 a1 a2 = some r) :
  Calls Try.prog 57 #[.int .i64 a0, .int .i64 a1, .int .i64 a2] w fun e w' => e = .returned (.bool r) ∧ Drawn0 w w' := by
 have H : (if a0 ≥ a1 then (some (decide (a0 ≤ a2))) else (some false)) = some r := h
 clear h
 replace H := ite_ H
 obtain ⟨c4, H⟩ | ⟨c4, H⟩ := H
 rotate_left
 ·have c4b0 := dne_ c4
  clear c4
  obtain rfl := Option.some.inj H
  go_enter Try.func57, Try.ntmps57
  go_wp2
  go_ret
  exact ⟨by first | rfl | (simp; done) | (simp [*]; done), dr_⟩
 have c4b0 := dge_ c4
 clear c4
 obtain rfl := Option.some.inj H
 go_enter Try.func57, Try.ntmps57
 go_wp2
 go_ret
 exact ⟨by first | rfl | (simp; done) | (simp [*]; done), dr_⟩
end Go.Proofs.Ytffpeklekkpbjaa.QFnExactReadFrom
