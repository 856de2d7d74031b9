/- Functions that one statement reaches: of each a plain function, and the proof that calls come to it. Conditions: those that each contract names. Written by a program of this repository. -/
import Derived.Test.YtojdaolclcmalaaVNextSeqa
import Derived.Test.YtojdaolclcmalaaQFnExactNextSeqx0
import Derived.Test.YtojdaolclcmalaaQFnExactNextSeqx3
namespace Go.Proofs.Ytojdaolclcmalaa.QFnExactNextSeq
open Go.RowKit Go.Proofs.YtojdaolclcmalaaW.PrintWords Go.Proofs.YtojdaolclcmalaaW.PrintLast Go.Proofs.YtojdaolclcmalaaW.PrintMore
attribute [local go_sem] max2_int min2_int max_two min_two max_three min_three max_four min_four Go.Proofs.YtojdaolclcmalaaW.PrintMore2.isSome_setCell   -- for this text's walks alone
set_option linter.unusedVariables false
set_option linter.unusedSimpArgs false

/-! ### laws_eqBatchS: function 45 -/
def laws_eqBatchS.l0 : Nat → List (S78) → List (S78) → Int → Option (Bool)
 | 0, _, _, _ => none
 | k + 1, x0, x1, x5 => if x5 < (x0.length : Int) then (if 0 ≤ x5 then (if x5 < (x1.length : Int) then ((laws_eqBatch.f k ((rd_T78 x0 x5).f0) ((rd_T78 x0 x5).f1) ((rd_T78 x0 x5).f2) ((rd_T78 x0 x5).f3) ((rd_T78 x0 x5).f4) ((rd_T78 x1 x5).f0) ((rd_T78 x1 x5).f1) ((rd_T78 x1 x5).f2) ((rd_T78 x1 x5).f3) ((rd_T78 x1 x5).f4)).bind fun t180 => (if t180 = true then (laws_eqBatchS.l0 k x0 x1 (wrap64 (x5 + 1))) else (some false))) else (none)) else (none)) else (some true)
def laws_eqBatchS.f (k : Nat) (l0 : List (S78)) (l1 : List (S78)) : Option (Bool) := if (l0.length : Int) = (l1.length : Int) then (laws_eqBatchS.l0 k l0 l1 0) else (some false)
theorem laws_eqBatchS.mono_l : ∀ k, (∀ y0 y1 y2, LeO (laws_eqBatchS.l0 k y0 y1 y2) (laws_eqBatchS.l0 (k + 1) y0 y1 y2))
 | 0 => fun _ _ _ r h => by simp [laws_eqBatchS.l0] at h
 | k + 1 => by
  have ih0 := laws_eqBatchS.mono_l k
  ·intro y0 y1 y2
   unfold laws_eqBatchS.l0
   repeat' first
   | (with_reducible first | apply ih0 | apply laws_eqBatch.mono | exact LeO.refl _ | exact LeO.none _ | refine LeO.ite ?_ ?_ | refine LeO.bind ?_ (fun _ => ?_))
theorem laws_eqBatchS.mono : ∀ a0 a1 k, LeO (laws_eqBatchS.f k a0 a1) (laws_eqBatchS.f (k + 1) a0 a1) := by
 intro a0 a1 k
 have ih0 := laws_eqBatchS.mono_l k
 unfold laws_eqBatchS.f
 repeat' first
   | (with_reducible first | apply ih0 | apply laws_eqBatch.mono | exact LeO.refl _ | exact LeO.none _ | refine LeO.ite ?_ ?_ | refine LeO.bind ?_ (fun _ => ?_))
def laws_eqBatchS.T6 : Bool × List (List Nat × List Nat) := (true, [([], []), ([], []), ([0, 1], [0, 1]), ([2], [2]), ([], []), ([], []), ([4, 5], [4, 5]), ([6], [6]), ([3, 7], [3, 7]), ([8], [8])])
def laws_eqBatchS.B6 : List Nat := [0, 0, 3, 7, 0, 0, 48, 112, 255, 511]
theorem laws_eqBatchS.tab6 : rtab .any (opsOf Try.f45 6) = laws_eqBatchS.T6 := by kernel_rfl
theorem laws_eqBatchS.bits6 : waitsOk laws_eqBatchS.T6.2 laws_eqBatchS.B6 = true := by kernel_rfl
set_option maxHeartbeats 8000000 in
set_option maxRecDepth 100000 in
theorem laws_eqBatchS.calls (k : Nat) (A0 : Option Addr) (c0 : Nat) (l0 : List (S78)) (A1 : Option Addr) (c1 : Nat) (l1 : List (S78)) (r : Bool) (w : World) (hr0 : Kd.C k78 w A0 l0.length l0) (hc0 : l0.length ≤ c0) (hr1 : Kd.C k78 w A1 l1.length l1) (hc1 : l1.length ≤ c1) (h : laws_eqBatchS.f k l0 l1 = some r) :
  Calls Try.prog 45 #[.slice A0 l0.length c0, .slice A1 l1.length c1] w fun e w' => e = .returned (.bool r) ∧ Below w.heap.size w w' := by
 have hu78 := Try.underlying78
 have HR0 := am_ hr0
 have HC0 := am_ hc0
 clear hr0 hc0
 have HR1 := am_ hr1
 have HC1 := am_ hc1
 clear hr1 hc1
 have HB := am_ (Below.refl w.heap.size w)
 have H : (if (l0.length : Int) = (l1.length : Int) then (laws_eqBatchS.l0 k l0 l1 0) else (some false)) = some r := h
 clear h
 replace H := ite_ H
 obtain ⟨c3, H⟩ | ⟨c3, H⟩ := H
 rotate_left
 ·have c3b0 : ((l0.length : Int) == (l1.length : Int)) = false := beq_eq_false_iff_ne.mpr c3
  have c3b1 : ((l0.length : Int) != (l1.length : Int)) = true := bne_iff_ne.mpr c3
  have c3b2 : (l0.length == l1.length) = false := by first | simpa using c3 | (simp at c3 ⊢; omega)
  obtain rfl := Option.some.inj H
  go_enter Try.func45, Try.ntmps45
  go_wp2
  go_ret
  exact ⟨er_, hb_⟩
 have c3b0 : ((l0.length : Int) == (l1.length : Int)) = true := beq_iff_eq.mpr c3
 have c3b1 : ((l0.length : Int) != (l1.length : Int)) = false := bne_eq_false_iff_eq.mpr c3
 have c3b2 : (l0.length == l1.length) = true := by first | simpa using c3 | (simp at c3 ⊢; omega)
 clear c3
 have H' := am_ H
 clear H
 go_enter Try.func45, Try.ntmps45
 go_wp2
 go_loopg [5] k (fun kq v5 w' => ∃ (x5_1 : Int), v5 = .int .i64 x5_1 ∧ Aside0 (laws_eqBatchS.l0 kq l0 l1 x5_1 = some r) ∧ Aside0 (kq ≤ k) ∧ Aside0 (Below w.heap.size w w'))
 case atStart => exact ⟨(0), sr_, H', ⟨Nat.le_refl _⟩, ⟨hb_⟩⟩
 case round =>
  clear H'
  try clear c1
  try clear c3
  try clear c3b0
  try clear c3b1
  try clear c3b2
  obtain ⟨x5_1, rfl, HA, HK1, HB⟩ := hrel
  cases gk with
  | zero => exact absurd HA.out (by simp [laws_eqBatchS.l0])
  | succ k1 =>
   have H := HA.out
   clear HA
   simp only [laws_eqBatchS.l0] at H
   replace H := ite_ H
   obtain ⟨c4, H⟩ | ⟨c4, H⟩ := H
   rotate_left
   ·have c4b0 := decide_eq_false c4
    clear c4
    obtain rfl := Option.some.inj H
    go_wp2
    go_ret
    exact ⟨er_, hb_⟩
   have c4b0 := decide_eq_true c4
   clear c4
   replace H := ifs_ H
   obtain ⟨c5, H⟩ := H
   have c5b0 := decide_eq_true c5
   clear c5
   replace H := ifs_ H
   obtain ⟨c6, H⟩ := H
   have c6b0 := decide_eq_true c6
   clear c6
   replace H := bnd_ H
   obtain ⟨t180, A7, H⟩ := H
   replace H := ifb_ H
   obtain ⟨rfl, H⟩ | ⟨rfl, H⟩ := H
   rotate_left
   ·obtain rfl := Option.some.inj H
    try go_wp2
    replace HB := qH_ HB
    have p178 : 0 ≤ (x5_1 : Int) := oa_
    have q178 : x5_1 < (l0.length : Int) := oa_
    obtain ⟨ad178, A178_4, c178_4, e178, hx178_0, hx178_1, hx178_2, hx178_3, hx178_4, hl178_4, hi178_4⟩ := at_T78 HR0.out x5_1 p178 q178
    have hw178_4 := hx178_4
    have hw178_3 := hx178_3
    have hw178_2 := hx178_2
    have hw178_1 := hx178_1
    have hw178_0 := hx178_0
    cases e178
    replace hx178_0 := pc_ HB.out hx178_0
    replace hx178_1 := pc_ HB.out hx178_1
    replace hx178_2 := pc_ HB.out hx178_2
    replace hx178_3 := pc_ HB.out hx178_3
    replace hx178_4 := pc_ HB.out hx178_4
    have HR178_4 := am_ hi178_4
    have HC178_4 := am_ hl178_4
    clear hi178_4 hl178_4
    replace p178 := eq_true p178
    replace q178 := eq_true q178
    have p179 : 0 ≤ (x5_1 : Int) := oa_
    have q179 : x5_1 < (l1.length : Int) := oa_
    obtain ⟨ad179, A179_4, c179_4, e179, hx179_0, hx179_1, hx179_2, hx179_3, hx179_4, hl179_4, hi179_4⟩ := at_T78 HR1.out x5_1 p179 q179
    have hw179_4 := hx179_4
    have hw179_3 := hx179_3
    have hw179_2 := hx179_2
    have hw179_1 := hx179_1
    have hw179_0 := hx179_0
    cases e179
    replace hx179_0 := pc_ HB.out hx179_0
    replace hx179_1 := pc_ HB.out hx179_1
    replace hx179_2 := pc_ HB.out hx179_2
    replace hx179_3 := pc_ HB.out hx179_3
    replace hx179_4 := pc_ HB.out hx179_4
    have HR179_4 := am_ hi179_4
    have HC179_4 := am_ hl179_4
    clear hi179_4 hl179_4
    replace p179 := eq_true p179
    replace q179 := eq_true q179
    refine start_ (n := 10) (S := fun w' => w'.cell? (ad178.add ((x5_1).toNat * 5)) = some (.int .i64 ((rd_T78 l0 x5_1).f0)) ∧ w'.cell? ⟨(ad178.add ((x5_1).toNat * 5)).block, (ad178.add ((x5_1).toNat * 5)).off + 1, none⟩ = some (.int .i64 ((rd_T78 l0 x5_1).f1)) ∧ w'.cell? ⟨(ad178.add ((x5_1).toNat * 5)).block, (ad178.add ((x5_1).toNat * 5)).off + 2, none⟩ = some (.int .i64 ((rd_T78 l0 x5_1).f2)) ∧ w'.cell? ⟨(ad178.add ((x5_1).toNat * 5)).block, (ad178.add ((x5_1).toNat * 5)).off + 3, none⟩ = some (.int .i64 ((rd_T78 l0 x5_1).f3)) ∧ w'.cell? ⟨(ad178.add ((x5_1).toNat * 5)).block, (ad178.add ((x5_1).toNat * 5)).off + 4, none⟩ = some (.slice A178_4 ((rd_T78 l0 x5_1).f4).length c178_4) ∧ w'.cell? (ad179.add ((x5_1).toNat * 5)) = some (.int .i64 ((rd_T78 l1 x5_1).f0)) ∧ w'.cell? ⟨(ad179.add ((x5_1).toNat * 5)).block, (ad179.add ((x5_1).toNat * 5)).off + 1, none⟩ = some (.int .i64 ((rd_T78 l1 x5_1).f1)) ∧ w'.cell? ⟨(ad179.add ((x5_1).toNat * 5)).block, (ad179.add ((x5_1).toNat * 5)).off + 2, none⟩ = some (.int .i64 ((rd_T78 l1 x5_1).f2)) ∧ w'.cell? ⟨(ad179.add ((x5_1).toNat * 5)).block, (ad179.add ((x5_1).toNat * 5)).off + 3, none⟩ = some (.int .i64 ((rd_T78 l1 x5_1).f3)) ∧ w'.cell? ⟨(ad179.add ((x5_1).toNat * 5)).block, (ad179.add ((x5_1).toNat * 5)).off + 4, none⟩ = some (.slice A179_4 ((rd_T78 l1 x5_1).f4).length c179_4)) (ds := []) (List.replicate 10 false).toArray (by kernel_rfl) rfl rfl ⟨(pc_ HB.out hw178_0), (pc_ HB.out hw178_1), (pc_ HB.out hw178_2), (pc_ HB.out hw178_3), (pc_ HB.out hw178_4), (pc_ HB.out hw179_0), (pc_ HB.out hw179_1), (pc_ HB.out hw179_2), (pc_ HB.out hw179_3), (pc_ HB.out hw179_4)⟩ (fun hHeld => ?_); refine with_tabW laws_eqBatchS.tab6 laws_eqBatchS.bits6 (fun HT_ HW_ => ?_)
    generalize wr.drew = w11 at HB HR178_4 HR179_4 hx178_0 hx178_1 hx178_2 hx178_3 hx178_4 hx179_0 hx179_1 hx179_2 hx179_3 hx179_4 hHeld ⊢
    refine pv_ 0 17 ?_
    refine pv_ 1 18 ?_
    refine pv_ 2 19 ?_
    refine pv_ 4 21 ?_
    refine pv_ 5 22 ?_
    refine pv_ 6 23 ?_
    refine tk_ 3 20 ?_
    refine tk_ 7 24 ?_
    refine on_ 8 25 (fun K hK => ?_)
    refine gs_ Try.func72 #[.agg #[.int .i64 ((rd_T78 l0 x5_1).f0), .int .i64 ((rd_T78 l0 x5_1).f1), .int .i64 ((rd_T78 l0 x5_1).f2), .int .i64 ((rd_T78 l0 x5_1).f3), .slice A178_4 ((rd_T78 l0 x5_1).f4).length c178_4], .agg #[.int .i64 ((rd_T78 l1 x5_1).f0), .int .i64 ((rd_T78 l1 x5_1).f1), .int .i64 ((rd_T78 l1 x5_1).f2), .int .i64 ((rd_T78 l1 x5_1).f3), .slice A179_4 ((rd_T78 l1 x5_1).f4).length c179_4]] rfl ma_ ?_
    with_reducible refine (laws_eqBatch.calls k1 ((rd_T78 l0 x5_1).f0) ((rd_T78 l0 x5_1).f1) ((rd_T78 l0 x5_1).f2) ((rd_T78 l0 x5_1).f3) _ _ ((rd_T78 l0 x5_1).f4) ((rd_T78 l1 x5_1).f0) ((rd_T78 l1 x5_1).f1) ((rd_T78 l1 x5_1).f2) ((rd_T78 l1 x5_1).f3) _ _ ((rd_T78 l1 x5_1).f4) false _ ?side1 ?side2 ?side3 ?side4 A7.out).mono ?_
    (case side1 => exact cs_ ((Kd.C_below HR178_4.out HB.out)))
    (case side2 => exact HC178_4.out)
    (case side3 => exact cs_ ((Kd.C_below HR179_4.out HB.out)))
    (case side4 => exact HC179_4.out)
    rintro e w12 ⟨rfl, hb⟩
    refine ⟨_, rfl, ?_⟩
    replace HB := nb_ hb
    (try clear hb)
    (try clear hb2)
    (try clear hk)
    (try clear hi)
    refine hK.out _ _ ⟨(pc_ HB.out hw178_0), (pc_ HB.out hw178_1), (pc_ HB.out hw178_2), (pc_ HB.out hw178_3), (pc_ HB.out hw178_4), (pc_ HB.out hw179_0), (pc_ HB.out hw179_1), (pc_ HB.out hw179_2), (pc_ HB.out hw179_3), (pc_ HB.out hw179_4)⟩ (fun hHeld => ?_)
    clear hK K
    refine no_ ?_
    refine pv_ 9 26 ?_
    refine done_ (done_of HT_.out (by kernel_rfl)) ?_
    try go_wp2
    go_ret
    exact ⟨er_, hb_⟩
   have H' := am_ H
   clear H
   try go_wp2
   replace HB := qH_ HB
   have p178 : 0 ≤ (x5_1 : Int) := oa_
   have q178 : x5_1 < (l0.length : Int) := oa_
   obtain ⟨ad178, A178_4, c178_4, e178, hx178_0, hx178_1, hx178_2, hx178_3, hx178_4, hl178_4, hi178_4⟩ := at_T78 HR0.out x5_1 p178 q178
   have hw178_4 := hx178_4
   have hw178_3 := hx178_3
   have hw178_2 := hx178_2
   have hw178_1 := hx178_1
   have hw178_0 := hx178_0
   cases e178
   replace hx178_0 := pc_ HB.out hx178_0
   replace hx178_1 := pc_ HB.out hx178_1
   replace hx178_2 := pc_ HB.out hx178_2
   replace hx178_3 := pc_ HB.out hx178_3
   replace hx178_4 := pc_ HB.out hx178_4
   have HR178_4 := am_ hi178_4
   have HC178_4 := am_ hl178_4
   clear hi178_4 hl178_4
   replace p178 := eq_true p178
   replace q178 := eq_true q178
   have p179 : 0 ≤ (x5_1 : Int) := oa_
   have q179 : x5_1 < (l1.length : Int) := oa_
   obtain ⟨ad179, A179_4, c179_4, e179, hx179_0, hx179_1, hx179_2, hx179_3, hx179_4, hl179_4, hi179_4⟩ := at_T78 HR1.out x5_1 p179 q179
   have hw179_4 := hx179_4
   have hw179_3 := hx179_3
   have hw179_2 := hx179_2
   have hw179_1 := hx179_1
   have hw179_0 := hx179_0
   cases e179
   replace hx179_0 := pc_ HB.out hx179_0
   replace hx179_1 := pc_ HB.out hx179_1
   replace hx179_2 := pc_ HB.out hx179_2
   replace hx179_3 := pc_ HB.out hx179_3
   replace hx179_4 := pc_ HB.out hx179_4
   have HR179_4 := am_ hi179_4
   have HC179_4 := am_ hl179_4
   clear hi179_4 hl179_4
   replace p179 := eq_true p179
   replace q179 := eq_true q179
   refine start_ (n := 10) (S := fun w' => w'.cell? (ad178.add ((x5_1).toNat * 5)) = some (.int .i64 ((rd_T78 l0 x5_1).f0)) ∧ w'.cell? ⟨(ad178.add ((x5_1).toNat * 5)).block, (ad178.add ((x5_1).toNat * 5)).off + 1, none⟩ = some (.int .i64 ((rd_T78 l0 x5_1).f1)) ∧ w'.cell? ⟨(ad178.add ((x5_1).toNat * 5)).block, (ad178.add ((x5_1).toNat * 5)).off + 2, none⟩ = some (.int .i64 ((rd_T78 l0 x5_1).f2)) ∧ w'.cell? ⟨(ad178.add ((x5_1).toNat * 5)).block, (ad178.add ((x5_1).toNat * 5)).off + 3, none⟩ = some (.int .i64 ((rd_T78 l0 x5_1).f3)) ∧ w'.cell? ⟨(ad178.add ((x5_1).toNat * 5)).block, (ad178.add ((x5_1).toNat * 5)).off + 4, none⟩ = some (.slice A178_4 ((rd_T78 l0 x5_1).f4).length c178_4) ∧ w'.cell? (ad179.add ((x5_1).toNat * 5)) = some (.int .i64 ((rd_T78 l1 x5_1).f0)) ∧ w'.cell? ⟨(ad179.add ((x5_1).toNat * 5)).block, (ad179.add ((x5_1).toNat * 5)).off + 1, none⟩ = some (.int .i64 ((rd_T78 l1 x5_1).f1)) ∧ w'.cell? ⟨(ad179.add ((x5_1).toNat * 5)).block, (ad179.add ((x5_1).toNat * 5)).off + 2, none⟩ = some (.int .i64 ((rd_T78 l1 x5_1).f2)) ∧ w'.cell? ⟨(ad179.add ((x5_1).toNat * 5)).block, (ad179.add ((x5_1).toNat * 5)).off + 3, none⟩ = some (.int .i64 ((rd_T78 l1 x5_1).f3)) ∧ w'.cell? ⟨(ad179.add ((x5_1).toNat * 5)).block, (ad179.add ((x5_1).toNat * 5)).off + 4, none⟩ = some (.slice A179_4 ((rd_T78 l1 x5_1).f4).length c179_4)) (ds := []) (List.replicate 10 false).toArray (by kernel_rfl) rfl rfl ⟨(pc_ HB.out hw178_0), (pc_ HB.out hw178_1), (pc_ HB.out hw178_2), (pc_ HB.out hw178_3), (pc_ HB.out hw178_4), (pc_ HB.out hw179_0), (pc_ HB.out hw179_1), (pc_ HB.out hw179_2), (pc_ HB.out hw179_3), (pc_ HB.out hw179_4)⟩ (fun hHeld => ?_); refine with_tabW laws_eqBatchS.tab6 laws_eqBatchS.bits6 (fun HT_ HW_ => ?_)
   generalize wr.drew = w9 at HB HR178_4 HR179_4 hx178_0 hx178_1 hx178_2 hx178_3 hx178_4 hx179_0 hx179_1 hx179_2 hx179_3 hx179_4 hHeld ⊢
   refine pv_ 0 17 ?_
   refine pv_ 1 18 ?_
   refine pv_ 2 19 ?_
   refine pv_ 4 21 ?_
   refine pv_ 5 22 ?_
   refine pv_ 6 23 ?_
   refine tk_ 3 20 ?_
   refine tk_ 7 24 ?_
   refine on_ 8 25 (fun K hK => ?_)
   refine gs_ Try.func72 #[.agg #[.int .i64 ((rd_T78 l0 x5_1).f0), .int .i64 ((rd_T78 l0 x5_1).f1), .int .i64 ((rd_T78 l0 x5_1).f2), .int .i64 ((rd_T78 l0 x5_1).f3), .slice A178_4 ((rd_T78 l0 x5_1).f4).length c178_4], .agg #[.int .i64 ((rd_T78 l1 x5_1).f0), .int .i64 ((rd_T78 l1 x5_1).f1), .int .i64 ((rd_T78 l1 x5_1).f2), .int .i64 ((rd_T78 l1 x5_1).f3), .slice A179_4 ((rd_T78 l1 x5_1).f4).length c179_4]] rfl ma_ ?_
   with_reducible refine (laws_eqBatch.calls k1 ((rd_T78 l0 x5_1).f0) ((rd_T78 l0 x5_1).f1) ((rd_T78 l0 x5_1).f2) ((rd_T78 l0 x5_1).f3) _ _ ((rd_T78 l0 x5_1).f4) ((rd_T78 l1 x5_1).f0) ((rd_T78 l1 x5_1).f1) ((rd_T78 l1 x5_1).f2) ((rd_T78 l1 x5_1).f3) _ _ ((rd_T78 l1 x5_1).f4) true _ ?side1 ?side2 ?side3 ?side4 A7.out).mono ?_
   (case side1 => exact cs_ ((Kd.C_below HR178_4.out HB.out)))
   (case side2 => exact HC178_4.out)
   (case side3 => exact cs_ ((Kd.C_below HR179_4.out HB.out)))
   (case side4 => exact HC179_4.out)
   rintro e w10 ⟨rfl, hb⟩
   refine ⟨_, rfl, ?_⟩
   replace HB := nb_ hb
   (try clear hb)
   (try clear hb2)
   (try clear hk)
   (try clear hi)
   refine hK.out _ _ ⟨(pc_ HB.out hw178_0), (pc_ HB.out hw178_1), (pc_ HB.out hw178_2), (pc_ HB.out hw178_3), (pc_ HB.out hw178_4), (pc_ HB.out hw179_0), (pc_ HB.out hw179_1), (pc_ HB.out hw179_2), (pc_ HB.out hw179_3), (pc_ HB.out hw179_4)⟩ (fun hHeld => ?_)
   clear hK K
   refine no_ ?_
   refine pv_ 9 26 ?_
   refine done_ (done_of HT_.out (by kernel_rfl)) ?_
   try go_wp2
   go_roundg k1
   case measure => have := HK1.out; omega
   case rel => exact ⟨(wrap64 (x5_1 + 1)), sr_, H', ⟨by have := HK1.out; omega⟩, ⟨hb_⟩⟩

/-! ### laws_eqDone: function 99 -/
def laws_eqDone.f (a0_0 : Int) (a0_1 : Int) (a0_2 : Int) (a1_0 : Int) (a1_1 : Int) (a1_2 : Int) : Option (Bool) := if a0_0 = a1_0 then (if a0_1 = a1_1 then (if a0_2 = a1_2 then (some true) else (some false)) else (some false)) else (some false)
set_option maxHeartbeats 8000000 in
set_option maxRecDepth 100000 in
theorem laws_eqDone.calls (a0_0 : Int) (a0_1 : Int) (a0_2 : Int) (a1_0 : Int) (a1_1 : Int) (a1_2 : Int) (r : Bool) (w : World) (h : laws_eqDone.f a0_0 a0_1 a0_2 a1_0 a1_1 a1_2 = some r) :
  Calls Try.prog 99 #[.agg #[.int .i64 a0_0, .int .i64 a0_1, .int .i64 a0_2], .agg #[.int .i64 a1_0, .int .i64 a1_1, .int .i64 a1_2]] w fun e w' => e = .returned (.bool r) ∧ Below w.heap.size w w' := by
 have hu112 := Try.underlying112
 have HB := am_ (Below.refl w.heap.size w)
 have H : (if a0_0 = a1_0 then (if a0_1 = a1_1 then (if a0_2 = a1_2 then (some true) else (some false)) else (some false)) else (some false)) = some r := h
 clear h
 replace H := ite_ H
 obtain ⟨c3, H⟩ | ⟨c3, H⟩ := H
 rotate_left
 ·have c3b0 : (a0_0 == a1_0) = false := beq_eq_false_iff_ne.mpr c3
  have c3b1 : (a0_0 != a1_0) = true := bne_iff_ne.mpr c3
  obtain rfl := Option.some.inj H
  go_enter Try.func99, Try.ntmps99
  go_wp2_with (first | ((with_reducible refine gate_dst (N := 2) rfl ?_); refine bq_ (N := 2) #[.int .i64 a0_0, .int .i64 a0_1, .int .i64 a0_2] 112 ?_; intro gb181 hg w21 BK181 hb; have GE181 := ge_ hg; replace HB := nb_ hb; clear hb hg) | ((with_reducible refine gate_dst (N := 3) rfl ?_); refine bq_ (N := 3) #[.int .i64 a1_0, .int .i64 a1_1, .int .i64 a1_2] 112 ?_; intro gb182 hg w22 BK182 hb; have GE182 := ge1_ hg GE181; replace HB := nc_ GE181 hb; have NB181_182 := nl_ BK181 hg; have NB182_181 := ng_ BK181 hg; replace BK181 := bK_ BK181 hb; clear hb hg; have hnb23 := NB181_182.out; have hnc23 := NB182_181.out; obtain ⟨hcz24_0, hcz24_1, hcz24_2, hfz24_0, hfz24_1, hfz24_2⟩ := cf3_ BK181.out; obtain ⟨hcz25_0, hcz25_1, hcz25_2, hfz25_0, hfz25_1, hfz25_2⟩ := cf3_ BK182.out))
  go_ret
  exact ⟨er_, hs2_ GE181.out GE182.out⟩
 have c3b0 : (a0_0 == a1_0) = true := beq_iff_eq.mpr c3
 have c3b1 : (a0_0 != a1_0) = false := bne_eq_false_iff_eq.mpr c3
 clear c3
 replace H := ite_ H
 obtain ⟨c4, H⟩ | ⟨c4, H⟩ := H
 rotate_left
 ·have c4b0 : (a0_1 == a1_1) = false := beq_eq_false_iff_ne.mpr c4
  have c4b1 : (a0_1 != a1_1) = true := bne_iff_ne.mpr c4
  obtain rfl := Option.some.inj H
  go_enter Try.func99, Try.ntmps99
  go_wp2_with (first | ((with_reducible refine gate_dst (N := 2) rfl ?_); refine bq_ (N := 2) #[.int .i64 a0_0, .int .i64 a0_1, .int .i64 a0_2] 112 ?_; intro gb181 hg w16 BK181 hb; have GE181 := ge_ hg; replace HB := nb_ hb; clear hb hg) | ((with_reducible refine gate_dst (N := 3) rfl ?_); refine bq_ (N := 3) #[.int .i64 a1_0, .int .i64 a1_1, .int .i64 a1_2] 112 ?_; intro gb182 hg w17 BK182 hb; have GE182 := ge1_ hg GE181; replace HB := nc_ GE181 hb; have NB181_182 := nl_ BK181 hg; have NB182_181 := ng_ BK181 hg; replace BK181 := bK_ BK181 hb; clear hb hg; have hnb18 := NB181_182.out; have hnc18 := NB182_181.out; obtain ⟨hcz19_0, hcz19_1, hcz19_2, hfz19_0, hfz19_1, hfz19_2⟩ := cf3_ BK181.out; obtain ⟨hcz20_0, hcz20_1, hcz20_2, hfz20_0, hfz20_1, hfz20_2⟩ := cf3_ BK182.out))
  go_ret
  exact ⟨er_, hs2_ GE181.out GE182.out⟩
 have c4b0 : (a0_1 == a1_1) = true := beq_iff_eq.mpr c4
 have c4b1 : (a0_1 != a1_1) = false := bne_eq_false_iff_eq.mpr c4
 clear c4
 replace H := ite_ H
 obtain ⟨c5, H⟩ | ⟨c5, H⟩ := H
 ·have c5b0 : (a0_2 == a1_2) = true := beq_iff_eq.mpr c5
  have c5b1 : (a0_2 != a1_2) = false := bne_eq_false_iff_eq.mpr c5
  clear c5
  obtain rfl := Option.some.inj H
  go_enter Try.func99, Try.ntmps99
  go_wp2_with (first | ((with_reducible refine gate_dst (N := 2) rfl ?_); refine bq_ (N := 2) #[.int .i64 a0_0, .int .i64 a0_1, .int .i64 a0_2] 112 ?_; intro gb181 hg w6 BK181 hb; have GE181 := ge_ hg; replace HB := nb_ hb; clear hb hg) | ((with_reducible refine gate_dst (N := 3) rfl ?_); refine bq_ (N := 3) #[.int .i64 a1_0, .int .i64 a1_1, .int .i64 a1_2] 112 ?_; intro gb182 hg w7 BK182 hb; have GE182 := ge1_ hg GE181; replace HB := nc_ GE181 hb; have NB181_182 := nl_ BK181 hg; have NB182_181 := ng_ BK181 hg; replace BK181 := bK_ BK181 hb; clear hb hg; have hnb8 := NB181_182.out; have hnc8 := NB182_181.out; obtain ⟨hcz9_0, hcz9_1, hcz9_2, hfz9_0, hfz9_1, hfz9_2⟩ := cf3_ BK181.out; obtain ⟨hcz10_0, hcz10_1, hcz10_2, hfz10_0, hfz10_1, hfz10_2⟩ := cf3_ BK182.out))
  go_ret
  exact ⟨er_, hs2_ GE181.out GE182.out⟩
 have c5b0 : (a0_2 == a1_2) = false := beq_eq_false_iff_ne.mpr c5
 have c5b1 : (a0_2 != a1_2) = true := bne_iff_ne.mpr c5
 obtain rfl := Option.some.inj H
 go_enter Try.func99, Try.ntmps99
 go_wp2_with (first | ((with_reducible refine gate_dst (N := 2) rfl ?_); refine bq_ (N := 2) #[.int .i64 a0_0, .int .i64 a0_1, .int .i64 a0_2] 112 ?_; intro gb181 hg w11 BK181 hb; have GE181 := ge_ hg; replace HB := nb_ hb; clear hb hg) | ((with_reducible refine gate_dst (N := 3) rfl ?_); refine bq_ (N := 3) #[.int .i64 a1_0, .int .i64 a1_1, .int .i64 a1_2] 112 ?_; intro gb182 hg w12 BK182 hb; have GE182 := ge1_ hg GE181; replace HB := nc_ GE181 hb; have NB181_182 := nl_ BK181 hg; have NB182_181 := ng_ BK181 hg; replace BK181 := bK_ BK181 hb; clear hb hg; have hnb13 := NB181_182.out; have hnc13 := NB182_181.out; obtain ⟨hcz14_0, hcz14_1, hcz14_2, hfz14_0, hfz14_1, hfz14_2⟩ := cf3_ BK181.out; obtain ⟨hcz15_0, hcz15_1, hcz15_2, hfz15_0, hfz15_1, hfz15_2⟩ := cf3_ BK182.out))
 go_ret
 exact ⟨er_, hs2_ GE181.out GE182.out⟩

/-! ### laws_eqDoneS: function 94 -/
def laws_eqDoneS.l0 : Nat → List (S112) → List (S112) → Int → Option (Bool)
 | 0, _, _, _ => none
 | k + 1, x0, x1, x5 => if x5 < (x0.length : Int) then (if 0 ≤ x5 then (if x5 < (x1.length : Int) then ((laws_eqDone.f ((rd_T112 x0 x5).f0) ((rd_T112 x0 x5).f1) ((rd_T112 x0 x5).f2) ((rd_T112 x1 x5).f0) ((rd_T112 x1 x5).f1) ((rd_T112 x1 x5).f2)).bind fun t185 => (if t185 = true then (laws_eqDoneS.l0 k x0 x1 (wrap64 (x5 + 1))) else (some false))) else (none)) else (none)) else (some true)
def laws_eqDoneS.f (k : Nat) (l0 : List (S112)) (l1 : List (S112)) : Option (Bool) := if (l0.length : Int) = (l1.length : Int) then (laws_eqDoneS.l0 k l0 l1 0) else (some false)
theorem laws_eqDoneS.mono_l : ∀ k, (∀ y0 y1 y2, LeO (laws_eqDoneS.l0 k y0 y1 y2) (laws_eqDoneS.l0 (k + 1) y0 y1 y2))
 | 0 => fun _ _ _ r h => by simp [laws_eqDoneS.l0] at h
 | k + 1 => by
  have ih0 := laws_eqDoneS.mono_l k
  ·intro y0 y1 y2
   unfold laws_eqDoneS.l0
   repeat' first
   | (with_reducible first | apply ih0 | exact LeO.refl _ | exact LeO.none _ | refine LeO.ite ?_ ?_ | refine LeO.bind ?_ (fun _ => ?_))
theorem laws_eqDoneS.mono : ∀ a0 a1 k, LeO (laws_eqDoneS.f k a0 a1) (laws_eqDoneS.f (k + 1) a0 a1) := by
 intro a0 a1 k
 have ih0 := laws_eqDoneS.mono_l k
 unfold laws_eqDoneS.f
 repeat' first
   | (with_reducible first | apply ih0 | exact LeO.refl _ | exact LeO.none _ | refine LeO.ite ?_ ?_ | refine LeO.bind ?_ (fun _ => ?_))
def laws_eqDoneS.T6 : Bool × List (List Nat × List Nat) := (true, [([], []), ([], []), ([0, 1], [0, 1]), ([2], [2]), ([], []), ([], []), ([4, 5], [4, 5]), ([6], [6]), ([3, 7], [3, 7]), ([8], [8])])
def laws_eqDoneS.B6 : List Nat := [0, 0, 3, 7, 0, 0, 48, 112, 255, 511]
theorem laws_eqDoneS.tab6 : rtab .any (opsOf Try.f94 6) = laws_eqDoneS.T6 := by kernel_rfl
theorem laws_eqDoneS.bits6 : waitsOk laws_eqDoneS.T6.2 laws_eqDoneS.B6 = true := by kernel_rfl
set_option maxHeartbeats 8000000 in
set_option maxRecDepth 100000 in
theorem laws_eqDoneS.calls (k : Nat) (A0 : Option Addr) (c0 : Nat) (l0 : List (S112)) (A1 : Option Addr) (c1 : Nat) (l1 : List (S112)) (r : Bool) (w : World) (hr0 : Kd.C k112 w A0 l0.length l0) (hc0 : l0.length ≤ c0) (hr1 : Kd.C k112 w A1 l1.length l1) (hc1 : l1.length ≤ c1) (h : laws_eqDoneS.f k l0 l1 = some r) :
  Calls Try.prog 94 #[.slice A0 l0.length c0, .slice A1 l1.length c1] w fun e w' => e = .returned (.bool r) ∧ Below w.heap.size w w' := by
 have hu112 := Try.underlying112
 have HR0 := am_ hr0
 have HC0 := am_ hc0
 clear hr0 hc0
 have HR1 := am_ hr1
 have HC1 := am_ hc1
 clear hr1 hc1
 have HB := am_ (Below.refl w.heap.size w)
 have H : (if (l0.length : Int) = (l1.length : Int) then (laws_eqDoneS.l0 k l0 l1 0) else (some false)) = some r := h
 clear h
 replace H := ite_ H
 obtain ⟨c3, H⟩ | ⟨c3, H⟩ := H
 rotate_left
 ·have c3b0 : ((l0.length : Int) == (l1.length : Int)) = false := beq_eq_false_iff_ne.mpr c3
  have c3b1 : ((l0.length : Int) != (l1.length : Int)) = true := bne_iff_ne.mpr c3
  have c3b2 : (l0.length == l1.length) = false := by first | simpa using c3 | (simp at c3 ⊢; omega)
  obtain rfl := Option.some.inj H
  go_enter Try.func94, Try.ntmps94
  go_wp2
  go_ret
  exact ⟨er_, hb_⟩
 have c3b0 : ((l0.length : Int) == (l1.length : Int)) = true := beq_iff_eq.mpr c3
 have c3b1 : ((l0.length : Int) != (l1.length : Int)) = false := bne_eq_false_iff_eq.mpr c3
 have c3b2 : (l0.length == l1.length) = true := by first | simpa using c3 | (simp at c3 ⊢; omega)
 clear c3
 have H' := am_ H
 clear H
 go_enter Try.func94, Try.ntmps94
 go_wp2
 go_loopg [5] k (fun kq v5 w' => ∃ (x5_1 : Int), v5 = .int .i64 x5_1 ∧ Aside0 (laws_eqDoneS.l0 kq l0 l1 x5_1 = some r) ∧ Aside0 (kq ≤ k) ∧ Aside0 (Below w.heap.size w w'))
 case atStart => exact ⟨(0), sr_, H', ⟨Nat.le_refl _⟩, ⟨hb_⟩⟩
 case round =>
  clear H'
  try clear c1
  try clear c3
  try clear c3b0
  try clear c3b1
  try clear c3b2
  obtain ⟨x5_1, rfl, HA, HK1, HB⟩ := hrel
  cases gk with
  | zero => exact absurd HA.out (by simp [laws_eqDoneS.l0])
  | succ k1 =>
   have H := HA.out
   clear HA
   simp only [laws_eqDoneS.l0] at H
   replace H := ite_ H
   obtain ⟨c4, H⟩ | ⟨c4, H⟩ := H
   rotate_left
   ·have c4b0 := decide_eq_false c4
    clear c4
    obtain rfl := Option.some.inj H
    go_wp2
    go_ret
    exact ⟨er_, hb_⟩
   have c4b0 := decide_eq_true c4
   clear c4
   replace H := ifs_ H
   obtain ⟨c5, H⟩ := H
   have c5b0 := decide_eq_true c5
   clear c5
   replace H := ifs_ H
   obtain ⟨c6, H⟩ := H
   have c6b0 := decide_eq_true c6
   clear c6
   replace H := bnd_ H
   obtain ⟨t185, A7, H⟩ := H
   replace H := ifb_ H
   obtain ⟨rfl, H⟩ | ⟨rfl, H⟩ := H
   rotate_left
   ·obtain rfl := Option.some.inj H
    try go_wp2
    replace HB := qH_ HB
    have p183 : 0 ≤ (x5_1 : Int) := oa_
    have q183 : x5_1 < (l0.length : Int) := oa_
    obtain ⟨ad183, e183, hx183_0, hx183_1, hx183_2⟩ := at_T112 HR0.out x5_1 p183 q183
    have hw183_2 := hx183_2
    have hw183_1 := hx183_1
    have hw183_0 := hx183_0
    cases e183
    replace hx183_0 := pc_ HB.out hx183_0
    replace hx183_1 := pc_ HB.out hx183_1
    replace hx183_2 := pc_ HB.out hx183_2
    replace p183 := eq_true p183
    replace q183 := eq_true q183
    have p184 : 0 ≤ (x5_1 : Int) := oa_
    have q184 : x5_1 < (l1.length : Int) := oa_
    obtain ⟨ad184, e184, hx184_0, hx184_1, hx184_2⟩ := at_T112 HR1.out x5_1 p184 q184
    have hw184_2 := hx184_2
    have hw184_1 := hx184_1
    have hw184_0 := hx184_0
    cases e184
    replace hx184_0 := pc_ HB.out hx184_0
    replace hx184_1 := pc_ HB.out hx184_1
    replace hx184_2 := pc_ HB.out hx184_2
    replace p184 := eq_true p184
    replace q184 := eq_true q184
    refine start_ (n := 10) (S := fun w' => w'.cell? (ad183.add ((x5_1).toNat * 3)) = some (.int .i64 ((rd_T112 l0 x5_1).f0)) ∧ w'.cell? ⟨(ad183.add ((x5_1).toNat * 3)).block, (ad183.add ((x5_1).toNat * 3)).off + 1, none⟩ = some (.int .i64 ((rd_T112 l0 x5_1).f1)) ∧ w'.cell? ⟨(ad183.add ((x5_1).toNat * 3)).block, (ad183.add ((x5_1).toNat * 3)).off + 2, none⟩ = some (.int .i64 ((rd_T112 l0 x5_1).f2)) ∧ w'.cell? (ad184.add ((x5_1).toNat * 3)) = some (.int .i64 ((rd_T112 l1 x5_1).f0)) ∧ w'.cell? ⟨(ad184.add ((x5_1).toNat * 3)).block, (ad184.add ((x5_1).toNat * 3)).off + 1, none⟩ = some (.int .i64 ((rd_T112 l1 x5_1).f1)) ∧ w'.cell? ⟨(ad184.add ((x5_1).toNat * 3)).block, (ad184.add ((x5_1).toNat * 3)).off + 2, none⟩ = some (.int .i64 ((rd_T112 l1 x5_1).f2))) (ds := []) (List.replicate 10 false).toArray (by kernel_rfl) rfl rfl ⟨(pc_ HB.out hw183_0), (pc_ HB.out hw183_1), (pc_ HB.out hw183_2), (pc_ HB.out hw184_0), (pc_ HB.out hw184_1), (pc_ HB.out hw184_2)⟩ (fun hHeld => ?_); refine with_tabW laws_eqDoneS.tab6 laws_eqDoneS.bits6 (fun HT_ HW_ => ?_)
    generalize wr.drew = w11 at HB hx183_0 hx183_1 hx183_2 hx184_0 hx184_1 hx184_2 hHeld ⊢
    refine pv_ 0 17 ?_
    refine pv_ 1 18 ?_
    refine pv_ 2 19 ?_
    refine pv_ 4 21 ?_
    refine pv_ 5 22 ?_
    refine pv_ 6 23 ?_
    refine tk_ 3 20 ?_
    refine tk_ 7 24 ?_
    refine on_ 8 25 (fun K hK => ?_)
    refine gs_ Try.func99 #[.agg #[.int .i64 ((rd_T112 l0 x5_1).f0), .int .i64 ((rd_T112 l0 x5_1).f1), .int .i64 ((rd_T112 l0 x5_1).f2)], .agg #[.int .i64 ((rd_T112 l1 x5_1).f0), .int .i64 ((rd_T112 l1 x5_1).f1), .int .i64 ((rd_T112 l1 x5_1).f2)]] rfl ma_ ?_
    with_reducible refine (laws_eqDone.calls ((rd_T112 l0 x5_1).f0) ((rd_T112 l0 x5_1).f1) ((rd_T112 l0 x5_1).f2) ((rd_T112 l1 x5_1).f0) ((rd_T112 l1 x5_1).f1) ((rd_T112 l1 x5_1).f2) false _ A7.out).mono ?_
    rintro e w12 ⟨rfl, hb⟩
    refine ⟨_, rfl, ?_⟩
    replace HB := nb_ hb
    (try clear hb)
    (try clear hb2)
    (try clear hk)
    (try clear hi)
    refine hK.out _ _ ⟨(pc_ HB.out hw183_0), (pc_ HB.out hw183_1), (pc_ HB.out hw183_2), (pc_ HB.out hw184_0), (pc_ HB.out hw184_1), (pc_ HB.out hw184_2)⟩ (fun hHeld => ?_)
    clear hK K
    refine no_ ?_
    refine pv_ 9 26 ?_
    refine done_ (done_of HT_.out (by kernel_rfl)) ?_
    try go_wp2
    go_ret
    exact ⟨er_, hb_⟩
   have H' := am_ H
   clear H
   try go_wp2
   replace HB := qH_ HB
   have p183 : 0 ≤ (x5_1 : Int) := oa_
   have q183 : x5_1 < (l0.length : Int) := oa_
   obtain ⟨ad183, e183, hx183_0, hx183_1, hx183_2⟩ := at_T112 HR0.out x5_1 p183 q183
   have hw183_2 := hx183_2
   have hw183_1 := hx183_1
   have hw183_0 := hx183_0
   cases e183
   replace hx183_0 := pc_ HB.out hx183_0
   replace hx183_1 := pc_ HB.out hx183_1
   replace hx183_2 := pc_ HB.out hx183_2
   replace p183 := eq_true p183
   replace q183 := eq_true q183
   have p184 : 0 ≤ (x5_1 : Int) := oa_
   have q184 : x5_1 < (l1.length : Int) := oa_
   obtain ⟨ad184, e184, hx184_0, hx184_1, hx184_2⟩ := at_T112 HR1.out x5_1 p184 q184
   have hw184_2 := hx184_2
   have hw184_1 := hx184_1
   have hw184_0 := hx184_0
   cases e184
   replace hx184_0 := pc_ HB.out hx184_0
   replace hx184_1 := pc_ HB.out hx184_1
   replace hx184_2 := pc_ HB.out hx184_2
   replace p184 := eq_true p184
   replace q184 := eq_true q184
   refine start_ (n := 10) (S := fun w' => w'.cell? (ad183.add ((x5_1).toNat * 3)) = some (.int .i64 ((rd_T112 l0 x5_1).f0)) ∧ w'.cell? ⟨(ad183.add ((x5_1).toNat * 3)).block, (ad183.add ((x5_1).toNat * 3)).off + 1, none⟩ = some (.int .i64 ((rd_T112 l0 x5_1).f1)) ∧ w'.cell? ⟨(ad183.add ((x5_1).toNat * 3)).block, (ad183.add ((x5_1).toNat * 3)).off + 2, none⟩ = some (.int .i64 ((rd_T112 l0 x5_1).f2)) ∧ w'.cell? (ad184.add ((x5_1).toNat * 3)) = some (.int .i64 ((rd_T112 l1 x5_1).f0)) ∧ w'.cell? ⟨(ad184.add ((x5_1).toNat * 3)).block, (ad184.add ((x5_1).toNat * 3)).off + 1, none⟩ = some (.int .i64 ((rd_T112 l1 x5_1).f1)) ∧ w'.cell? ⟨(ad184.add ((x5_1).toNat * 3)).block, (ad184.add ((x5_1).toNat * 3)).off + 2, none⟩ = some (.int .i64 ((rd_T112 l1 x5_1).f2))) (ds := []) (List.replicate 10 false).toArray (by kernel_rfl) rfl rfl ⟨(pc_ HB.out hw183_0), (pc_ HB.out hw183_1), (pc_ HB.out hw183_2), (pc_ HB.out hw184_0), (pc_ HB.out hw184_1), (pc_ HB.out hw184_2)⟩ (fun hHeld => ?_); refine with_tabW laws_eqDoneS.tab6 laws_eqDoneS.bits6 (fun HT_ HW_ => ?_)
   generalize wr.drew = w9 at HB hx183_0 hx183_1 hx183_2 hx184_0 hx184_1 hx184_2 hHeld ⊢
   refine pv_ 0 17 ?_
   refine pv_ 1 18 ?_
   refine pv_ 2 19 ?_
   refine pv_ 4 21 ?_
   refine pv_ 5 22 ?_
   refine pv_ 6 23 ?_
   refine tk_ 3 20 ?_
   refine tk_ 7 24 ?_
   refine on_ 8 25 (fun K hK => ?_)
   refine gs_ Try.func99 #[.agg #[.int .i64 ((rd_T112 l0 x5_1).f0), .int .i64 ((rd_T112 l0 x5_1).f1), .int .i64 ((rd_T112 l0 x5_1).f2)], .agg #[.int .i64 ((rd_T112 l1 x5_1).f0), .int .i64 ((rd_T112 l1 x5_1).f1), .int .i64 ((rd_T112 l1 x5_1).f2)]] rfl ma_ ?_
   with_reducible refine (laws_eqDone.calls ((rd_T112 l0 x5_1).f0) ((rd_T112 l0 x5_1).f1) ((rd_T112 l0 x5_1).f2) ((rd_T112 l1 x5_1).f0) ((rd_T112 l1 x5_1).f1) ((rd_T112 l1 x5_1).f2) true _ A7.out).mono ?_
   rintro e w10 ⟨rfl, hb⟩
   refine ⟨_, rfl, ?_⟩
   replace HB := nb_ hb
   (try clear hb)
   (try clear hb2)
   (try clear hk)
   (try clear hi)
   refine hK.out _ _ ⟨(pc_ HB.out hw183_0), (pc_ HB.out hw183_1), (pc_ HB.out hw183_2), (pc_ HB.out hw184_0), (pc_ HB.out hw184_1), (pc_ HB.out hw184_2)⟩ (fun hHeld => ?_)
   clear hK K
   refine no_ ?_
   refine pv_ 9 26 ?_
   refine done_ (done_of HT_.out (by kernel_rfl)) ?_
   try go_wp2
   go_roundg k1
   case measure => have := HK1.out; omega
   case rel => exact ⟨(wrap64 (x5_1 + 1)), sr_, H', ⟨by have := HK1.out; omega⟩, ⟨hb_⟩⟩

end Go.Proofs.Ytojdaolclcmalaa.QFnExactNextSeq
