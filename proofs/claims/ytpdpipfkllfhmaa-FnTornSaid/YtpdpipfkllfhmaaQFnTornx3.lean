/- Functions that one statement reaches: of each a plain function, and the proof that calls come to it. Conditions: those that each contract names. Written by a program of this repository. -/
import Derived.Test.YtpdpipfkllfhmaaVFnTorna
import Derived.Test.YtpdpipfkllfhmaaQFnTornx2
namespace Go.Proofs.Ytpdpipfkllfhmaa.QFnTorn
open Go.RowKit Go.Proofs.YtpdpipfkllfhmaaW.PrintWords Go.Proofs.YtpdpipfkllfhmaaW.PrintLast Go.Proofs.YtpdpipfkllfhmaaW.PrintMore
attribute [local go_sem] max2_int min2_int max_two min_two max_three min_three max_four min_four Go.Proofs.YtpdpipfkllfhmaaW.PrintMore2.isSome_setCell   -- for this text's walks alone
set_option linter.unusedVariables false
set_option linter.unusedSimpArgs false

/-! ### spec_l1Batch: function 61 -/
def spec_l1Batch.l0 : Nat → ByteArray → List ByteArray → Int → Int → Option (ByteArray)
 | 0, _, _, _, _ => none
 | k + 1, x3, x27, x28, x29 => if x29 < x28 then (if 0 ≤ x29 then (if x29 < (x27.length : Int) then ((spec_l1Bytes.f k ((rdOf ByteArray.empty x27 x29).size : Int) 1).bind fun t127 => (if t127.size + (rdOf ByteArray.empty x27 x29).size ≤ 9223372036854775807 then (if x3.size + (t127 ++ (rdOf ByteArray.empty x27 x29)).size ≤ 9223372036854775807 then (spec_l1Batch.l0 k (x3 ++ (t127 ++ (rdOf ByteArray.empty x27 x29))) x27 x28 (wrap64 (x29 + 1))) else (none)) else (none))) else (none)) else (none)) else ((spec_l1Bytes.f k (wrap64 ((x3.size : Int) + 2)) 2).bind fun t128 => (if t128.size + x3.size ≤ 9223372036854775807 then ((spec_l1Sum.f k (t128 ++ x3)).bind fun t129 => ((spec_l1Bytes.f k t129 2).bind fun t130 => (if (t128 ++ x3).size + t130.size ≤ 9223372036854775807 then (some ((t128 ++ x3) ++ t130)) else (none)))) else (none)))
def spec_l1Batch.f (k : Nat) (a0_0 : Int) (a0_1 : Int) (a0_2 : Int) (a0_3 : Int) (l0_4 : List ByteArray) : Option (ByteArray) := (spec_l1Bytes.f k a0_0 3).bind fun t121 => ((spec_l1Bytes.f k a0_1 2).bind fun t122 => (if t121.size + t122.size ≤ 9223372036854775807 then ((spec_l1Bytes.f k a0_2 2).bind fun t123 => (if (t121 ++ t122).size + t123.size ≤ 9223372036854775807 then ((spec_l1Bytes.f k a0_3 2).bind fun t124 => (if ((t121 ++ t122) ++ t123).size + t124.size ≤ 9223372036854775807 then ((spec_l1Bytes.f k (l0_4.length : Int) 1).bind fun t125 => (if (((t121 ++ t122) ++ t123) ++ t124).size + t125.size ≤ 9223372036854775807 then (spec_l1Batch.l0 k ((((t121 ++ t122) ++ t123) ++ t124) ++ t125) l0_4 (l0_4.length : Int) 0) else (none))) else (none))) else (none))) else (none)))
theorem spec_l1Batch.mono_l : ∀ k, (∀ y0 y1 y2 y3, LeO (spec_l1Batch.l0 k y0 y1 y2 y3) (spec_l1Batch.l0 (k + 1) y0 y1 y2 y3))
 | 0 => fun _ _ _ _ r h => by simp [spec_l1Batch.l0] at h
 | k + 1 => by
  have ih0 := spec_l1Batch.mono_l k
  ·intro y0 y1 y2 y3
   unfold spec_l1Batch.l0
   repeat' first
   | (with_reducible first | apply ih0 | apply spec_l1Bytes.mono | apply spec_l1Sum.mono | exact LeO.refl _ | exact LeO.none _ | refine LeO.ite ?_ ?_ | refine LeO.bind ?_ (fun _ => ?_))
theorem spec_l1Batch.mono : ∀ a0 a1 a2 a3 a4 k, LeO (spec_l1Batch.f k a0 a1 a2 a3 a4) (spec_l1Batch.f (k + 1) a0 a1 a2 a3 a4) := by
 intro a0 a1 a2 a3 a4 k
 have ih0 := spec_l1Batch.mono_l k
 unfold spec_l1Batch.f
 repeat' first
   | (with_reducible first | apply ih0 | apply spec_l1Bytes.mono | apply spec_l1Sum.mono | exact LeO.refl _ | exact LeO.none _ | refine LeO.ite ?_ ?_ | refine LeO.bind ?_ (fun _ => ?_))
def spec_l1Batch.T1 : Bool × List (List Nat × List Nat) := (true, [([], []), ([0], [0]), ([1], [1]), ([], []), ([3], [3]), ([4, 2], [4]), ([2, 5], [2, 5]), ([], []), ([7], [7]), ([8, 5], [8]), ([6, 9], [6, 9]), ([], []), ([11], [11]), ([12, 9], [12]), ([10, 13], [10, 13]), ([], []), ([15], [15]), ([16], [16]), ([17, 13], [17]), ([14, 18], [14, 18]), ([19, 18, 0, 1, 2, 3, 4, 5, 6, 7, 8, 9, 10, 11, 12, 13, 14, 15, 16, 17, 18, 19], [19])])
def spec_l1Batch.B1 : List Nat := [0, 1, 3, 0, 8, 31, 63, 0, 128, 447, 1023, 0, 2048, 7103, 16383, 0, 32768, 98304, 244671, 524287, 1048575]
theorem spec_l1Batch.tab1 : rtab .any (opsOf Try.f61 1) = spec_l1Batch.T1 := by kernel_rfl
theorem spec_l1Batch.bits1 : waitsOk spec_l1Batch.T1.2 spec_l1Batch.B1 = true := by kernel_rfl
set_option maxHeartbeats 8000000 in
set_option maxRecDepth 100000 in
theorem spec_l1Batch.calls (k : Nat) (a0_0 : Int) (a0_1 : Int) (a0_2 : Int) (a0_3 : Int) (A0_4 : Option Addr) (c0_4 : Nat) (l0_4 : List ByteArray) (r : ByteArray) (w : World) (hr0_4 : Kd.C Kd.string w A0_4 l0_4.length l0_4) (hc0_4 : l0_4.length ≤ c0_4) (h : spec_l1Batch.f k a0_0 a0_1 a0_2 a0_3 l0_4 = some r) :
  Calls Try.prog 61 #[.agg #[.int .i64 a0_0, .int .i64 a0_1, .int .i64 a0_2, .int .i64 a0_3, .slice A0_4 l0_4.length c0_4]] w fun e w' => e = .returned (.string r) ∧ Below w.heap.size w w' := by
 have hu44 := Try.underlying44
 have HR0_4 := Aside0.mk hr0_4
 have HC0_4 := Aside0.mk hc0_4
 clear hr0_4 hc0_4
 have HB := Aside0.mk (Below.refl w.heap.size w)
 have H : ((spec_l1Bytes.f k a0_0 3).bind fun t121 => ((spec_l1Bytes.f k a0_1 2).bind fun t122 => (if t121.size + t122.size ≤ 9223372036854775807 then ((spec_l1Bytes.f k a0_2 2).bind fun t123 => (if (t121 ++ t122).size + t123.size ≤ 9223372036854775807 then ((spec_l1Bytes.f k a0_3 2).bind fun t124 => (if ((t121 ++ t122) ++ t123).size + t124.size ≤ 9223372036854775807 then ((spec_l1Bytes.f k (l0_4.length : Int) 1).bind fun t125 => (if (((t121 ++ t122) ++ t123) ++ t124).size + t125.size ≤ 9223372036854775807 then (spec_l1Batch.l0 k ((((t121 ++ t122) ++ t123) ++ t124) ++ t125) l0_4 (l0_4.length : Int) 0) else (none))) else (none))) else (none))) else (none)))) = some r := h
 clear h
 replace H := bnd_ H
 obtain ⟨t121, A2, H⟩ := H
 replace H := bnd_ H
 obtain ⟨t122, A3, H⟩ := H
 replace H := ifs_ H
 obtain ⟨c4, H⟩ := H
 have c4b0 := eq_true c4
 have c4b1 := decide_eq_true c4
 try have c4b2 : (9223372036854775807 < t121.size + t122.size) = False := eq_false (Nat.not_lt.2 c4)
 try have c4w := cw_ c4
 replace H := bnd_ H
 obtain ⟨t123, A5, H⟩ := H
 replace H := ifs_ H
 obtain ⟨c6, H⟩ := H
 have c6b0 := eq_true c6
 have c6b1 := decide_eq_true c6
 try have c6b2 : (9223372036854775807 < (t121 ++ t122).size + t123.size) = False := eq_false (Nat.not_lt.2 c6)
 try have c6b3 : t121.size + t122.size + t123.size ≤ 9223372036854775807 := by (have h_ := c6; simp only [ByteArray.size_append] at h_; exact h_)
 try have c6b4 : (9223372036854775807 < t121.size + t122.size + t123.size) = False := eq_false (Nat.not_lt.2 c6b3)
 try have c6w := cw_ c6
 (try rw [c6w] at c4b0)
 replace H := bnd_ H
 obtain ⟨t124, A7, H⟩ := H
 replace H := ifs_ H
 obtain ⟨c8, H⟩ := H
 have c8b0 := eq_true c8
 have c8b1 := decide_eq_true c8
 try have c8b2 : (9223372036854775807 < ((t121 ++ t122) ++ t123).size + t124.size) = False := eq_false (Nat.not_lt.2 c8)
 try have c8b3 : t121.size + t122.size + t123.size + t124.size ≤ 9223372036854775807 := by (have h_ := c8; simp only [ByteArray.size_append] at h_; exact h_)
 try have c8b4 : (9223372036854775807 < t121.size + t122.size + t123.size + t124.size) = False := eq_false (Nat.not_lt.2 c8b3)
 try have c8w := cw_ c8
 (try rw [c8w] at c4b0)
 (try rw [c8w] at c6b0)
 replace H := bnd_ H
 obtain ⟨t125, A9, H⟩ := H
 replace H := ifs_ H
 obtain ⟨c10, H⟩ := H
 have c10b0 := eq_true c10
 have c10b1 := decide_eq_true c10
 try have c10b2 : (9223372036854775807 < (((t121 ++ t122) ++ t123) ++ t124).size + t125.size) = False := eq_false (Nat.not_lt.2 c10)
 try have c10b3 : t121.size + t122.size + t123.size + t124.size + t125.size ≤ 9223372036854775807 := by (have h_ := c10; simp only [ByteArray.size_append] at h_; exact h_)
 try have c10b4 : (9223372036854775807 < t121.size + t122.size + t123.size + t124.size + t125.size) = False := eq_false (Nat.not_lt.2 c10b3)
 try have c10w := cw_ c10
 (try rw [c10w] at c4b0)
 (try rw [c10w] at c6b0)
 (try rw [c10w] at c8b0)
 have H' := Aside0.mk H
 clear H
 go_enter Try.func61, Try.ntmps61
 try go_wp2_with (first | ((with_reducible refine gate_dst (N := 1) rfl ?_); refine bq_ (N := 1) #[.int .i64 a0_0, .int .i64 a0_1, .int .i64 a0_2, .int .i64 a0_3, .slice A0_4 l0_4.length c0_4] 44 ?_; intro gb120 hg w11 BK120 hb; have GE120 := ge_ hg; replace HB := nb_ hb; clear hb hg))
 replace BK120 := qK_ BK120
 replace HB := qH_ HB
 refine start_ (n := 21) (S := fun w' => w'.cell? ⟨gb120, 0, none⟩ = some (.int .i64 a0_0) ∧ w'.cell? ⟨gb120, 1, none⟩ = some (.int .i64 a0_1) ∧ w'.cell? ⟨gb120, 2, none⟩ = some (.int .i64 a0_2) ∧ w'.cell? ⟨gb120, 3, none⟩ = some (.int .i64 a0_3) ∧ w'.cell? ⟨gb120, 4, none⟩ = some (.slice A0_4 l0_4.length c0_4)) (ds := []) (List.replicate 21 false).toArray (by kernel_rfl) rfl rfl ⟨bt_ BK120 0, bt_ BK120 1, bt_ BK120 2, bt_ BK120 3, bt_ BK120 4⟩ (fun hHeld => ?_); refine with_tabW spec_l1Batch.tab1 spec_l1Batch.bits1 (fun HT_ HW_ => ?_)
 generalize w11.drew = w12 at BK120 HB hHeld ⊢
 refine pv_ 0 6 ?_
 refine pv_ 3 9 ?_
 refine pv_ 7 13 ?_
 refine pv_ 11 17 ?_
 refine pv_ 15 21 ?_
 refine tk_ 1 7 ?_
 refine tk_ 4 10 ?_
 refine tk_ 8 14 ?_
 refine tk_ 12 18 ?_
 refine tk_ 16 22 ?_
 refine pv_ 17 23 ?_
 refine on_ 2 8 (fun K hK => ?_)
 refine gs_ Try.func86 #[.int .i64 a0_0, .int .i64 3] rfl ma_ ?_
 with_reducible refine (spec_l1Bytes.calls k a0_0 3 t121 _ A2.out).mono ?_
 rintro e w13 ⟨rfl, hb⟩
 refine ⟨_, rfl, ?_⟩
 replace BK120 := bK_ BK120 hb
 replace HB := nc_ GE120 hb
 (try clear hb)
 (try clear hb2)
 (try clear hk)
 (try clear hi)
 refine hK.out _ _ ⟨bt_ BK120 0, bt_ BK120 1, bt_ BK120 2, bt_ BK120 3, bt_ BK120 4⟩ (fun hHeld => ?_)
 clear hK K
 refine no_ ?_
 refine on_ 5 11 (fun K hK => ?_)
 refine gs_ Try.func86 #[.int .i64 a0_1, .int .i64 2] rfl ma_ ?_
 with_reducible refine (spec_l1Bytes.calls k a0_1 2 t122 _ A3.out).mono ?_
 rintro e w14 ⟨rfl, hb⟩
 refine ⟨_, rfl, ?_⟩
 replace BK120 := bK_ BK120 hb
 replace HB := nc_ GE120 hb
 (try clear hb)
 (try clear hb2)
 (try clear hk)
 (try clear hi)
 refine hK.out _ _ ⟨bt_ BK120 0, bt_ BK120 1, bt_ BK120 2, bt_ BK120 3, bt_ BK120 4⟩ (fun hHeld => ?_)
 clear hK K
 refine no_ ?_
 refine pv_ 6 12 ?_
 refine on_ 9 15 (fun K hK => ?_)
 refine gs_ Try.func86 #[.int .i64 a0_2, .int .i64 2] rfl ma_ ?_
 with_reducible refine (spec_l1Bytes.calls k a0_2 2 t123 _ A5.out).mono ?_
 rintro e w15 ⟨rfl, hb⟩
 refine ⟨_, rfl, ?_⟩
 replace BK120 := bK_ BK120 hb
 replace HB := nc_ GE120 hb
 (try clear hb)
 (try clear hb2)
 (try clear hk)
 (try clear hi)
 refine hK.out _ _ ⟨bt_ BK120 0, bt_ BK120 1, bt_ BK120 2, bt_ BK120 3, bt_ BK120 4⟩ (fun hHeld => ?_)
 clear hK K
 refine no_ ?_
 refine pv_ 10 16 ?_
 refine on_ 13 19 (fun K hK => ?_)
 refine gs_ Try.func86 #[.int .i64 a0_3, .int .i64 2] rfl ma_ ?_
 with_reducible refine (spec_l1Bytes.calls k a0_3 2 t124 _ A7.out).mono ?_
 rintro e w16 ⟨rfl, hb⟩
 refine ⟨_, rfl, ?_⟩
 replace BK120 := bK_ BK120 hb
 replace HB := nc_ GE120 hb
 (try clear hb)
 (try clear hb2)
 (try clear hk)
 (try clear hi)
 refine hK.out _ _ ⟨bt_ BK120 0, bt_ BK120 1, bt_ BK120 2, bt_ BK120 3, bt_ BK120 4⟩ (fun hHeld => ?_)
 clear hK K
 refine no_ ?_
 refine pv_ 14 20 ?_
 refine on_ 18 24 (fun K hK => ?_)
 refine gs_ Try.func86 #[.int .i64 (l0_4.length : Int), .int .i64 1] rfl ma_ ?_
 with_reducible refine (spec_l1Bytes.calls k (l0_4.length : Int) 1 t125 _ A9.out).mono ?_
 rintro e w17 ⟨rfl, hb⟩
 refine ⟨_, rfl, ?_⟩
 replace BK120 := bK_ BK120 hb
 replace HB := nc_ GE120 hb
 (try clear hb)
 (try clear hb2)
 (try clear hk)
 (try clear hi)
 refine hK.out _ _ ⟨bt_ BK120 0, bt_ BK120 1, bt_ BK120 2, bt_ BK120 3, bt_ BK120 4⟩ (fun hHeld => ?_)
 clear hK K
 refine no_ ?_
 refine pv_ 19 25 ?_
 refine pv_ 20 3 ?_
 refine done_ (done_of HT_.out (by kernel_rfl)) ?_
 obtain ⟨hcz18_0, hcz18_1, hcz18_2, hcz18_3, hcz18_4, hfz18_0, hfz18_1, hfz18_2, hfz18_3, hfz18_4⟩ := cf5_ BK120.out
 try go_wp2
 go_loopg [3, 29] k (fun kq v3 v29 w' => ∃ (x3_1 : ByteArray) (x29_1 : Int), v3 = .string x3_1 ∧ v29 = .int .i64 x29_1 ∧ Aside0 (spec_l1Batch.l0 kq x3_1 l0_4 (l0_4.length : Int) x29_1 = some r) ∧ Aside0 (kq ≤ k) ∧ Aside0 (w'.heap[gb120]? = some (.cells #[.int .i64 a0_0, .int .i64 a0_1, .int .i64 a0_2, .int .i64 a0_3, (.slice A0_4 l0_4.length c0_4)] 44 (0, 0))) ∧ Aside0 (Below w.heap.size w w'))
 case atStart => exact ⟨((((t121 ++ t122) ++ t123) ++ t124) ++ t125), (0), sr_, sr_, H', ⟨Nat.le_refl _⟩, ⟨kb_ BK120.out⟩, ⟨hs_ GE120.out⟩⟩
 case round =>
  clear H'
  try clear c4
  try clear c4b0
  try clear c4b1
  try clear c4b2
  try clear c6
  try clear c6b0
  try clear c6b1
  try clear c6b2
  try clear c8
  try clear c8b0
  try clear c8b1
  try clear c8b2
  try clear c10
  try clear c10b0
  try clear c10b1
  try clear c10b2
  try clear hcz18_0
  try clear hcz18_1
  try clear hcz18_2
  try clear hcz18_3
  try clear hcz18_4
  try clear hfz18_0
  try clear hfz18_1
  try clear hfz18_2
  try clear hfz18_3
  try clear hfz18_4
  obtain ⟨x3_1, x29_1, rfl, rfl, HA, HK1, BK120, HB⟩ := hrel
  cases gk with
  | zero => exact absurd HA.out (by simp [spec_l1Batch.l0])
  | succ k1 =>
   have H := HA.out
   clear HA
   simp only [spec_l1Batch.l0] at H
   replace H := ite_ H
   obtain ⟨c19, H⟩ | ⟨c19, H⟩ := H
   ·have c19b0 := decide_eq_true c19
    clear c19
    replace H := ifs_ H
    obtain ⟨c20, H⟩ := H
    have c20b0 := decide_eq_true c20
    clear c20
    replace H := ifs_ H
    obtain ⟨c21, H⟩ := H
    have c21b0 := decide_eq_true c21
    clear c21
    replace H := bnd_ H
    obtain ⟨t127, A22, H⟩ := H
    replace H := ifs_ H
    obtain ⟨c23, H⟩ := H
    have c23b0 := eq_true c23
    have c23b1 := decide_eq_true c23
    try have c23b2 : (9223372036854775807 < t127.size + (rdOf ByteArray.empty l0_4 x29_1).size) = False := eq_false (Nat.not_lt.2 c23)
    try have c23w := cw_ c23
    (try rw [c23w] at c4b0)
    (try rw [c23w] at c6b0)
    (try rw [c23w] at c8b0)
    (try rw [c23w] at c10b0)
    (try rw [c23w] at c19b0)
    (try rw [c23w] at c20b0)
    (try rw [c23w] at c21b0)
    replace H := ifs_ H
    obtain ⟨c24, H⟩ := H
    have c24b0 := eq_true c24
    have c24b1 := decide_eq_true c24
    try have c24b2 : (9223372036854775807 < x3_1.size + (t127 ++ (rdOf ByteArray.empty l0_4 x29_1)).size) = False := eq_false (Nat.not_lt.2 c24)
    try have c24b3 : x3_1.size + (t127.size + (rdOf ByteArray.empty l0_4 x29_1).size) ≤ 9223372036854775807 := by (have h_ := c24; simp only [ByteArray.size_append] at h_; exact h_)
    try have c24b4 : (9223372036854775807 < x3_1.size + (t127.size + (rdOf ByteArray.empty l0_4 x29_1).size)) = False := eq_false (Nat.not_lt.2 c24b3)
    try have c24w := cw_ c24
    (try rw [c24w] at c4b0)
    (try rw [c24w] at c6b0)
    (try rw [c24w] at c8b0)
    (try rw [c24w] at c10b0)
    (try rw [c24w] at c19b0)
    (try rw [c24w] at c20b0)
    (try rw [c24w] at c21b0)
    (try rw [c24w] at c23b0)
    have H' := Aside0.mk H
    clear H
    have p126 : 0 ≤ (x29_1 : Int) := oa_
    have q126 : x29_1 < (l0_4.length : Int) := oa_
    obtain ⟨ad126, e126, hx126_0⟩ := Kd.at_string HR0_4.out x29_1 p126 q126
    cases e126
    replace hx126_0 := pc_ HB.out hx126_0
    replace p126 := eq_true p126
    replace q126 := eq_true q126
    go_wp2_with (first | ((with_reducible refine gate_callee (f := 86) rfl ?_); refine gl_ 36 Try.func86 #[.int .i64 ((rdOf ByteArray.empty l0_4 x29_1).size : Int), .int .i64 1] rfl ma_ ?_; (with_reducible refine (spec_l1Bytes.calls k1 ((rdOf ByteArray.empty l0_4 x29_1).size : Int) 1 t127 _ A22.out).mono ?_); rintro e w25 ⟨rfl, hb⟩; refine ⟨_, rfl, ?_⟩; replace BK120 := bK_ BK120 hb; replace HB := nc_ GE120 hb; (try clear hb); (try clear hb2); (try clear hk); (try clear hi)))
    go_roundg k1
    case measure => have := HK1.out; omega
    case rel => exact ⟨(x3_1 ++ (t127 ++ (rdOf ByteArray.empty l0_4 x29_1))), (wrap64 (x29_1 + 1)), sr_, sr_, H', ⟨by have := HK1.out; omega⟩, ⟨kb_ BK120.out⟩, ⟨hs_ GE120.out⟩⟩
   have c19b0 := decide_eq_false c19
   clear c19
   replace H := bnd_ H
   obtain ⟨t128, A26, H⟩ := H
   replace H := ifs_ H
   obtain ⟨c27, H⟩ := H
   have c27b0 := eq_true c27
   have c27b1 := decide_eq_true c27
   try have c27b2 : (9223372036854775807 < t128.size + x3_1.size) = False := eq_false (Nat.not_lt.2 c27)
   try have c27w := cw_ c27
   (try rw [c27w] at c4b0)
   (try rw [c27w] at c6b0)
   (try rw [c27w] at c8b0)
   (try rw [c27w] at c10b0)
   (try rw [c27w] at c19b0)
   (try rw [c27w] at c20b0)
   (try rw [c27w] at c21b0)
   (try rw [c27w] at c23b0)
   (try rw [c27w] at c24b0)
   replace H := bnd_ H
   obtain ⟨t129, A28, H⟩ := H
   replace H := bnd_ H
   obtain ⟨t130, A29, H⟩ := H
   replace H := ifs_ H
   obtain ⟨c30, H⟩ := H
   have c30b0 := eq_true c30
   have c30b1 := decide_eq_true c30
   try have c30b2 : (9223372036854775807 < (t128 ++ x3_1).size + t130.size) = False := eq_false (Nat.not_lt.2 c30)
   try have c30b3 : t128.size + x3_1.size + t130.size ≤ 9223372036854775807 := by (have h_ := c30; simp only [ByteArray.size_append] at h_; exact h_)
   try have c30b4 : (9223372036854775807 < t128.size + x3_1.size + t130.size) = False := eq_false (Nat.not_lt.2 c30b3)
   try have c30w := cw_ c30
   (try rw [c30w] at c4b0)
   (try rw [c30w] at c6b0)
   (try rw [c30w] at c8b0)
   (try rw [c30w] at c10b0)
   (try rw [c30w] at c19b0)
   (try rw [c30w] at c20b0)
   (try rw [c30w] at c21b0)
   (try rw [c30w] at c23b0)
   (try rw [c30w] at c24b0)
   (try rw [c30w] at c27b0)
   obtain rfl := Option.some.inj H
   go_wp2_with (first | ((with_reducible refine gate_callee (f := 86) rfl ?_); refine gl_ 44 Try.func86 #[.int .i64 (wrap64 ((x3_1.size : Int) + 2)), .int .i64 2] rfl ma_ ?_; (with_reducible refine (spec_l1Bytes.calls k1 (wrap64 ((x3_1.size : Int) + 2)) 2 t128 _ A26.out).mono ?_); rintro e w31 ⟨rfl, hb⟩; refine ⟨_, rfl, ?_⟩; replace BK120 := bK_ BK120 hb; replace HB := nc_ GE120 hb; (try clear hb); (try clear hb2); (try clear hk); (try clear hi)) | ((with_reducible refine gate_callee (f := 87) rfl ?_); refine gl_ 49 Try.func87 #[.string (t128 ++ x3_1)] rfl ma_ ?_; (with_reducible refine (spec_l1Sum.calls k1 (t128 ++ x3_1) t129 _ A28.out).mono ?_); rintro e w' ⟨rfl, ⟨nd, rfl⟩⟩; refine ⟨_, rfl, ?_⟩) | ((with_reducible refine gate_callee (f := 86) rfl ?_); refine gl_ 50 Try.func86 #[.int .i64 t129, .int .i64 2] rfl ma_ ?_; (with_reducible refine (spec_l1Bytes.calls k1 t129 2 t130 _ A29.out).mono ?_); rintro e w32 ⟨rfl, hb⟩; refine ⟨_, rfl, ?_⟩; replace BK120 := bK_ BK120 hb; replace HB := nc_ GE120 hb; (try clear hb); (try clear hb2); (try clear hk); (try clear hi)))
   go_ret
   exact ⟨er_, hs_ GE120.out⟩

/-! ### spec_l1Value: function 97 -/
def spec_l1Value.l0 : Nat → ByteArray → Int → Int → Option (Int)
 | 0, _, _, _ => none
 | k + 1, x0, x3, x4 => if x4 < (x0.size : Int) then (if 0 ≤ x4 then (spec_l1Value.l0 k x0 (Go.bits .or .i64 (wrap64 (x3 * 256)) (wrap64 (bt x0 x4))) (wrap64 (x4 + 1))) else (none)) else (some x3)
def spec_l1Value.f (k : Nat) (a0 : ByteArray) : Option (Int) := spec_l1Value.l0 k a0 0 0
theorem spec_l1Value.mono_l : ∀ k, (∀ y0 y1 y2, LeO (spec_l1Value.l0 k y0 y1 y2) (spec_l1Value.l0 (k + 1) y0 y1 y2))
 | 0 => fun _ _ _ r h => by simp [spec_l1Value.l0] at h
 | k + 1 => by
  have ih0 := spec_l1Value.mono_l k
  ·intro y0 y1 y2
   unfold spec_l1Value.l0
   repeat' first
   | (with_reducible first | apply ih0 | exact LeO.refl _ | exact LeO.none _ | refine LeO.ite ?_ ?_ | refine LeO.bind ?_ (fun _ => ?_))
theorem spec_l1Value.mono : ∀ a0 k, LeO (spec_l1Value.f k a0) (spec_l1Value.f (k + 1) a0) := by
 intro a0 k
 have ih0 := spec_l1Value.mono_l k
 unfold spec_l1Value.f
 repeat' first
   | (with_reducible first | apply ih0 | exact LeO.refl _ | exact LeO.none _ | refine LeO.ite ?_ ?_ | refine LeO.bind ?_ (fun _ => ?_))
set_option maxHeartbeats 8000000 in
set_option maxRecDepth 100000 in
theorem spec_l1Value.calls (k : Nat) (a0 : ByteArray) (r : Int) (w : World) (h : spec_l1Value.f k a0 = some r) :
  Calls Try.prog 97 #[.string a0] w fun e w' => e = .returned (.int .i64 r) ∧ Drawn0 w w' := by
 have H : (spec_l1Value.l0 k a0 0 0) = some r := h
 clear h
 have H' := Aside0.mk H
 clear H
 go_enter Try.func97, Try.ntmps97
 go_wp2
 go_loopg [3, 4] k (fun kq v3 v4 w' => ∃ (x3_1 : Int) (x4_1 : Int), v3 = .int .i64 x3_1 ∧ v4 = .int .i64 x4_1 ∧ Aside0 (spec_l1Value.l0 kq a0 x3_1 x4_1 = some r) ∧ Aside0 (kq ≤ k) ∧ Drawn0 w w')
 case atStart => exact ⟨(0), (0), sr_, sr_, H', ⟨Nat.le_refl _⟩, dr_⟩
 case round =>
  clear H'
  obtain ⟨x3_1, x4_1, rfl, rfl, HA, HK1, ⟨m1, rfl⟩⟩ := hrel
  cases gk with
  | zero => exact absurd HA.out (by simp [spec_l1Value.l0])
  | succ k1 =>
   have H := HA.out
   clear HA
   simp only [spec_l1Value.l0] at H
   replace H := ite_ H
   obtain ⟨c2, H⟩ | ⟨c2, H⟩ := H
   rotate_left
   ·have c2b0 := decide_eq_false c2
    clear c2
    obtain rfl := Option.some.inj H
    go_wp2
    go_ret
    exact ⟨by first | rfl | (simp; done) | (simp [*]; done), dr_⟩
   have c2b0 := decide_eq_true c2
   clear c2
   replace H := ifs_ H
   obtain ⟨c3, H⟩ := H
   have c3b0 := decide_eq_true c3
   clear c3
   have H' := Aside0.mk H
   clear H
   have p4 : 0 ≤ (x4_1 : Int) := oa_
   have q4 : x4_1 < (a0.size : Int) := oa_
   have hx4 := bt_at a0 x4_1
   replace p4 := eq_true p4
   replace q4 := eq_true q4
   go_wp2
   go_roundg k1
   case measure => have := HK1.out; omega
   case rel => exact ⟨(Go.bits .or .i64 (wrap64 (x3_1 * 256)) (wrap64 (bt a0 x4_1))), (wrap64 (x4_1 + 1)), sr_, sr_, H', ⟨by have := HK1.out; omega⟩, dr_⟩
end Go.Proofs.Ytpdpipfkllfhmaa.QFnTorn
