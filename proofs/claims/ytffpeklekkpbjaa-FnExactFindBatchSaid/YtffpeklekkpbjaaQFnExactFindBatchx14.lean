/- Functions that one statement reaches: of each a plain function, and the proof that calls come to it. Conditions: those that each contract names. Written by a program of this repository. -/
import Derived.Test.YtffpeklekkpbjaaVFindBatcha
import Derived.Test.YtffpeklekkpbjaaQFnExactFindBatchx0
import Derived.Test.YtffpeklekkpbjaaQFnExactFindBatchx13
namespace Go.Proofs.Ytffpeklekkpbjaa.QFnExactFindBatch
open Go.RowKit Go.Proofs.YtffpeklekkpbjaaW.PrintWords Go.Proofs.YtffpeklekkpbjaaW.PrintLast Go.Proofs.YtffpeklekkpbjaaW.PrintMore
attribute [local go_sem] max2_int min2_int max_two min_two max_three min_three max_four min_four Go.Proofs.YtffpeklekkpbjaaW.PrintMore2.isSome_setCell   -- for this text's walks alone
set_option linter.unusedVariables false
set_option linter.unusedSimpArgs false

/-! ### impl_batchBytes: function 84 -/
def impl_batchBytes.l0 : Nat → ByteArray → List ByteArray → Int → Int → Option (ByteArray)
 | 0, _, _, _, _ => none
 | k + 1, x3, x28, x29, x30 => if x30 < x29 then (if 0 ≤ x30 then (if x30 < (x28.length : Int) then ((impl_put.f k ((rdOf ByteArray.empty x28 x30).size : Int) 1).bind fun t298 => (if t298.size + (rdOf ByteArray.empty x28 x30).size ≤ 9223372036854775807 then (if x3.size + (t298 ++ (rdOf ByteArray.empty x28 x30)).size ≤ 9223372036854775807 then (impl_batchBytes.l0 k (x3 ++ (t298 ++ (rdOf ByteArray.empty x28 x30))) x28 x29 (wrap64 (x30 + 1))) else (none)) else (none))) else (none)) else (none)) else ((impl_put.f k (wrap64 ((x3.size : Int) + 2)) 2).bind fun t299 => (if t299.size + x3.size ≤ 9223372036854775807 then ((impl_sumOf.f k (t299 ++ x3)).bind fun t300 => ((impl_put.f k t300 2).bind fun t301 => (if (t299 ++ x3).size + t301.size ≤ 9223372036854775807 then (some ((t299 ++ x3) ++ t301)) else (none)))) else (none)))
def impl_batchBytes.f (k : Nat) (a0_0 : Int) (a0_1 : Int) (a0_2 : Int) (a0_3 : Int) (l0_4 : List ByteArray) : Option (ByteArray) := (impl_put.f k a0_0 3).bind fun t292 => ((impl_put.f k a0_1 2).bind fun t293 => (if t292.size + t293.size ≤ 9223372036854775807 then ((impl_put.f k a0_2 2).bind fun t294 => (if (t292 ++ t293).size + t294.size ≤ 9223372036854775807 then ((impl_put.f k a0_3 2).bind fun t295 => (if ((t292 ++ t293) ++ t294).size + t295.size ≤ 9223372036854775807 then ((impl_put.f k (l0_4.length : Int) 1).bind fun t296 => (if (((t292 ++ t293) ++ t294) ++ t295).size + t296.size ≤ 9223372036854775807 then (impl_batchBytes.l0 k ((((t292 ++ t293) ++ t294) ++ t295) ++ t296) l0_4 (l0_4.length : Int) 0) else (none))) else (none))) else (none))) else (none)))
theorem impl_batchBytes.mono_l : ∀ k, (∀ y0 y1 y2 y3, LeO (impl_batchBytes.l0 k y0 y1 y2 y3) (impl_batchBytes.l0 (k + 1) y0 y1 y2 y3))
 | 0 => fun _ _ _ _ r h => by simp [impl_batchBytes.l0] at h
 | k + 1 => by
  have ih0 := impl_batchBytes.mono_l k
  ·intro y0 y1 y2 y3
   unfold impl_batchBytes.l0
   repeat' first
   | (with_reducible first | apply ih0 | apply impl_put.mono | apply impl_sumOf.mono | exact LeO.refl _ | exact LeO.none _ | refine LeO.ite ?_ ?_ | refine LeO.bind ?_ (fun _ => ?_))
theorem impl_batchBytes.mono : ∀ a0 a1 a2 a3 a4 k, LeO (impl_batchBytes.f k a0 a1 a2 a3 a4) (impl_batchBytes.f (k + 1) a0 a1 a2 a3 a4) := by
 intro a0 a1 a2 a3 a4 k
 have ih0 := impl_batchBytes.mono_l k
 unfold impl_batchBytes.f
 repeat' first
   | (with_reducible first | apply ih0 | apply impl_put.mono | apply impl_sumOf.mono | exact LeO.refl _ | exact LeO.none _ | refine LeO.ite ?_ ?_ | refine LeO.bind ?_ (fun _ => ?_))
def impl_batchBytes.T1 : Bool × List (List Nat × List Nat) := (true, [([], []), ([0], [0]), ([1], [1]), ([], []), ([3], [3]), ([4, 2], [4]), ([2, 5], [2, 5]), ([], []), ([7], [7]), ([8, 5], [8]), ([6, 9], [6, 9]), ([], []), ([11], [11]), ([12, 9], [12]), ([10, 13], [10, 13]), ([], []), ([15], [15]), ([16], [16]), ([17, 13], [17]), ([14, 18], [14, 18]), ([19, 18, 0, 1, 2, 3, 4, 5, 6, 7, 8, 9, 10, 11, 12, 13, 14, 15, 16, 17, 18, 19], [19])])
def impl_batchBytes.B1 : List Nat := [0, 1, 3, 0, 8, 31, 63, 0, 128, 447, 1023, 0, 2048, 7103, 16383, 0, 32768, 98304, 244671, 524287, 1048575]
theorem impl_batchBytes.tab1 : rtab .any (opsOf Try.f84 1) = impl_batchBytes.T1 := by kernel_rfl
theorem impl_batchBytes.bits1 : waitsOk impl_batchBytes.T1.2 impl_batchBytes.B1 = true := by kernel_rfl
set_option maxHeartbeats 8000000 in
set_option maxRecDepth 100000 in
theorem impl_batchBytes.calls (k : Nat) (a0_0 : Int) (a0_1 : Int) (a0_2 : Int) (a0_3 : Int) (A0_4 : Option Addr) (c0_4 : Nat) (l0_4 : List ByteArray) (r : ByteArray) (w : World) (hr0_4 : Kd.C Kd.string w A0_4 l0_4.length l0_4) (hc0_4 : l0_4.length ≤ c0_4) (h : impl_batchBytes.f k a0_0 a0_1 a0_2 a0_3 l0_4 = some r) :
  Calls Try.prog 84 #[.agg #[.int .i64 a0_0, .int .i64 a0_1, .int .i64 a0_2, .int .i64 a0_3, .slice A0_4 l0_4.length c0_4]] w fun e w' => e = .returned (.string r) ∧ Below w.heap.size w w' := by
 have hu43 := Try.underlying43
 have HR0_4 := Aside0.mk hr0_4
 have HC0_4 := Aside0.mk hc0_4
 clear hr0_4 hc0_4
 have HB := Aside0.mk (Below.refl w.heap.size w)
 have H : ((impl_put.f k a0_0 3).bind fun t292 => ((impl_put.f k a0_1 2).bind fun t293 => (if t292.size + t293.size ≤ 9223372036854775807 then ((impl_put.f k a0_2 2).bind fun t294 => (if (t292 ++ t293).size + t294.size ≤ 9223372036854775807 then ((impl_put.f k a0_3 2).bind fun t295 => (if ((t292 ++ t293) ++ t294).size + t295.size ≤ 9223372036854775807 then ((impl_put.f k (l0_4.length : Int) 1).bind fun t296 => (if (((t292 ++ t293) ++ t294) ++ t295).size + t296.size ≤ 9223372036854775807 then (impl_batchBytes.l0 k ((((t292 ++ t293) ++ t294) ++ t295) ++ t296) l0_4 (l0_4.length : Int) 0) else (none))) else (none))) else (none))) else (none)))) = some r := h
 clear h
 replace H := bnd_ H
 obtain ⟨t292, A2, H⟩ := H
 replace H := bnd_ H
 obtain ⟨t293, A3, H⟩ := H
 replace H := ifs_ H
 obtain ⟨c4, H⟩ := H
 have c4b0 := eq_true c4
 have c4b1 := decide_eq_true c4
 try have c4b2 : (9223372036854775807 < t292.size + t293.size) = False := eq_false (Nat.not_lt.2 c4)
 try have c4w := cw_ c4
 replace H := bnd_ H
 obtain ⟨t294, A5, H⟩ := H
 replace H := ifs_ H
 obtain ⟨c6, H⟩ := H
 have c6b0 := eq_true c6
 have c6b1 := decide_eq_true c6
 try have c6b2 : (9223372036854775807 < (t292 ++ t293).size + t294.size) = False := eq_false (Nat.not_lt.2 c6)
 try have c6b3 : t292.size + t293.size + t294.size ≤ 9223372036854775807 := by (have h_ := c6; simp only [ByteArray.size_append] at h_; exact h_)
 try have c6b4 : (9223372036854775807 < t292.size + t293.size + t294.size) = False := eq_false (Nat.not_lt.2 c6b3)
 try have c6w := cw_ c6
 (try rw [c6w] at c4b0)
 replace H := bnd_ H
 obtain ⟨t295, A7, H⟩ := H
 replace H := ifs_ H
 obtain ⟨c8, H⟩ := H
 have c8b0 := eq_true c8
 have c8b1 := decide_eq_true c8
 try have c8b2 : (9223372036854775807 < ((t292 ++ t293) ++ t294).size + t295.size) = False := eq_false (Nat.not_lt.2 c8)
 try have c8b3 : t292.size + t293.size + t294.size + t295.size ≤ 9223372036854775807 := by (have h_ := c8; simp only [ByteArray.size_append] at h_; exact h_)
 try have c8b4 : (9223372036854775807 < t292.size + t293.size + t294.size + t295.size) = False := eq_false (Nat.not_lt.2 c8b3)
 try have c8w := cw_ c8
 (try rw [c8w] at c4b0)
 (try rw [c8w] at c6b0)
 replace H := bnd_ H
 obtain ⟨t296, A9, H⟩ := H
 replace H := ifs_ H
 obtain ⟨c10, H⟩ := H
 have c10b0 := eq_true c10
 have c10b1 := decide_eq_true c10
 try have c10b2 : (9223372036854775807 < (((t292 ++ t293) ++ t294) ++ t295).size + t296.size) = False := eq_false (Nat.not_lt.2 c10)
 try have c10b3 : t292.size + t293.size + t294.size + t295.size + t296.size ≤ 9223372036854775807 := by (have h_ := c10; simp only [ByteArray.size_append] at h_; exact h_)
 try have c10b4 : (9223372036854775807 < t292.size + t293.size + t294.size + t295.size + t296.size) = False := eq_false (Nat.not_lt.2 c10b3)
 try have c10w := cw_ c10
 (try rw [c10w] at c4b0)
 (try rw [c10w] at c6b0)
 (try rw [c10w] at c8b0)
 have H' := Aside0.mk H
 clear H
 go_enter Try.func84, Try.ntmps84
 try go_wp2_with (first | ((with_reducible refine gate_dst (N := 1) rfl ?_); refine bq_ (N := 1) #[.int .i64 a0_0, .int .i64 a0_1, .int .i64 a0_2, .int .i64 a0_3, .slice A0_4 l0_4.length c0_4] 43 ?_; intro gb291 hg w11 BK291 hb; have GE291 := ge_ hg; replace HB := nb_ hb; clear hb hg))
 replace BK291 := qK_ BK291
 replace HB := qH_ HB
 refine start_ (n := 21) (S := fun w' => w'.cell? ⟨gb291, 0, none⟩ = some (.int .i64 a0_0) ∧ w'.cell? ⟨gb291, 1, none⟩ = some (.int .i64 a0_1) ∧ w'.cell? ⟨gb291, 2, none⟩ = some (.int .i64 a0_2) ∧ w'.cell? ⟨gb291, 3, none⟩ = some (.int .i64 a0_3) ∧ w'.cell? ⟨gb291, 4, none⟩ = some (.slice A0_4 l0_4.length c0_4)) (ds := []) (List.replicate 21 false).toArray (by kernel_rfl) rfl rfl ⟨bt_ BK291 0, bt_ BK291 1, bt_ BK291 2, bt_ BK291 3, bt_ BK291 4⟩ (fun hHeld => ?_); refine with_tabW impl_batchBytes.tab1 impl_batchBytes.bits1 (fun HT_ HW_ => ?_)
 generalize w11.drew = w12 at BK291 HB hHeld ⊢
 refine pv_ 0 7 ?_
 refine pv_ 3 10 ?_
 refine pv_ 7 14 ?_
 refine pv_ 11 18 ?_
 refine pv_ 15 22 ?_
 refine tk_ 1 8 ?_
 refine tk_ 4 11 ?_
 refine tk_ 8 15 ?_
 refine tk_ 12 19 ?_
 refine tk_ 16 23 ?_
 refine pv_ 17 24 ?_
 refine on_ 2 9 (fun K hK => ?_)
 refine gs_ Try.func111 #[.int .i64 a0_0, .int .i64 3] rfl ma_ ?_
 with_reducible refine (impl_put.calls k a0_0 3 t292 _ A2.out).mono ?_
 rintro e w13 ⟨rfl, hb⟩
 refine ⟨_, rfl, ?_⟩
 replace BK291 := bK_ BK291 hb
 replace HB := nc_ GE291 hb
 (try clear hb)
 (try clear hb2)
 (try clear hk)
 (try clear hi)
 refine hK.out _ _ ⟨bt_ BK291 0, bt_ BK291 1, bt_ BK291 2, bt_ BK291 3, bt_ BK291 4⟩ (fun hHeld => ?_)
 clear hK K
 refine no_ ?_
 refine on_ 5 12 (fun K hK => ?_)
 refine gs_ Try.func111 #[.int .i64 a0_1, .int .i64 2] rfl ma_ ?_
 with_reducible refine (impl_put.calls k a0_1 2 t293 _ A3.out).mono ?_
 rintro e w14 ⟨rfl, hb⟩
 refine ⟨_, rfl, ?_⟩
 replace BK291 := bK_ BK291 hb
 replace HB := nc_ GE291 hb
 (try clear hb)
 (try clear hb2)
 (try clear hk)
 (try clear hi)
 refine hK.out _ _ ⟨bt_ BK291 0, bt_ BK291 1, bt_ BK291 2, bt_ BK291 3, bt_ BK291 4⟩ (fun hHeld => ?_)
 clear hK K
 refine no_ ?_
 refine pv_ 6 13 ?_
 refine on_ 9 16 (fun K hK => ?_)
 refine gs_ Try.func111 #[.int .i64 a0_2, .int .i64 2] rfl ma_ ?_
 with_reducible refine (impl_put.calls k a0_2 2 t294 _ A5.out).mono ?_
 rintro e w15 ⟨rfl, hb⟩
 refine ⟨_, rfl, ?_⟩
 replace BK291 := bK_ BK291 hb
 replace HB := nc_ GE291 hb
 (try clear hb)
 (try clear hb2)
 (try clear hk)
 (try clear hi)
 refine hK.out _ _ ⟨bt_ BK291 0, bt_ BK291 1, bt_ BK291 2, bt_ BK291 3, bt_ BK291 4⟩ (fun hHeld => ?_)
 clear hK K
 refine no_ ?_
 refine pv_ 10 17 ?_
 refine on_ 13 20 (fun K hK => ?_)
 refine gs_ Try.func111 #[.int .i64 a0_3, .int .i64 2] rfl ma_ ?_
 with_reducible refine (impl_put.calls k a0_3 2 t295 _ A7.out).mono ?_
 rintro e w16 ⟨rfl, hb⟩
 refine ⟨_, rfl, ?_⟩
 replace BK291 := bK_ BK291 hb
 replace HB := nc_ GE291 hb
 (try clear hb)
 (try clear hb2)
 (try clear hk)
 (try clear hi)
 refine hK.out _ _ ⟨bt_ BK291 0, bt_ BK291 1, bt_ BK291 2, bt_ BK291 3, bt_ BK291 4⟩ (fun hHeld => ?_)
 clear hK K
 refine no_ ?_
 refine pv_ 14 21 ?_
 refine on_ 18 25 (fun K hK => ?_)
 refine gs_ Try.func111 #[.int .i64 (l0_4.length : Int), .int .i64 1] rfl ma_ ?_
 with_reducible refine (impl_put.calls k (l0_4.length : Int) 1 t296 _ A9.out).mono ?_
 rintro e w17 ⟨rfl, hb⟩
 refine ⟨_, rfl, ?_⟩
 replace BK291 := bK_ BK291 hb
 replace HB := nc_ GE291 hb
 (try clear hb)
 (try clear hb2)
 (try clear hk)
 (try clear hi)
 refine hK.out _ _ ⟨bt_ BK291 0, bt_ BK291 1, bt_ BK291 2, bt_ BK291 3, bt_ BK291 4⟩ (fun hHeld => ?_)
 clear hK K
 refine no_ ?_
 refine pv_ 19 26 ?_
 refine pv_ 20 3 ?_
 refine done_ (done_of HT_.out (by kernel_rfl)) ?_
 obtain ⟨hcz18_0, hcz18_1, hcz18_2, hcz18_3, hcz18_4, hfz18_0, hfz18_1, hfz18_2, hfz18_3, hfz18_4⟩ := cf5_ BK291.out
 try go_wp2
 go_loopg [3, 30] k (fun kq v3 v30 w' => ∃ (x3_1 : ByteArray) (x30_1 : Int), v3 = .string x3_1 ∧ v30 = .int .i64 x30_1 ∧ Aside0 (impl_batchBytes.l0 kq x3_1 l0_4 (l0_4.length : Int) x30_1 = some r) ∧ Aside0 (kq ≤ k) ∧ Aside0 (w'.heap[gb291]? = some (.cells #[.int .i64 a0_0, .int .i64 a0_1, .int .i64 a0_2, .int .i64 a0_3, (.slice A0_4 l0_4.length c0_4)] 43 (0, 0))) ∧ Aside0 (Below w.heap.size w w'))
 case atStart => exact ⟨((((t292 ++ t293) ++ t294) ++ t295) ++ t296), (0), sr_, sr_, H', ⟨Nat.le_refl _⟩, ⟨kb_ BK291.out⟩, ⟨hs_ GE291.out⟩⟩
 case round =>
  clear H'
  try clear c4
  try clear c4b0
  try clear c4b1
  try clear c4b2
  try clear c6
  try clear c6b0
  try clear c6b1
  try clear c6b2
  try clear c8
  try clear c8b0
  try clear c8b1
  try clear c8b2
  try clear c10
  try clear c10b0
  try clear c10b1
  try clear c10b2
  try clear hcz18_0
  try clear hcz18_1
  try clear hcz18_2
  try clear hcz18_3
  try clear hcz18_4
  try clear hfz18_0
  try clear hfz18_1
  try clear hfz18_2
  try clear hfz18_3
  try clear hfz18_4
  obtain ⟨x3_1, x30_1, rfl, rfl, HA, HK1, BK291, HB⟩ := hrel
  cases gk with
  | zero => exact absurd HA.out (by simp [impl_batchBytes.l0])
  | succ k1 =>
   have H := HA.out
   clear HA
   simp only [impl_batchBytes.l0] at H
   replace H := ite_ H
   obtain ⟨c19, H⟩ | ⟨c19, H⟩ := H
   ·have c19b0 := decide_eq_true c19
    clear c19
    replace H := ifs_ H
    obtain ⟨c20, H⟩ := H
    have c20b0 := decide_eq_true c20
    clear c20
    replace H := ifs_ H
    obtain ⟨c21, H⟩ := H
    have c21b0 := decide_eq_true c21
    clear c21
    replace H := bnd_ H
    obtain ⟨t298, A22, H⟩ := H
    replace H := ifs_ H
    obtain ⟨c23, H⟩ := H
    have c23b0 := eq_true c23
    have c23b1 := decide_eq_true c23
    try have c23b2 : (9223372036854775807 < t298.size + (rdOf ByteArray.empty l0_4 x30_1).size) = False := eq_false (Nat.not_lt.2 c23)
    try have c23w := cw_ c23
    (try rw [c23w] at c4b0)
    (try rw [c23w] at c6b0)
    (try rw [c23w] at c8b0)
    (try rw [c23w] at c10b0)
    (try rw [c23w] at c19b0)
    (try rw [c23w] at c20b0)
    (try rw [c23w] at c21b0)
    replace H := ifs_ H
    obtain ⟨c24, H⟩ := H
    have c24b0 := eq_true c24
    have c24b1 := decide_eq_true c24
    try have c24b2 : (9223372036854775807 < x3_1.size + (t298 ++ (rdOf ByteArray.empty l0_4 x30_1)).size) = False := eq_false (Nat.not_lt.2 c24)
    try have c24b3 : x3_1.size + (t298.size + (rdOf ByteArray.empty l0_4 x30_1).size) ≤ 9223372036854775807 := by (have h_ := c24; simp only [ByteArray.size_append] at h_; exact h_)
    try have c24b4 : (9223372036854775807 < x3_1.size + (t298.size + (rdOf ByteArray.empty l0_4 x30_1).size)) = False := eq_false (Nat.not_lt.2 c24b3)
    try have c24w := cw_ c24
    (try rw [c24w] at c4b0)
    (try rw [c24w] at c6b0)
    (try rw [c24w] at c8b0)
    (try rw [c24w] at c10b0)
    (try rw [c24w] at c19b0)
    (try rw [c24w] at c20b0)
    (try rw [c24w] at c21b0)
    (try rw [c24w] at c23b0)
    have H' := Aside0.mk H
    clear H
    have p297 : 0 ≤ (x30_1 : Int) := oa_
    have q297 : x30_1 < (l0_4.length : Int) := oa_
    obtain ⟨ad297, e297, hx297_0⟩ := Kd.at_string HR0_4.out x30_1 p297 q297
    cases e297
    replace hx297_0 := pc_ HB.out hx297_0
    replace p297 := eq_true p297
    replace q297 := eq_true q297
    go_wp2_with (first | ((with_reducible refine gate_callee (f := 111) rfl ?_); refine gl_ 37 Try.func111 #[.int .i64 ((rdOf ByteArray.empty l0_4 x30_1).size : Int), .int .i64 1] rfl ma_ ?_; (with_reducible refine (impl_put.calls k1 ((rdOf ByteArray.empty l0_4 x30_1).size : Int) 1 t298 _ A22.out).mono ?_); rintro e w25 ⟨rfl, hb⟩; refine ⟨_, rfl, ?_⟩; replace BK291 := bK_ BK291 hb; replace HB := nc_ GE291 hb; (try clear hb); (try clear hb2); (try clear hk); (try clear hi)))
    go_roundg k1
    case measure => have := HK1.out; omega
    case rel => exact ⟨(x3_1 ++ (t298 ++ (rdOf ByteArray.empty l0_4 x30_1))), (wrap64 (x30_1 + 1)), sr_, sr_, H', ⟨by have := HK1.out; omega⟩, ⟨kb_ BK291.out⟩, ⟨hs_ GE291.out⟩⟩
   have c19b0 := decide_eq_false c19
   clear c19
   replace H := bnd_ H
   obtain ⟨t299, A26, H⟩ := H
   replace H := ifs_ H
   obtain ⟨c27, H⟩ := H
   have c27b0 := eq_true c27
   have c27b1 := decide_eq_true c27
   try have c27b2 : (9223372036854775807 < t299.size + x3_1.size) = False := eq_false (Nat.not_lt.2 c27)
   try have c27w := cw_ c27
   (try rw [c27w] at c4b0)
   (try rw [c27w] at c6b0)
   (try rw [c27w] at c8b0)
   (try rw [c27w] at c10b0)
   (try rw [c27w] at c19b0)
   (try rw [c27w] at c20b0)
   (try rw [c27w] at c21b0)
   (try rw [c27w] at c23b0)
   (try rw [c27w] at c24b0)
   replace H := bnd_ H
   obtain ⟨t300, A28, H⟩ := H
   replace H := bnd_ H
   obtain ⟨t301, A29, H⟩ := H
   replace H := ifs_ H
   obtain ⟨c30, H⟩ := H
   have c30b0 := eq_true c30
   have c30b1 := decide_eq_true c30
   try have c30b2 : (9223372036854775807 < (t299 ++ x3_1).size + t301.size) = False := eq_false (Nat.not_lt.2 c30)
   try have c30b3 : t299.size + x3_1.size + t301.size ≤ 9223372036854775807 := by (have h_ := c30; simp only [ByteArray.size_append] at h_; exact h_)
   try have c30b4 : (9223372036854775807 < t299.size + x3_1.size + t301.size) = False := eq_false (Nat.not_lt.2 c30b3)
   try have c30w := cw_ c30
   (try rw [c30w] at c4b0)
   (try rw [c30w] at c6b0)
   (try rw [c30w] at c8b0)
   (try rw [c30w] at c10b0)
   (try rw [c30w] at c19b0)
   (try rw [c30w] at c20b0)
   (try rw [c30w] at c21b0)
   (try rw [c30w] at c23b0)
   (try rw [c30w] at c24b0)
   (try rw [c30w] at c27b0)
   obtain rfl := Option.some.inj H
   go_wp2_with (first | ((with_reducible refine gate_callee (f := 111) rfl ?_); refine gl_ 45 Try.func111 #[.int .i64 (wrap64 ((x3_1.size : Int) + 2)), .int .i64 2] rfl ma_ ?_; (with_reducible refine (impl_put.calls k1 (wrap64 ((x3_1.size : Int) + 2)) 2 t299 _ A26.out).mono ?_); rintro e w31 ⟨rfl, hb⟩; refine ⟨_, rfl, ?_⟩; replace BK291 := bK_ BK291 hb; replace HB := nc_ GE291 hb; (try clear hb); (try clear hb2); (try clear hk); (try clear hi)) | ((with_reducible refine gate_callee (f := 112) rfl ?_); refine gl_ 50 Try.func112 #[.string (t299 ++ x3_1)] rfl ma_ ?_; (with_reducible refine (impl_sumOf.calls k1 (t299 ++ x3_1) t300 _ A28.out).mono ?_); rintro e w' ⟨rfl, ⟨nd, rfl⟩⟩; refine ⟨_, rfl, ?_⟩) | ((with_reducible refine gate_callee (f := 111) rfl ?_); refine gl_ 51 Try.func111 #[.int .i64 t300, .int .i64 2] rfl ma_ ?_; (with_reducible refine (impl_put.calls k1 t300 2 t301 _ A29.out).mono ?_); rintro e w32 ⟨rfl, hb⟩; refine ⟨_, rfl, ?_⟩; replace BK291 := bK_ BK291 hb; replace HB := nc_ GE291 hb; (try clear hb); (try clear hb2); (try clear hk); (try clear hi)))
   go_ret
   exact ⟨er_, hs_ GE291.out⟩

end Go.Proofs.Ytffpeklekkpbjaa.QFnExactFindBatch
