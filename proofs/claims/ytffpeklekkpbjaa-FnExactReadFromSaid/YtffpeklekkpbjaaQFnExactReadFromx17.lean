/- Functions that one statement reaches: of each a plain function, and the proof that calls come to it. Conditions: those that each contract names. Written by a program of this repository. -/
import Derived.Test.YtffpeklekkpbjaaVReadFroma
import Derived.Test.YtffpeklekkpbjaaQFnExactReadFromx2
import Derived.Test.YtffpeklekkpbjaaQFnExactReadFromx15
namespace Go.Proofs.Ytffpeklekkpbjaa.QFnExactReadFrom
open Go.RowKit Go.Proofs.YtffpeklekkpbjaaW.PrintWords Go.Proofs.YtffpeklekkpbjaaW.PrintLast Go.Proofs.YtffpeklekkpbjaaW.PrintMore
attribute [local go_sem] max2_int min2_int max_two min_two max_three min_three max_four min_four Go.Proofs.YtffpeklekkpbjaaW.PrintMore2.isSome_setCell   -- for this text's walks alone
set_option linter.unusedVariables false
set_option linter.unusedSimpArgs false

/-! ### impl_batchBytes: function 84 -/
def impl_batchBytes.l0 : Nat → ByteArray → List ByteArray → Int → Int → Option (ByteArray)
 | 0, _, _, _, _ => none
 | k + 1, x3, x28, x29, x30 => if x30 < x29 then (if 0 ≤ x30 then (if x30 < (x28.length : Int) then ((impl_put.f k ((rdOf ByteArray.empty x28 x30).size : Int) 1).bind fun t309 => (if t309.size + (rdOf ByteArray.empty x28 x30).size ≤ 9223372036854775807 then (if x3.size + (t309 ++ (rdOf ByteArray.empty x28 x30)).size ≤ 9223372036854775807 then (impl_batchBytes.l0 k (x3 ++ (t309 ++ (rdOf ByteArray.empty x28 x30))) x28 x29 (wrap64 (x30 + 1))) else (none)) else (none))) else (none)) else (none)) else ((impl_put.f k (wrap64 ((x3.size : Int) + 2)) 2).bind fun t310 => (if t310.size + x3.size ≤ 9223372036854775807 then ((impl_sumOf.f k (t310 ++ x3)).bind fun t311 => ((impl_put.f k t311 2).bind fun t312 => (if (t310 ++ x3).size + t312.size ≤ 9223372036854775807 then (some ((t310 ++ x3) ++ t312)) else (none)))) else (none)))
def impl_batchBytes.f (k : Nat) (a0_0 : Int) (a0_1 : Int) (a0_2 : Int) (a0_3 : Int) (l0_4 : List ByteArray) : Option (ByteArray) := (impl_put.f k a0_0 3).bind fun t303 => ((impl_put.f k a0_1 2).bind fun t304 => (if t303.size + t304.size ≤ 9223372036854775807 then ((impl_put.f k a0_2 2).bind fun t305 => (if (t303 ++ t304).size + t305.size ≤ 9223372036854775807 then ((impl_put.f k a0_3 2).bind fun t306 => (if ((t303 ++ t304) ++ t305).size + t306.size ≤ 9223372036854775807 then ((impl_put.f k (l0_4.length : Int) 1).bind fun t307 => (if (((t303 ++ t304) ++ t305) ++ t306).size + t307.size ≤ 9223372036854775807 then (impl_batchBytes.l0 k ((((t303 ++ t304) ++ t305) ++ t306) ++ t307) l0_4 (l0_4.length : Int) 0) else (none))) else (none))) else (none))) else (none)))
theorem impl_batchBytes.mono_l : ∀ k, (∀ y0 y1 y2 y3, LeO (impl_batchBytes.l0 k y0 y1 y2 y3) (impl_batchBytes.l0 (k + 1) y0 y1 y2 y3))
 | 0 => fun _ _ _ _ r h => by simp [impl_batchBytes.l0] at h
 | k + 1 => by
  have ih0 := impl_batchBytes.mono_l k
  ·intro y0 y1 y2 y3
   unfold impl_batchBytes.l0
   repeat' first
   | (with_reducible first | apply ih0 | apply impl_put.mono | apply impl_sumOf.mono | exact LeO.refl _ | exact LeO.none _ | refine LeO.ite ?_ ?_ | refine LeO.bind ?_ (fun _ => ?_))
theorem impl_batchBytes.mono : ∀ a0 a1 a2 a3 a4 k, LeO (impl_batchBytes.f k a0 a1 a2 a3 a4) (impl_batchBytes.f (k + 1) a0 a1 a2 a3 a4) := by
 intro a0 a1 a2 a3 a4 k
 have ih0 := impl_batchBytes.mono_l k
 unfold impl_batchBytes.f
 repeat' first
   | (with_reducible first | apply ih0 | apply impl_put.mono | apply impl_sumOf.mono | exact LeO.refl _ | exact LeO.none _ | refine LeO.ite ?_ ?_ | refine LeO.bind ?_ (fun _ => ?_))
def impl_batchBytes.T1 : Bool × List (List Nat × List Nat) := (true, [([], []), ([0], [0]), ([1], [1]), ([], []), ([3], [3]), ([4, 2], [4]), ([2, 5], [2, 5]), ([], []), ([7], [7]), ([8, 5], [8]), ([6, 9], [6, 9]), ([], []), ([11], [11]), ([12, 9], [12]), ([10, 13], [10, 13]), ([], []), ([15], [15]), ([16], [16]), ([17, 13], [17]), ([14, 18], [14, 18]), ([19, 18, 0, 1, 2, 3, 4, 5, 6, 7, 8, 9, 10, 11, 12, 13, 14, 15, 16, 17, 18, 19], [19])])
def impl_batchBytes.B1 : List Nat := [0, 1, 3, 0, 8, 31, 63, 0, 128, 447, 1023, 0, 2048, 7103, 16383, 0, 32768, 98304, 244671, 524287, 1048575]
theorem impl_batchBytes.tab1 : rtab .any (opsOf Try.f84 1) = impl_batchBytes.T1 := by kernel_rfl
theorem impl_batchBytes.bits1 : waitsOk impl_batchBytes.T1.2 impl_batchBytes.B1 = true := by kernel_rfl
set_option maxHeartbeats 8000000 in
set_option maxRecDepth 100000 in
theorem impl_batchBytes.calls (k : Nat) (a0_0 : Int) (a0_1 : Int) (a0_2 : Int) (a0_3 : Int) (A0_4 : Option Addr) (c0_4 : Nat) (l0_4 : List ByteArray) (r : ByteArray) (w : World) (hr0_4 : Kd.C Kd.string w A0_4 l0_4.length l0_4) (hc0_4 : l0_4.length ≤ c0_4) (h : impl_batchBytes.f k a0_0 a0_1 a0_2 a0_3 l0_4 = some r) :
  Calls Try.prog 84 #[.agg #[.int .i64 a0_0, .int .i64 a0_1, .int .i64 a0_2, .int .i64 a0_3, .slice A0_4 l0_4.length c0_4]] w fun e w' => e = .returned (.string r) ∧ Below w.heap.size w w' := by
 have hu43 := Try.underlying43
 have HR0_4 := Aside0.mk hr0_4
 have HC0_4 := Aside0.mk hc0_4
 clear hr0_4 hc0_4
 have HB := Aside0.mk (Below.refl w.heap.size w)
 have H : ((impl_put.f k a0_0 3).bind fun t303 => ((impl_put.f k a0_1 2).bind fun t304 => (if t303.size + t304.size ≤ 9223372036854775807 then ((impl_put.f k a0_2 2).bind fun t305 => (if (t303 ++ t304).size + t305.size ≤ 9223372036854775807 then ((impl_put.f k a0_3 2).bind fun t306 => (if ((t303 ++ t304) ++ t305).size + t306.size ≤ 9223372036854775807 then ((impl_put.f k (l0_4.length : Int) 1).bind fun t307 => (if (((t303 ++ t304) ++ t305) ++ t306).size + t307.size ≤ 9223372036854775807 then (impl_batchBytes.l0 k ((((t303 ++ t304) ++ t305) ++ t306) ++ t307) l0_4 (l0_4.length : Int) 0) else (none))) else (none))) else (none))) else (none)))) = some r := h
 clear h
 replace H := bnd_ H
 obtain ⟨t303, A2, H⟩ := H
 replace H := bnd_ H
 obtain ⟨t304, A3, H⟩ := H
 replace H := ifs_ H
 obtain ⟨c4, H⟩ := H
 have c4b0 := eq_true c4
 have c4b1 := decide_eq_true c4
 try have c4b2 : (9223372036854775807 < t303.size + t304.size) = False := eq_false (Nat.not_lt.2 c4)
 try have c4w := cw_ c4
 replace H := bnd_ H
 obtain ⟨t305, A5, H⟩ := H
 replace H := ifs_ H
 obtain ⟨c6, H⟩ := H
 have c6b0 := eq_true c6
 have c6b1 := decide_eq_true c6
 try have c6b2 : (9223372036854775807 < (t303 ++ t304).size + t305.size) = False := eq_false (Nat.not_lt.2 c6)
 try have c6b3 : t303.size + t304.size + t305.size ≤ 9223372036854775807 := by (have h_ := c6; simp only [ByteArray.size_append] at h_; exact h_)
 try have c6b4 : (9223372036854775807 < t303.size + t304.size + t305.size) = False := eq_false (Nat.not_lt.2 c6b3)
 try have c6w := cw_ c6
 (try rw [c6w] at c4b0)
 replace H := bnd_ H
 obtain ⟨t306, A7, H⟩ := H
 replace H := ifs_ H
 obtain ⟨c8, H⟩ := H
 have c8b0 := eq_true c8
 have c8b1 := decide_eq_true c8
 try have c8b2 : (9223372036854775807 < ((t303 ++ t304) ++ t305).size + t306.size) = False := eq_false (Nat.not_lt.2 c8)
 try have c8b3 : t303.size + t304.size + t305.size + t306.size ≤ 9223372036854775807 := by (have h_ := c8; simp only [ByteArray.size_append] at h_; exact h_)
 try have c8b4 : (9223372036854775807 < t303.size + t304.size + t305.size + t306.size) = False := eq_false (Nat.not_lt.2 c8b3)
 try have c8w := cw_ c8
 (try rw [c8w] at c4b0)
 (try rw [c8w] at c6b0)
 replace H := bnd_ H
 obtain ⟨t307, A9, H⟩ := H
 replace H := ifs_ H
 obtain ⟨c10, H⟩ := H
 have c10b0 := eq_true c10
 have c10b1 := decide_eq_true c10
 try have c10b2 : (9223372036854775807 < (((t303 ++ t304) ++ t305) ++ t306).size + t307.size) = False := eq_false (Nat.not_lt.2 c10)
 try have c10b3 : t303.size + t304.size + t305.size + t306.size + t307.size ≤ 9223372036854775807 := by (have h_ := c10; simp only [ByteArray.size_append] at h_; exact h_)
 try have c10b4 : (9223372036854775807 < t303.size + t304.size + t305.size + t306.size + t307.size) = False := eq_false (Nat.not_lt.2 c10b3)
 try have c10w := cw_ c10
 (try rw [c10w] at c4b0)
 (try rw [c10w] at c6b0)
 (try rw [c10w] at c8b0)
 have H' := Aside0.mk H
 clear H
 go_enter Try.func84, Try.ntmps84
 try go_wp2_with (first | ((with_reducible refine gate_dst (N := 1) rfl ?_); refine bq_ (N := 1) #[.int .i64 a0_0, .int .i64 a0_1, .int .i64 a0_2, .int .i64 a0_3, .slice A0_4 l0_4.length c0_4] 43 ?_; intro gb302 hg w11 BK302 hb; have GE302 := ge_ hg; replace HB := nb_ hb; clear hb hg))
 replace BK302 := qK_ BK302
 replace HB := qH_ HB
 refine start_ (n := 21) (S := fun w' => w'.cell? ⟨gb302, 0, none⟩ = some (.int .i64 a0_0) ∧ w'.cell? ⟨gb302, 1, none⟩ = some (.int .i64 a0_1) ∧ w'.cell? ⟨gb302, 2, none⟩ = some (.int .i64 a0_2) ∧ w'.cell? ⟨gb302, 3, none⟩ = some (.int .i64 a0_3) ∧ w'.cell? ⟨gb302, 4, none⟩ = some (.slice A0_4 l0_4.length c0_4)) (ds := []) (List.replicate 21 false).toArray (by kernel_rfl) rfl rfl ⟨bt_ BK302 0, bt_ BK302 1, bt_ BK302 2, bt_ BK302 3, bt_ BK302 4⟩ (fun hHeld => ?_); refine with_tabW impl_batchBytes.tab1 impl_batchBytes.bits1 (fun HT_ HW_ => ?_)
 generalize w11.drew = w12 at BK302 HB hHeld ⊢
 refine pv_ 0 7 ?_
 refine pv_ 3 10 ?_
 refine pv_ 7 14 ?_
 refine pv_ 11 18 ?_
 refine pv_ 15 22 ?_
 refine tk_ 1 8 ?_
 refine tk_ 4 11 ?_
 refine tk_ 8 15 ?_
 refine tk_ 12 19 ?_
 refine tk_ 16 23 ?_
 refine pv_ 17 24 ?_
 refine on_ 2 9 (fun K hK => ?_)
 refine gs_ Try.func111 #[.int .i64 a0_0, .int .i64 3] rfl ma_ ?_
 with_reducible refine (impl_put.calls k a0_0 3 t303 _ A2.out).mono ?_
 rintro e w13 ⟨rfl, hb⟩
 refine ⟨_, rfl, ?_⟩
 replace BK302 := bK_ BK302 hb
 replace HB := nc_ GE302 hb
 (try clear hb)
 (try clear hb2)
 (try clear hk)
 (try clear hi)
 refine hK.out _ _ ⟨bt_ BK302 0, bt_ BK302 1, bt_ BK302 2, bt_ BK302 3, bt_ BK302 4⟩ (fun hHeld => ?_)
 clear hK K
 refine no_ ?_
 refine on_ 5 12 (fun K hK => ?_)
 refine gs_ Try.func111 #[.int .i64 a0_1, .int .i64 2] rfl ma_ ?_
 with_reducible refine (impl_put.calls k a0_1 2 t304 _ A3.out).mono ?_
 rintro e w14 ⟨rfl, hb⟩
 refine ⟨_, rfl, ?_⟩
 replace BK302 := bK_ BK302 hb
 replace HB := nc_ GE302 hb
 (try clear hb)
 (try clear hb2)
 (try clear hk)
 (try clear hi)
 refine hK.out _ _ ⟨bt_ BK302 0, bt_ BK302 1, bt_ BK302 2, bt_ BK302 3, bt_ BK302 4⟩ (fun hHeld => ?_)
 clear hK K
 refine no_ ?_
 refine pv_ 6 13 ?_
 refine on_ 9 16 (fun K hK => ?_)
 refine gs_ Try.func111 #[.int .i64 a0_2, .int .i64 2] rfl ma_ ?_
 with_reducible refine (impl_put.calls k a0_2 2 t305 _ A5.out).mono ?_
 rintro e w15 ⟨rfl, hb⟩
 refine ⟨_, rfl, ?_⟩
 replace BK302 := bK_ BK302 hb
 replace HB := nc_ GE302 hb
 (try clear hb)
 (try clear hb2)
 (try clear hk)
 (try clear hi)
 refine hK.out _ _ ⟨bt_ BK302 0, bt_ BK302 1, bt_ BK302 2, bt_ BK302 3, bt_ BK302 4⟩ (fun hHeld => ?_)
 clear hK K
 refine no_ ?_
 refine pv_ 10 17 ?_
 refine on_ 13 20 (fun K hK => ?_)
 refine gs_ Try.func111 #[.int .i64 a0_3, .int .i64 2] rfl ma_ ?_
 with_reducible refine (impl_put.calls k a0_3 2 t306 _ A7.out).mono ?_
 rintro e w16 ⟨rfl, hb⟩
 refine ⟨_, rfl, ?_⟩
 replace BK302 := bK_ BK302 hb
 replace HB := nc_ GE302 hb
 (try clear hb)
 (try clear hb2)
 (try clear hk)
 (try clear hi)
 refine hK.out _ _ ⟨bt_ BK302 0, bt_ BK302 1, bt_ BK302 2, bt_ BK302 3, bt_ BK302 4⟩ (fun hHeld => ?_)
 clear hK K
 refine no_ ?_
 refine pv_ 14 21 ?_
 refine on_ 18 25 (fun K hK => ?_)
 refine gs_ Try.func111 #[.int .i64 (l0_4.length : Int), .int .i64 1] rfl ma_ ?_
 with_reducible refine (impl_put.calls k (l0_4.length : Int) 1 t307 _ A9.out).mono ?_
 rintro e w17 ⟨rfl, hb⟩
 refine ⟨_, rfl, ?_⟩
 replace BK302 := bK_ BK302 hb
 replace HB := nc_ GE302 hb
 (try clear hb)
 (try clear hb2)
 (try clear hk)
 (try clear hi)
 refine hK.out _ _ ⟨bt_ BK302 0, bt_ BK302 1, bt_ BK302 2, bt_ BK302 3, bt_ BK302 4⟩ (fun hHeld => ?_)
 clear hK K
 refine no_ ?_
 refine pv_ 19 26 ?_
 refine pv_ 20 3 ?_
 refine done_ (done_of HT_.out (by kernel_rfl)) ?_
 obtain ⟨hcz18_0, hcz18_1, hcz18_2, hcz18_3, hcz18_4, hfz18_0, hfz18_1, hfz18_2, hfz18_3, hfz18_4⟩ := cf5_ BK302.out
 try go_wp2
 go_loopg [3, 30] k (fun kq v3 v30 w' => ∃ (x3_1 : ByteArray) (x30_1 : Int), v3 = .string x3_1 ∧ v30 = .int .i64 x30_1 ∧ Aside0 (impl_batchBytes.l0 kq x3_1 l0_4 (l0_4.length : Int) x30_1 = some r) ∧ Aside0 (kq ≤ k) ∧ Aside0 (w'.heap[gb302]? = some (.cells #[.int .i64 a0_0, .int .i64 a0_1, .int .i64 a0_2, .int .i64 a0_3, (.slice A0_4 l0_4.length c0_4)] 43 (0, 0))) ∧ Aside0 (Below w.heap.size w w'))
 case atStart => exact ⟨((((t303 ++ t304) ++ t305) ++ t306) ++ t307), (0), sr_, sr_, H', ⟨Nat.le_refl _⟩, ⟨kb_ BK302.out⟩, ⟨hs_ GE302.out⟩⟩
 case round =>
  clear H'
  try clear c4
  try clear c4b0
  try clear c4b1
  try clear c4b2
  try clear c6
  try clear c6b0
  try clear c6b1
  try clear c6b2
  try clear c8
  try clear c8b0
  try clear c8b1
  try clear c8b2
  try clear c10
  try clear c10b0
  try clear c10b1
  try clear c10b2
  try clear hcz18_0
  try clear hcz18_1
  try clear hcz18_2
  try clear hcz18_3
  try clear hcz18_4
  try clear hfz18_0
  try clear hfz18_1
  try clear hfz18_2
  try clear hfz18_3
  try clear hfz18_4
  obtain ⟨x3_1, x30_1, rfl, rfl, HA, HK1, BK302, HB⟩ := hrel
  cases gk with
  | zero => exact absurd HA.out (by simp [impl_batchBytes.l0])
  | succ k1 =>
   have H := HA.out
   clear HA
   simp only [impl_batchBytes.l0] at H
   replace H := ite_ H
   obtain ⟨c19, H⟩ | ⟨c19, H⟩ := H
   ·have c19b0 := decide_eq_true c19
    clear c19
    replace H := ifs_ H
    obtain ⟨c20, H⟩ := H
    have c20b0 := decide_eq_true c20
    clear c20
    replace H := ifs_ H
    obtain ⟨c21, H⟩ := H
    have c21b0 := decide_eq_true c21
    clear c21
    replace H := bnd_ H
    obtain ⟨t309, A22, H⟩ := H
    replace H := ifs_ H
    obtain ⟨c23, H⟩ := H
    have c23b0 := eq_true c23
    have c23b1 := decide_eq_true c23
    try have c23b2 : (9223372036854775807 < t309.size + (rdOf ByteArray.empty l0_4 x30_1).size) = False := eq_false (Nat.not_lt.2 c23)
    try have c23w := cw_ c23
    (try rw [c23w] at c4b0)
    (try rw [c23w] at c6b0)
    (try rw [c23w] at c8b0)
    (try rw [c23w] at c10b0)
    (try rw [c23w] at c19b0)
    (try rw [c23w] at c20b0)
    (try rw [c23w] at c21b0)
    replace H := ifs_ H
    obtain ⟨c24, H⟩ := H
    have c24b0 := eq_true c24
    have c24b1 := decide_eq_true c24
    try have c24b2 : (9223372036854775807 < x3_1.size + (t309 ++ (rdOf ByteArray.empty l0_4 x30_1)).size) = False := eq_false (Nat.not_lt.2 c24)
    try have c24b3 : x3_1.size + (t309.size + (rdOf ByteArray.empty l0_4 x30_1).size) ≤ 9223372036854775807 := by (have h_ := c24; simp only [ByteArray.size_append] at h_; exact h_)
    try have c24b4 : (9223372036854775807 < x3_1.size + (t309.size + (rdOf ByteArray.empty l0_4 x30_1).size)) = False := eq_false (Nat.not_lt.2 c24b3)
    try have c24w := cw_ c24
    (try rw [c24w] at c4b0)
    (try rw [c24w] at c6b0)
    (try rw [c24w] at c8b0)
    (try rw [c24w] at c10b0)
    (try rw [c24w] at c19b0)
    (try rw [c24w] at c20b0)
    (try rw [c24w] at c21b0)
    (try rw [c24w] at c23b0)
    have H' := Aside0.mk H
    clear H
    have p308 : 0 ≤ (x30_1 : Int) := oa_
    have q308 : x30_1 < (l0_4.length : Int) := oa_
    obtain ⟨ad308, e308, hx308_0⟩ := Kd.at_string HR0_4.out x30_1 p308 q308
    cases e308
    replace hx308_0 := pc_ HB.out hx308_0
    replace p308 := eq_true p308
    replace q308 := eq_true q308
    go_wp2_with (first | ((with_reducible refine gate_callee (f := 111) rfl ?_); refine gl_ 37 Try.func111 #[.int .i64 ((rdOf ByteArray.empty l0_4 x30_1).size : Int), .int .i64 1] rfl ma_ ?_; (with_reducible refine (impl_put.calls k1 ((rdOf ByteArray.empty l0_4 x30_1).size : Int) 1 t309 _ A22.out).mono ?_); rintro e w25 ⟨rfl, hb⟩; refine ⟨_, rfl, ?_⟩; replace BK302 := bK_ BK302 hb; replace HB := nc_ GE302 hb; (try clear hb); (try clear hb2); (try clear hk); (try clear hi)))
    go_roundg k1
    case measure => have := HK1.out; omega
    case rel => exact ⟨(x3_1 ++ (t309 ++ (rdOf ByteArray.empty l0_4 x30_1))), (wrap64 (x30_1 + 1)), sr_, sr_, H', ⟨by have := HK1.out; omega⟩, ⟨kb_ BK302.out⟩, ⟨hs_ GE302.out⟩⟩
   have c19b0 := decide_eq_false c19
   clear c19
   replace H := bnd_ H
   obtain ⟨t310, A26, H⟩ := H
   replace H := ifs_ H
   obtain ⟨c27, H⟩ := H
   have c27b0 := eq_true c27
   have c27b1 := decide_eq_true c27
   try have c27b2 : (9223372036854775807 < t310.size + x3_1.size) = False := eq_false (Nat.not_lt.2 c27)
   try have c27w := cw_ c27
   (try rw [c27w] at c4b0)
   (try rw [c27w] at c6b0)
   (try rw [c27w] at c8b0)
   (try rw [c27w] at c10b0)
   (try rw [c27w] at c19b0)
   (try rw [c27w] at c20b0)
   (try rw [c27w] at c21b0)
   (try rw [c27w] at c23b0)
   (try rw [c27w] at c24b0)
   replace H := bnd_ H
   obtain ⟨t311, A28, H⟩ := H
   replace H := bnd_ H
   obtain ⟨t312, A29, H⟩ := H
   replace H := ifs_ H
   obtain ⟨c30, H⟩ := H
   have c30b0 := eq_true c30
   have c30b1 := decide_eq_true c30
   try have c30b2 : (9223372036854775807 < (t310 ++ x3_1).size + t312.size) = False := eq_false (Nat.not_lt.2 c30)
   try have c30b3 : t310.size + x3_1.size + t312.size ≤ 9223372036854775807 := by (have h_ := c30; simp only [ByteArray.size_append] at h_; exact h_)
   try have c30b4 : (9223372036854775807 < t310.size + x3_1.size + t312.size) = False := eq_false (Nat.not_lt.2 c30b3)
   try have c30w := cw_ c30
   (try rw [c30w] at c4b0)
   (try rw [c30w] at c6b0)
   (try rw [c30w] at c8b0)
   (try rw [c30w] at c10b0)
   (try rw [c30w] at c19b0)
   (try rw [c30w] at c20b0)
   (try rw [c30w] at c21b0)
   (try rw [c30w] at c23b0)
   (try rw [c30w] at c24b0)
   (try rw [c30w] at c27b0)
   obtain rfl := Option.some.inj H
   go_wp2_with (first | ((with_reducible refine gate_callee (f := 111) rfl ?_); refine gl_ 45 Try.func111 #[.int .i64 (wrap64 ((x3_1.size : Int) + 2)), .int .i64 2] rfl ma_ ?_; (with_reducible refine (impl_put.calls k1 (wrap64 ((x3_1.size : Int) + 2)) 2 t310 _ A26.out).mono ?_); rintro e w31 ⟨rfl, hb⟩; refine ⟨_, rfl, ?_⟩; replace BK302 := bK_ BK302 hb; replace HB := nc_ GE302 hb; (try clear hb); (try clear hb2); (try clear hk); (try clear hi)) | ((with_reducible refine gate_callee (f := 112) rfl ?_); refine gl_ 50 Try.func112 #[.string (t310 ++ x3_1)] rfl ma_ ?_; (with_reducible refine (impl_sumOf.calls k1 (t310 ++ x3_1) t311 _ A28.out).mono ?_); rintro e w' ⟨rfl, ⟨nd, rfl⟩⟩; refine ⟨_, rfl, ?_⟩) | ((with_reducible refine gate_callee (f := 111) rfl ?_); refine gl_ 51 Try.func111 #[.int .i64 t311, .int .i64 2] rfl ma_ ?_; (with_reducible refine (impl_put.calls k1 t311 2 t312 _ A29.out).mono ?_); rintro e w32 ⟨rfl, hb⟩; refine ⟨_, rfl, ?_⟩; replace BK302 := bK_ BK302 hb; replace HB := nc_ GE302 hb; (try clear hb); (try clear hb2); (try clear hk); (try clear hi)))
   go_ret
   exact ⟨er_, hs_ GE302.out⟩
/-! ### impl_segmentOf: function 104 -/
def impl_segmentOf.l0 : Nat → Int → List (S43) → Int → Int → Int → ByteArray → List (S89) → Option (Int × ByteArray × (List (S89)))
 | 0, _, _, _, _, _, _, _ => none
 | k + 1, x6, x12, x13, x14, x315000, x315001, x315002 => if x14 < x13 then (if 0 ≤ x14 then (if x14 < (x12.length : Int) then (if x14 = 0 then (if x315002.length < 8796093022208 then ((impl_batchBytes.f k ((rd_T43 x12 x14).f0) ((rd_T43 x12 x14).f1) ((rd_T43 x12 x14).f2) ((rd_T43 x12 x14).f3) ((rd_T43 x12 x14).f4)).bind fun t320 => (if x315001.size + t320.size ≤ 9223372036854775807 then (impl_segmentOf.l0 k (x315001.size : Int) x12 x13 (wrap64 (x14 + 1)) ((rd_T43 x12 x14).f0) (x315001 ++ t320) (x315002 ++ [(⟨(rd_T43 x12 x14).f0, (x315001.size : Int)⟩ : S89)])) else (none))) else (none)) else (if (wrap64 ((x315001.size : Int) - x6)) ≥ 40 then (if x315002.length < 8796093022208 then ((impl_batchBytes.f k ((rd_T43 x12 x14).f0) ((rd_T43 x12 x14).f1) ((rd_T43 x12 x14).f2) ((rd_T43 x12 x14).f3) ((rd_T43 x12 x14).f4)).bind fun t324 => (if x315001.size + t324.size ≤ 9223372036854775807 then (impl_segmentOf.l0 k (x315001.size : Int) x12 x13 (wrap64 (x14 + 1)) x315000 (x315001 ++ t324) (x315002 ++ [(⟨(rd_T43 x12 x14).f0, (x315001.size : Int)⟩ : S89)])) else (none))) else (none)) else ((impl_batchBytes.f k ((rd_T43 x12 x14).f0) ((rd_T43 x12 x14).f1) ((rd_T43 x12 x14).f2) ((rd_T43 x12 x14).f3) ((rd_T43 x12 x14).f4)).bind fun t325 => (if x315001.size + t325.size ≤ 9223372036854775807 then (impl_segmentOf.l0 k x6 x12 x13 (wrap64 (x14 + 1)) x315000 (x315001 ++ t325) x315002) else (none))))) else (none)) else (none)) else (some (x315000, x315001, x315002))
def impl_segmentOf.f (k : Nat) (l0 : List (S43)) (a1 : Int) : Option (Int × ByteArray × (List (S89))) := impl_segmentOf.l0 k 0 l0 (l0.length : Int) 0 a1 (⟨#[]⟩ : ByteArray) ([] : List (S89))
theorem impl_segmentOf.mono_l : ∀ k, (∀ y0 y1 y2 y3 y4 y5 y6, LeO (impl_segmentOf.l0 k y0 y1 y2 y3 y4 y5 y6) (impl_segmentOf.l0 (k + 1) y0 y1 y2 y3 y4 y5 y6))
 | 0 => fun _ _ _ _ _ _ _ r h => by simp [impl_segmentOf.l0] at h
 | k + 1 => by
  have ih0 := impl_segmentOf.mono_l k
  ·intro y0 y1 y2 y3 y4 y5 y6
   unfold impl_segmentOf.l0
   repeat' first
   | (with_reducible first | apply ih0 | apply impl_batchBytes.mono | exact LeO.refl _ | exact LeO.none _ | refine LeO.ite ?_ ?_ | refine LeO.bind ?_ (fun _ => ?_))
theorem impl_segmentOf.mono : ∀ a0 a1 k, LeO (impl_segmentOf.f k a0 a1) (impl_segmentOf.f (k + 1) a0 a1) := by
 intro a0 a1 k
 have ih0 := impl_segmentOf.mono_l k
 unfold impl_segmentOf.f
 repeat' first
   | (with_reducible first | apply ih0 | apply impl_batchBytes.mono | exact LeO.refl _ | exact LeO.none _ | refine LeO.ite ?_ ?_ | refine LeO.bind ?_ (fun _ => ?_))
set_option maxHeartbeats 8000000 in
set_option maxRecDepth 100000 in
theorem impl_segmentOf.calls (k : Nat) (A0 : Option Addr) (c0 : Nat) (l0 : List (S43)) (a1 : Int) (r1 : Int) (r2 : ByteArray) (r3 : List (S89)) (w : World) (hr0 : Kd.C k43 w A0 l0.length l0) (hc0 : l0.length ≤ c0) (h : impl_segmentOf.f k l0 a1 = some (r1, r2, r3)) :
  Calls Try.prog 104 #[.slice A0 l0.length c0, .int .i64 a1] w fun e w' => ∃ v2_ : Value, e = .returned (.agg #[.int .i64 r1, .string r2, v2_]) ∧ Kd.R k89 89 w' w.heap.size (fun _ => True) v2_ r3 ∧ Below w.heap.size w w' := by
 have hu65 := Try.underlying65
 have hu43 := Try.underlying43
 have hu89 := Try.underlying89
 have HR0 := Aside0.mk hr0
 have HC0 := Aside0.mk hc0
 clear hr0 hc0
 have HB := Aside0.mk (Below.refl w.heap.size w)
 have H : (impl_segmentOf.l0 k 0 l0 (l0.length : Int) 0 a1 (⟨#[]⟩ : ByteArray) ([] : List (S89))) = some (r1, r2, r3) := h
 clear h
 have H' := Aside0.mk H
 clear H
 go_enter Try.func104, Try.ntmps104
 go_wp2_with (first | ((with_reducible refine gate_dst (N := 4) rfl ?_); refine box_event ?hg (N := 4) ?hd (cs := #[.int .i64 0, .string (⟨#[]⟩ : ByteArray), .slice none 0 0]) (t := 65) ?hr ?_; (case hd => rfl); (case hg => rfl); (case hr => first | (go_simp; done) | (go_simp; rfl)); intro gb313 hg w3 hbox hb; have BK313 := Aside0.mk (hbox); have GE313 := ge_ hg; replace HB := nb_ hb; clear hb hbox hg) | ((with_reducible refine gate_dst (N := 5) rfl ?_); refine box_event ?hg (N := 5) ?hd (cs := #[.int .i64 0, .string (⟨#[]⟩ : ByteArray), .slice none 0 0]) (t := 65) ?hr ?_; (case hd => rfl); (case hg => rfl); (case hr => first | (go_simp; done) | (go_simp; rfl)); intro gb314 hg w4 hbox hb; have BK314 := Aside0.mk (hbox); have GE314 := ge1_ hg GE313; replace HB := nc_ GE313 hb; have NB313_314 := Aside0.mk ((by rw [hg]; exact Nat.ne_of_lt (blk_lt (g := gb313) (o := .cells #[.int .i64 0, .string (⟨#[]⟩ : ByteArray), .slice none 0 0] 65 (0, 0)) (kb_ BK313.out)) : gb313 ≠ gb314)); have NB314_313 := Aside0.mk ((by rw [hg]; exact Nat.ne_of_gt (blk_lt (g := gb313) (o := .cells #[.int .i64 0, .string (⟨#[]⟩ : ByteArray), .slice none 0 0] 65 (0, 0)) (kb_ BK313.out)) : gb314 ≠ gb313)); replace BK313 := Aside0.mk (blk_below (g := gb313) (o := .cells #[.int .i64 0, .string (⟨#[]⟩ : ByteArray), .slice none 0 0] 65 (0, 0)) (kb_ BK313.out) hb); clear hb hbox hg; have hnb5 := NB314_313.out; have hnc5 := NB313_314.out; obtain ⟨hcz6_0, hcz6_1, hcz6_2, hfz6_0, hfz6_1, hfz6_2⟩ := cf3_ BK314.out))
 go_loopg [6, 14] k (fun kq v6 v14 w' => ∃ (x6_1 : Int) (x14_1 : Int) (x315000_1 : Int) (x315001_1 : ByteArray) (x315002_1 : List (S89)) (u315002 : Value), v6 = .int .i64 x6_1 ∧ v14 = .int .i64 x14_1 ∧ Aside0 (impl_segmentOf.l0 kq x6_1 l0 (l0.length : Int) x14_1 x315000_1 x315001_1 x315002_1 = some (r1, r2, r3)) ∧ Aside0 (kq ≤ k) ∧ Aside0 (Kd.R k89 89 w' w.heap.size (fun _ => True) u315002 x315002_1) ∧ Aside0 (w'.heap[gb313]? = some (.cells #[.int .i64 0, .string (⟨#[]⟩ : ByteArray), (.slice none 0 0)] 65 (0, 0))) ∧ Aside0 (w'.heap[gb314]? = some (.cells #[.int .i64 x315000_1, .string x315001_1, u315002] 65 (0, 0))) ∧ Aside0 (Below w.heap.size w w'))
 case atStart => exact ⟨(0), (0), (a1), ((⟨#[]⟩ : ByteArray)), (([] : List (S89))), (.slice none 0 0), sr_, sr_, H', ⟨Nat.le_refl _⟩, ⟨ni_⟩, ⟨uf_ BK313 NB313_314.out⟩, ⟨up_ BK314⟩, ⟨hs2_ GE313.out GE314.out⟩⟩
 case round =>
  clear H'
  try clear hcz6_0
  try clear hcz6_1
  try clear hcz6_2
  try clear hfz6_0
  try clear hfz6_1
  try clear hfz6_2
  obtain ⟨x6_1, x14_1, x315000_1, x315001_1, x315002_1, u315002, rfl, rfl, HA, HK1, HO_315002, BK313, BK314, HB⟩ := hrel
  cases gk with
  | zero => exact absurd HA.out (by simp [impl_segmentOf.l0])
  | succ k1 =>
   have H := HA.out
   clear HA
   simp only [impl_segmentOf.l0] at H
   replace H := ite_ H
   obtain ⟨c7, H⟩ | ⟨c7, H⟩ := H
   rotate_left
   ·have c7b0 := decide_eq_false c7
    clear c7
    simp only [Option.some.injEq, Prod.mk.injEq] at H
    obtain ⟨rfl, rfl, rfl⟩ := H
    have hnb56 := NB314_313.out
    have hnc56 := NB313_314.out
    obtain ⟨hcz57_0, hcz57_1, hcz57_2, hfz57_0, hfz57_1, hfz57_2⟩ := cf3_ BK314.out
    obtain ⟨hcz58_0, hcz58_1, hcz58_2, hfz58_0, hfz58_1, hfz58_2⟩ := cf3_ BK313.out
    obtain ⟨Ao59, co59, eo59⟩ := Kd.R_slice HO_315002.out
    subst eo59
    go_wp2
    refine bodyPost_ret (results_cell_row rfl _ _ gb313 65 #[.int .i64 x315000_1, .string x315001_1, .slice Ao59 x315002_1.length co59] (0, 0) _ rfl (up_ BK313) Try.underlying65 rfl (by kernel_rfl)) rfl ?_
    exact ⟨_, er_, Kd.R_mono (rF_ (Kd.R_types HO_315002.out BK313.out (by decide))) (fun _ hk => trivial), hs2_ GE313.out GE314.out⟩
   have c7b0 := decide_eq_true c7
   clear c7
   replace H := ifs_ H
   obtain ⟨c8, H⟩ := H
   have c8b0 := decide_eq_true c8
   clear c8
   replace H := ifs_ H
   obtain ⟨c9, H⟩ := H
   have c9b0 := decide_eq_true c9
   clear c9
   replace H := ite_ H
   obtain ⟨c10, H⟩ | ⟨c10, H⟩ := H
   ·have c10b0 : (x14_1 == 0) = true := beq_iff_eq.mpr c10
    have c10b1 : (x14_1 != 0) = false := bne_eq_false_iff_eq.mpr c10
    clear c10
    replace H := ifs_ H
    obtain ⟨c11, H⟩ := H
    have LMc11 := Aside0.mk c11
    clear c11
    obtain ⟨y317, hy317⟩ : ∃ y_ : List (S89), y_ = (x315002_1 ++ [(⟨(rd_T43 l0 x14_1).f0, (x315001_1.size : Int)⟩ : S89)]) := ⟨_, rfl⟩
    replace H : ((impl_batchBytes.f k1 ((rd_T43 l0 x14_1).f0) ((rd_T43 l0 x14_1).f1) ((rd_T43 l0 x14_1).f2) ((rd_T43 l0 x14_1).f3) ((rd_T43 l0 x14_1).f4)).bind fun t320 => (if x315001_1.size + t320.size ≤ 9223372036854775807 then (impl_segmentOf.l0 k1 (x315001_1.size : Int) l0 (l0.length : Int) (wrap64 (x14_1 + 1)) ((rd_T43 l0 x14_1).f0) (x315001_1 ++ t320) y317) else (none))) = some (r1, r2, r3) := by first | (rw [hy317]; with_reducible exact H) | (have H2_ := (Option.bind_some _ _).symm.trans H; rw [hy317]; with_reducible exact H2_) | (have H2_ := (Option.bind_some _ _).symm.trans H; with_reducible exact H2_) | with_reducible exact H | (rw [hy317]; exact H) | exact H
    have Ny317 := Aside0.mk hy317
    clear hy317
    replace H := bnd_ H
    obtain ⟨t320, A12, H⟩ := H
    replace H := ifs_ H
    obtain ⟨c13, H⟩ := H
    have c13b0 := eq_true c13
    have c13b1 := decide_eq_true c13
    try have c13b2 : (9223372036854775807 < x315001_1.size + t320.size) = False := eq_false (Nat.not_lt.2 c13)
    try have c13w := cw_ c13
    (try rw [c13w] at c7b0)
    (try rw [c13w] at c8b0)
    (try rw [c13w] at c9b0)
    (try rw [c13w] at c10b0)
    have H' := Aside0.mk H
    clear H
    have p315 : 0 ≤ (x14_1 : Int) := oa_
    have q315 : x14_1 < (l0.length : Int) := oa_
    obtain ⟨ad315, A315_4, c315_4, e315, hx315_0, hx315_1, hx315_2, hx315_3, hx315_4, hl315_4, hi315_4⟩ := at_T43 HR0.out x14_1 p315 q315
    cases e315
    replace hx315_0 := pc_ HB.out hx315_0
    replace hx315_1 := pc_ HB.out hx315_1
    replace hx315_2 := pc_ HB.out hx315_2
    replace hx315_3 := pc_ HB.out hx315_3
    replace hx315_4 := pc_ HB.out hx315_4
    have HR315_4 := Aside0.mk hi315_4
    have HC315_4 := Aside0.mk hl315_4
    clear hi315_4 hl315_4
    replace p315 := eq_true p315
    replace q315 := eq_true q315
    try go_wp2_with (first | ((with_reducible refine gate_dst (N := 8) rfl ?_); refine bq_ (N := 8) #[.int .i64 0, .int .i64 0, .int .i64 0, .int .i64 0, .slice none 0 0] 43 ?_; intro gb316 hg w14 BK316 hb; replace HO_315002 := rB_ HO_315002 hb; have GE316 := ge2_ hg GE313 GE314; replace HB := nc2_ GE313 GE314 hb; have NB313_316 := Aside0.mk ((by rw [hg]; exact Nat.ne_of_lt (blk_lt (g := gb313) (o := .cells #[.int .i64 0, .string (⟨#[]⟩ : ByteArray), .slice none 0 0] 65 (0, 0)) (kb_ BK313.out)) : gb313 ≠ gb316)); have NB316_313 := Aside0.mk ((by rw [hg]; exact Nat.ne_of_gt (blk_lt (g := gb313) (o := .cells #[.int .i64 0, .string (⟨#[]⟩ : ByteArray), .slice none 0 0] 65 (0, 0)) (kb_ BK313.out)) : gb316 ≠ gb313)); replace BK313 := Aside0.mk (blk_below (g := gb313) (o := .cells #[.int .i64 0, .string (⟨#[]⟩ : ByteArray), .slice none 0 0] 65 (0, 0)) (kb_ BK313.out) hb); have NB314_316 := nl_ BK314 hg; have NB316_314 := ng_ BK314 hg; replace BK314 := bK_ BK314 hb; clear hb hg; have hnb15 := NB316_313.out; have hnc15 := NB313_316.out; have hnb16 := NB316_314.out; have hnc16 := NB314_316.out; obtain ⟨hcz17_0, hcz17_1, hcz17_2, hcz17_3, hcz17_4, hfz17_0, hfz17_1, hfz17_2, hfz17_3, hfz17_4⟩ := cf5_ BK316.out; have hnb18 := NB314_313.out; have hnc18 := NB313_314.out; obtain ⟨hcz19_0, hcz19_1, hcz19_2, hfz19_0, hfz19_1, hfz19_2⟩ := cf3_ BK314.out) | ((with_reducible refine gate_builtin (b := .append) (xs := #[.tmp 36, .tmp 41]) rfl ?_); at_builtin; refine Kd.R_append k89 (w0 := w) w.heap.size rfl (.tmp 36) (.tmp 41) 63 89 (.agg #[(.int .i64 0), (.int .i64 0)]) 16 rfl Try.underlying63 info89 rfl (by decide) (by omega) u315002 x315002_1 (⟨(rd_T43 l0 x14_1).f0, (x315001_1.size : Int)⟩ : S89) [.int .i64 ((rd_T43 l0 x14_1).f0), .int .i64 (x315001_1.size : Int)] (fun _ => True) (fun _ => False) rfl (by first | (go_simp; done) | (go_simp; rfl)) ?aP (fun _ hk => hk.elim) ?aF ?aO ?aB ?aS ?aL ?_; (case aP => exact k89_mkM _ _ _ (⟨(rd_T43 l0 x14_1).f0, (x315001_1.size : Int)⟩ : S89)); (case aB => exact (hs3_ GE313.out GE314.out GE316.out)); (case aF => exact (fun _ _ => trivial)); (case aO => exact (rF_ (Kd.R_mono (Kd.R_far (p := ⟨gb314, 0, none⟩) (Kd.R_far (p := ⟨gb316, 4, none⟩) (Kd.R_far (p := ⟨gb316, 3, none⟩) (Kd.R_far (p := ⟨gb316, 2, none⟩) (Kd.R_far (p := ⟨gb316, 1, none⟩) (Kd.R_far (p := ⟨gb316, 0, none⟩) (Kd.R_types (Kd.R_types HO_315002.out BK316.out (by decide)) BK314.out (by decide)) (fun _ hk => hk.1.2) (.int .i64 ((rd_T43 l0 x14_1).f0))) (fun _ hk => hk.1.2) (.int .i64 ((rd_T43 l0 x14_1).f1))) (fun _ hk => hk.1.2) (.int .i64 ((rd_T43 l0 x14_1).f2))) (fun _ hk => hk.1.2) (.int .i64 ((rd_T43 l0 x14_1).f3))) (fun _ hk => hk.1.2) (.slice A315_4 ((rd_T43 l0 x14_1).f4).length c315_4)) (fun _ hk => hk.2) (.int .i64 ((rd_T43 l0 x14_1).f0))) (fun _ hk => trivial)))); (case aS => exact (below_size (hs3_ GE313.out GE314.out GE316.out))); (case aL => have := LMc11.out; omega); intro v318 w20 ho hb hg hat; rw [← Ny317.out] at ho; replace BK313 := Aside0.mk (blk_grown (g := gb313) (o := .cells #[.int .i64 0, .string (⟨#[]⟩ : ByteArray), .slice none 0 0] 65 (0, 0)) (ug_ BK313 NB313_314.out NB313_316.out) hg (Kd.R_ne HO_315002.out BK313.out (by decide))); replace BK314 := Aside0.mk (blk_grown (g := gb314) (o := .cells #[.int .i64 ((rd_T43 l0 x14_1).f0), .string x315001_1, u315002] 65 (0, 0)) (by (with_reducible repeat (first | refine blk_drewN ?_ _ | refine blk_drew ?_ | refine blk_alloc ?_ _)); refine blk_put (cs := #[.int .i64 x315000_1, .string x315001_1, u315002]) ?_ 0 _ rfl; (with_reducible repeat (first | refine blk_drewN ?_ _ | refine blk_drew ?_ | refine blk_alloc ?_ _)); refine blk_far ?_ NB314_316.out _; (with_reducible repeat (first | refine blk_drewN ?_ _ | refine blk_drew ?_ | refine blk_alloc ?_ _)); refine blk_far ?_ NB314_316.out _; (with_reducible repeat (first | refine blk_drewN ?_ _ | refine blk_drew ?_ | refine blk_alloc ?_ _)); refine blk_far ?_ NB314_316.out _; (with_reducible repeat (first | refine blk_drewN ?_ _ | refine blk_drew ?_ | refine blk_alloc ?_ _)); refine blk_far ?_ NB314_316.out _; (with_reducible repeat (first | refine blk_drewN ?_ _ | refine blk_drew ?_ | refine blk_alloc ?_ _)); refine blk_far ?_ NB314_316.out _; (with_reducible repeat (first | refine blk_drewN ?_ _ | refine blk_drew ?_ | refine blk_alloc ?_ _)); exact BK314.out) hg (Kd.R_ne HO_315002.out BK314.out (by decide))); replace BK316 := Aside0.mk (blk_grown (g := gb316) (o := .cells #[.int .i64 ((rd_T43 l0 x14_1).f0), .int .i64 ((rd_T43 l0 x14_1).f1), .int .i64 ((rd_T43 l0 x14_1).f2), .int .i64 ((rd_T43 l0 x14_1).f3), .slice A315_4 ((rd_T43 l0 x14_1).f4).length c315_4] 43 (0, 0)) (by (with_reducible repeat (first | refine blk_drewN ?_ _ | refine blk_drew ?_ | refine blk_alloc ?_ _)); refine blk_far ?_ NB316_314.out _; (with_reducible repeat (first | refine blk_drewN ?_ _ | refine blk_drew ?_ | refine blk_alloc ?_ _)); refine blk_put (cs := #[.int .i64 ((rd_T43 l0 x14_1).f0), .int .i64 ((rd_T43 l0 x14_1).f1), .int .i64 ((rd_T43 l0 x14_1).f2), .int .i64 ((rd_T43 l0 x14_1).f3), .slice none 0 0]) ?_ 4 _ rfl; (with_reducible repeat (first | refine blk_drewN ?_ _ | refine blk_drew ?_ | refine blk_alloc ?_ _)); refine blk_put (cs := #[.int .i64 ((rd_T43 l0 x14_1).f0), .int .i64 ((rd_T43 l0 x14_1).f1), .int .i64 ((rd_T43 l0 x14_1).f2), .int .i64 0, .slice none 0 0]) ?_ 3 _ rfl; (with_reducible repeat (first | refine blk_drewN ?_ _ | refine blk_drew ?_ | refine blk_alloc ?_ _)); refine blk_put (cs := #[.int .i64 ((rd_T43 l0 x14_1).f0), .int .i64 ((rd_T43 l0 x14_1).f1), .int .i64 0, .int .i64 0, .slice none 0 0]) ?_ 2 _ rfl; (with_reducible repeat (first | refine blk_drewN ?_ _ | refine blk_drew ?_ | refine blk_alloc ?_ _)); refine blk_put (cs := #[.int .i64 ((rd_T43 l0 x14_1).f0), .int .i64 0, .int .i64 0, .int .i64 0, .slice none 0 0]) ?_ 1 _ rfl; (with_reducible repeat (first | refine blk_drewN ?_ _ | refine blk_drew ?_ | refine blk_alloc ?_ _)); refine blk_put (cs := #[.int .i64 0, .int .i64 0, .int .i64 0, .int .i64 0, .slice none 0 0]) ?_ 0 _ rfl; (with_reducible repeat (first | refine blk_drewN ?_ _ | refine blk_drew ?_ | refine blk_alloc ?_ _)); exact BK316.out) hg (Kd.R_ne HO_315002.out BK316.out (by decide))); replace HB := Aside0.mk (hb); have HO319 := Aside0.mk (ho); clear HO_315002; clear ho hb hg hat; obtain ⟨Ao21, co21, eo21⟩ := Kd.R_slice HO319.out; subst eo21; obtain ⟨hcz22_0, hcz22_1, hcz22_2, hfz22_0, hfz22_1, hfz22_2⟩ := cf3_ BK314.out))
    have n0_ : Aside0 (Kd.R k89 89 (w20.setCell ⟨gb314, 2, none⟩ (.slice Ao21 y317.length co21)) w.heap.size (fun _ => True) (.slice Ao21 y317.length co21) y317) := ⟨rF_ (Kd.R_mono (Kd.R_far (p := ⟨gb314, 2, none⟩) (Kd.R_types HO319.out BK314.out (by decide)) (fun _ hk => hk.2) (.slice Ao21 y317.length co21)) (fun _ hk => trivial))⟩
    have n1_ : Aside0 ((w20.setCell ⟨gb314, 2, none⟩ (.slice Ao21 y317.length co21)).heap[gb313]? = some (.cells #[.int .i64 0, .string (⟨#[]⟩ : ByteArray), .slice none 0 0] 65 (0, 0))) := ⟨uf_ BK313 NB313_314.out⟩
    have n2_ : Aside0 ((w20.setCell ⟨gb314, 2, none⟩ (.slice Ao21 y317.length co21)).heap[gb314]? = some (.cells #[.int .i64 ((rd_T43 l0 x14_1).f0), .string x315001_1, .slice Ao21 y317.length co21] 65 (0, 0))) := ⟨up_ BK314⟩
    have n3_ : Aside0 ((w20.setCell ⟨gb314, 2, none⟩ (.slice Ao21 y317.length co21)).heap[gb316]? = some (.cells #[.int .i64 ((rd_T43 l0 x14_1).f0), .int .i64 ((rd_T43 l0 x14_1).f1), .int .i64 ((rd_T43 l0 x14_1).f2), .int .i64 ((rd_T43 l0 x14_1).f3), .slice A315_4 ((rd_T43 l0 x14_1).f4).length c315_4] 43 (0, 0))) := ⟨uf_ BK316 NB316_314.out⟩
    have n4_ : Aside0 (Below w.heap.size w (w20.setCell ⟨gb314, 2, none⟩ (.slice Ao21 y317.length co21))) := ⟨hs3_ GE313.out GE314.out GE316.out⟩
    (try clear HO319)
    (try clear BK313)
    (try clear BK314)
    (try clear BK316)
    (try clear HB)
    generalize (w20.setCell ⟨gb314, 2, none⟩ (.slice Ao21 y317.length co21)) = w23 at n0_ n1_ n2_ n3_ n4_ ⊢
    have HO319 := n0_
    have BK313 := n1_
    have BK314 := n2_
    have BK316 := n3_
    have HB := n4_
    clear n0_ n1_ n2_ n3_ n4_
    replace HO319 := qR_ HO319
    replace BK313 := qK_ BK313
    replace BK314 := qK_ BK314
    replace BK316 := qK_ BK316
    replace HB := qH_ HB
    refine start_ (n := 7) (S := fun w' => w'.cell? ⟨gb314, 0, none⟩ = some (.int .i64 ((rd_T43 l0 x14_1).f0)) ∧ w'.cell? ⟨gb314, 1, none⟩ = some (.string x315001_1) ∧ w'.cell? ⟨gb314, 2, none⟩ = some (.slice Ao21 y317.length co21) ∧ w'.cell? ⟨gb316, 0, none⟩ = some (.int .i64 ((rd_T43 l0 x14_1).f0)) ∧ w'.cell? ⟨gb316, 1, none⟩ = some (.int .i64 ((rd_T43 l0 x14_1).f1)) ∧ w'.cell? ⟨gb316, 2, none⟩ = some (.int .i64 ((rd_T43 l0 x14_1).f2)) ∧ w'.cell? ⟨gb316, 3, none⟩ = some (.int .i64 ((rd_T43 l0 x14_1).f3)) ∧ w'.cell? ⟨gb316, 4, none⟩ = some (.slice A315_4 ((rd_T43 l0 x14_1).f4).length c315_4)) (ds := [6]) #[false, false, false, false, false, false, false] (by kernel_rfl) rfl rfl ⟨bt_ BK314 0, bt_ BK314 1, bt_ BK314 2, bt_ BK316 0, bt_ BK316 1, bt_ BK316 2, bt_ BK316 3, bt_ BK316 4⟩ (fun hHeld => ?_)
    generalize w23.drew = w24 at HO319 BK313 BK314 BK316 HB hHeld ⊢
    refine pure_ (i := 0) (N := some 45) (v := ?_) (a' := ?_) #[true, false, false, false, false, false, false] rfl rfl (by kernel_rfl) (fun _ _ _ h => h) (Or.inl ⟨by rfl, ?_⟩) ?_ ?_
    rotate_left
    ·intro w'
     go_simp
     with_reducible rfl
    rotate_left
    ·simp only [Act.put, List.setIfInBounds_toArray, List.set_cons_zero, List.set_cons_succ, i64_w, i32_w]
     rfl
    refine take_ (i := 1) (N := some 46) (v := ?_) (a' := ?_) #[true, true, false, false, false, false, false] rfl rfl (by kernel_rfl) (fun _ _ _ h => h) (Or.inl ⟨by rfl, ?_⟩) hHeld ?_ ?_
    rotate_left
    ·rintro w' ⟨s0, s1, s2, s3, s4, s5, s6, s7⟩
     go_simp
     with_reducible rfl
    rotate_left
    ·simp only [Act.put, List.setIfInBounds_toArray, List.set_cons_zero, List.set_cons_succ, i64_w, i32_w]
     rfl
    refine take_ (i := 2) (N := some 47) (v := ?_) (a' := ?_) #[true, true, true, false, false, false, false] rfl rfl (by kernel_rfl) (fun _ _ _ h => h) (Or.inl ⟨by rfl, ?_⟩) hHeld ?_ ?_
    rotate_left
    ·rintro w' ⟨s0, s1, s2, s3, s4, s5, s6, s7⟩
     go_simp
     with_reducible rfl
    rotate_left
    ·simp only [Act.put, List.setIfInBounds_toArray, List.set_cons_zero, List.set_cons_succ, i64_w, i32_w]
     rfl
    refine one_ (i := 3) (N := some 48) #[true, true, true, true, false, false, false] rfl rfl (by kernel_rfl) (by decide) (fun K hK => ?_)
    refine gs_ Try.func84 #[.agg #[.int .i64 ((rd_T43 l0 x14_1).f0), .int .i64 ((rd_T43 l0 x14_1).f1), .int .i64 ((rd_T43 l0 x14_1).f2), .int .i64 ((rd_T43 l0 x14_1).f3), .slice A315_4 ((rd_T43 l0 x14_1).f4).length c315_4]] rfl ma_ ?_
    with_reducible refine (impl_batchBytes.calls k1 ((rd_T43 l0 x14_1).f0) ((rd_T43 l0 x14_1).f1) ((rd_T43 l0 x14_1).f2) ((rd_T43 l0 x14_1).f3) _ _ ((rd_T43 l0 x14_1).f4) t320 _ ?side1 ?side2 A12.out).mono ?_
    (case side1 => exact cs_ ((Kd.C_below HR315_4.out HB.out)))
    (case side2 => exact HC315_4.out)
    rintro e w25 ⟨rfl, hb⟩
    refine ⟨_, rfl, ?_⟩
    replace HO319 := rB_ HO319 hb
    replace BK313 := Aside0.mk (blk_below (g := gb313) (o := .cells #[.int .i64 0, .string (⟨#[]⟩ : ByteArray), .slice none 0 0] 65 (0, 0)) (kb_ BK313.out) hb)
    replace BK314 := bK_ BK314 hb
    replace BK316 := bK_ BK316 hb
    replace HB := nc3_ GE313 GE314 GE316 hb
    (try clear hb)
    (try clear hb2)
    (try clear hk)
    (try clear hi)
    refine hK.out _ _ ⟨bt_ BK314 0, bt_ BK314 1, bt_ BK314 2, bt_ BK316 0, bt_ BK316 1, bt_ BK316 2, bt_ BK316 3, bt_ BK316 4⟩ (fun hHeld => ?_)
    clear hK K
    refine no_ ?_
    refine pure_ (i := 4) (N := some 49) (v := ?_) (a' := ?_) #[true, true, true, true, true, false, false] rfl rfl (by kernel_rfl) (fun _ _ _ h => h) (Or.inl ⟨by rfl, ?_⟩) ?_ ?_
    rotate_left
    ·intro w'
     go_simp
     with_reducible rfl
    rotate_left
    ·simp only [Act.put, List.setIfInBounds_toArray, List.set_cons_zero, List.set_cons_succ, i64_w, i32_w]
     rfl
    refine pure_ (i := 5) (N := some 50) (v := ?_) (a' := ?_) #[true, true, true, true, true, true, false] rfl rfl (by kernel_rfl) (fun _ _ _ h => h) (Or.inl ⟨by rfl, ?_⟩) ?_ ?_
    rotate_left
    ·intro w'
     go_simp
     with_reducible rfl
    rotate_left
    ·simp only [Act.put, List.setIfInBounds_toArray, List.set_cons_zero, List.set_cons_succ, i64_w, i32_w]
     rfl
    refine last_ (i := 6) (N := none) #[true, true, true, true, true, true, true] rfl rfl (by kernel_rfl) (by decide) (fun K hK => ?_)
    have hs26 : w25.cell? ⟨gb314, 1, none⟩ = some (.string x315001_1) := bt_ BK314 1
    have hfs26 := blk_frozen BK314.out 1
    have hns26_0 := NB313_314.out
    have hns26_2 := NB316_314.out
    have hms26_0 := NB314_313.out
    have hms26_2 := NB314_316.out
    refine skip_ (w1 := ?_) (by rfl) rfl ?_ ?_
    rotate_left
    ·go_simp
     rfl
    refine hK.out _ _ ?_
    clear hK K
    refine done_ (by kernel_rfl) ?_
    try go_wp2
    go_roundg k1
    case measure => have := HK1.out; omega
    case rel => exact ⟨((x315001_1.size : Int)), (wrap64 (x14_1 + 1)), ((rd_T43 l0 x14_1).f0), (x315001_1 ++ t320), (y317), (.slice Ao21 y317.length co21), sr_, sr_, H', ⟨by have := HK1.out; omega⟩, ⟨rF_ (Kd.R_mono (Kd.R_far (p := ⟨gb314, 1, none⟩) (Kd.R_types HO319.out BK314.out (by decide)) (fun _ hk => hk.2) (.string (x315001_1 ++ t320))) (fun _ hk => trivial))⟩, ⟨uf_ BK313 NB313_314.out⟩, ⟨up_ BK314⟩, ⟨hs3_ GE313.out GE314.out GE316.out⟩⟩
   have c10b0 : (x14_1 == 0) = false := beq_eq_false_iff_ne.mpr c10
   have c10b1 : (x14_1 != 0) = true := bne_iff_ne.mpr c10
   replace H := ite_ H
   obtain ⟨c27, H⟩ | ⟨c27, H⟩ := H
   rotate_left
   ·have c27b0 := dne_ c27
    clear c27
    replace H := bnd_ H
    obtain ⟨t325, A44, H⟩ := H
    replace H := ifs_ H
    obtain ⟨c45, H⟩ := H
    have c45b0 := eq_true c45
    have c45b1 := decide_eq_true c45
    try have c45b2 : (9223372036854775807 < x315001_1.size + t325.size) = False := eq_false (Nat.not_lt.2 c45)
    try have c45w := cw_ c45
    (try rw [c45w] at c7b0)
    (try rw [c45w] at c8b0)
    (try rw [c45w] at c9b0)
    (try rw [c45w] at c10b0)
    (try rw [c45w] at c13b0)
    (try rw [c45w] at c27b0)
    (try rw [c45w] at c30b0)
    have H' := Aside0.mk H
    clear H
    have p315 : 0 ≤ (x14_1 : Int) := oa_
    have q315 : x14_1 < (l0.length : Int) := oa_
    obtain ⟨ad315, A315_4, c315_4, e315, hx315_0, hx315_1, hx315_2, hx315_3, hx315_4, hl315_4, hi315_4⟩ := at_T43 HR0.out x14_1 p315 q315
    cases e315
    replace hx315_0 := pc_ HB.out hx315_0
    replace hx315_1 := pc_ HB.out hx315_1
    replace hx315_2 := pc_ HB.out hx315_2
    replace hx315_3 := pc_ HB.out hx315_3
    replace hx315_4 := pc_ HB.out hx315_4
    have HR315_4 := Aside0.mk hi315_4
    have HC315_4 := Aside0.mk hl315_4
    clear hi315_4 hl315_4
    replace p315 := eq_true p315
    replace q315 := eq_true q315
    try go_wp2_with (first | ((with_reducible refine gate_dst (N := 8) rfl ?_); refine bq_ (N := 8) #[.int .i64 0, .int .i64 0, .int .i64 0, .int .i64 0, .slice none 0 0] 43 ?_; intro gb316 hg w46 BK316 hb; replace HO_315002 := rB_ HO_315002 hb; have GE316 := ge2_ hg GE313 GE314; replace HB := nc2_ GE313 GE314 hb; have NB313_316 := Aside0.mk ((by rw [hg]; exact Nat.ne_of_lt (blk_lt (g := gb313) (o := .cells #[.int .i64 0, .string (⟨#[]⟩ : ByteArray), .slice none 0 0] 65 (0, 0)) (kb_ BK313.out)) : gb313 ≠ gb316)); have NB316_313 := Aside0.mk ((by rw [hg]; exact Nat.ne_of_gt (blk_lt (g := gb313) (o := .cells #[.int .i64 0, .string (⟨#[]⟩ : ByteArray), .slice none 0 0] 65 (0, 0)) (kb_ BK313.out)) : gb316 ≠ gb313)); replace BK313 := Aside0.mk (blk_below (g := gb313) (o := .cells #[.int .i64 0, .string (⟨#[]⟩ : ByteArray), .slice none 0 0] 65 (0, 0)) (kb_ BK313.out) hb); have NB314_316 := nl_ BK314 hg; have NB316_314 := ng_ BK314 hg; replace BK314 := bK_ BK314 hb; clear hb hg; have hnb47 := NB316_313.out; have hnc47 := NB313_316.out; have hnb48 := NB316_314.out; have hnc48 := NB314_316.out; obtain ⟨hcz49_0, hcz49_1, hcz49_2, hcz49_3, hcz49_4, hfz49_0, hfz49_1, hfz49_2, hfz49_3, hfz49_4⟩ := cf5_ BK316.out; have hnb50 := NB314_313.out; have hnc50 := NB313_314.out; obtain ⟨hcz51_0, hcz51_1, hcz51_2, hfz51_0, hfz51_1, hfz51_2⟩ := cf3_ BK314.out))
    have n0_ : Aside0 (Kd.R k89 89 (((((w46.setCell ⟨gb316, 0, none⟩ (.int .i64 ((rd_T43 l0 x14_1).f0))).setCell ⟨gb316, 1, none⟩ (.int .i64 ((rd_T43 l0 x14_1).f1))).setCell ⟨gb316, 2, none⟩ (.int .i64 ((rd_T43 l0 x14_1).f2))).setCell ⟨gb316, 3, none⟩ (.int .i64 ((rd_T43 l0 x14_1).f3))).setCell ⟨gb316, 4, none⟩ (.slice A315_4 ((rd_T43 l0 x14_1).f4).length c315_4)) w.heap.size (fun _ => True) u315002 x315002_1) := ⟨Kd.R_mono (rF_ (Kd.R_types HO_315002.out BK316.out (by decide))) (fun _ hk => trivial)⟩
    have n1_ : Aside0 ((((((w46.setCell ⟨gb316, 0, none⟩ (.int .i64 ((rd_T43 l0 x14_1).f0))).setCell ⟨gb316, 1, none⟩ (.int .i64 ((rd_T43 l0 x14_1).f1))).setCell ⟨gb316, 2, none⟩ (.int .i64 ((rd_T43 l0 x14_1).f2))).setCell ⟨gb316, 3, none⟩ (.int .i64 ((rd_T43 l0 x14_1).f3))).setCell ⟨gb316, 4, none⟩ (.slice A315_4 ((rd_T43 l0 x14_1).f4).length c315_4)).heap[gb313]? = some (.cells #[.int .i64 0, .string (⟨#[]⟩ : ByteArray), .slice none 0 0] 65 (0, 0))) := ⟨uf_ BK313 NB313_316.out⟩
    have n2_ : Aside0 ((((((w46.setCell ⟨gb316, 0, none⟩ (.int .i64 ((rd_T43 l0 x14_1).f0))).setCell ⟨gb316, 1, none⟩ (.int .i64 ((rd_T43 l0 x14_1).f1))).setCell ⟨gb316, 2, none⟩ (.int .i64 ((rd_T43 l0 x14_1).f2))).setCell ⟨gb316, 3, none⟩ (.int .i64 ((rd_T43 l0 x14_1).f3))).setCell ⟨gb316, 4, none⟩ (.slice A315_4 ((rd_T43 l0 x14_1).f4).length c315_4)).heap[gb314]? = some (.cells #[.int .i64 x315000_1, .string x315001_1, u315002] 65 (0, 0))) := ⟨uf_ BK314 NB314_316.out⟩
    have n3_ : Aside0 ((((((w46.setCell ⟨gb316, 0, none⟩ (.int .i64 ((rd_T43 l0 x14_1).f0))).setCell ⟨gb316, 1, none⟩ (.int .i64 ((rd_T43 l0 x14_1).f1))).setCell ⟨gb316, 2, none⟩ (.int .i64 ((rd_T43 l0 x14_1).f2))).setCell ⟨gb316, 3, none⟩ (.int .i64 ((rd_T43 l0 x14_1).f3))).setCell ⟨gb316, 4, none⟩ (.slice A315_4 ((rd_T43 l0 x14_1).f4).length c315_4)).heap[gb316]? = some (.cells #[.int .i64 ((rd_T43 l0 x14_1).f0), .int .i64 ((rd_T43 l0 x14_1).f1), .int .i64 ((rd_T43 l0 x14_1).f2), .int .i64 ((rd_T43 l0 x14_1).f3), .slice A315_4 ((rd_T43 l0 x14_1).f4).length c315_4] 43 (0, 0))) := ⟨up_ BK316⟩
    have n4_ : Aside0 (Below w.heap.size w (((((w46.setCell ⟨gb316, 0, none⟩ (.int .i64 ((rd_T43 l0 x14_1).f0))).setCell ⟨gb316, 1, none⟩ (.int .i64 ((rd_T43 l0 x14_1).f1))).setCell ⟨gb316, 2, none⟩ (.int .i64 ((rd_T43 l0 x14_1).f2))).setCell ⟨gb316, 3, none⟩ (.int .i64 ((rd_T43 l0 x14_1).f3))).setCell ⟨gb316, 4, none⟩ (.slice A315_4 ((rd_T43 l0 x14_1).f4).length c315_4))) := ⟨hs3_ GE313.out GE314.out GE316.out⟩
    (try clear HO_315002)
    (try clear BK313)
    (try clear BK314)
    (try clear BK316)
    (try clear HB)
    generalize (((((w46.setCell ⟨gb316, 0, none⟩ (.int .i64 ((rd_T43 l0 x14_1).f0))).setCell ⟨gb316, 1, none⟩ (.int .i64 ((rd_T43 l0 x14_1).f1))).setCell ⟨gb316, 2, none⟩ (.int .i64 ((rd_T43 l0 x14_1).f2))).setCell ⟨gb316, 3, none⟩ (.int .i64 ((rd_T43 l0 x14_1).f3))).setCell ⟨gb316, 4, none⟩ (.slice A315_4 ((rd_T43 l0 x14_1).f4).length c315_4)) = w52 at n0_ n1_ n2_ n3_ n4_ ⊢
    have HO_315002 := n0_
    have BK313 := n1_
    have BK314 := n2_
    have BK316 := n3_
    have HB := n4_
    clear n0_ n1_ n2_ n3_ n4_
    replace HO_315002 := qR_ HO_315002
    replace BK313 := qK_ BK313
    replace BK314 := qK_ BK314
    replace BK316 := qK_ BK316
    replace HB := qH_ HB
    refine start_ (n := 7) (S := fun w' => w'.cell? ⟨gb314, 0, none⟩ = some (.int .i64 x315000_1) ∧ w'.cell? ⟨gb314, 1, none⟩ = some (.string x315001_1) ∧ w'.cell? ⟨gb314, 2, none⟩ = some (u315002) ∧ w'.cell? ⟨gb316, 0, none⟩ = some (.int .i64 ((rd_T43 l0 x14_1).f0)) ∧ w'.cell? ⟨gb316, 1, none⟩ = some (.int .i64 ((rd_T43 l0 x14_1).f1)) ∧ w'.cell? ⟨gb316, 2, none⟩ = some (.int .i64 ((rd_T43 l0 x14_1).f2)) ∧ w'.cell? ⟨gb316, 3, none⟩ = some (.int .i64 ((rd_T43 l0 x14_1).f3)) ∧ w'.cell? ⟨gb316, 4, none⟩ = some (.slice A315_4 ((rd_T43 l0 x14_1).f4).length c315_4)) (ds := [6]) #[false, false, false, false, false, false, false] (by kernel_rfl) rfl rfl ⟨bt_ BK314 0, bt_ BK314 1, bt_ BK314 2, bt_ BK316 0, bt_ BK316 1, bt_ BK316 2, bt_ BK316 3, bt_ BK316 4⟩ (fun hHeld => ?_)
    generalize w52.drew = w53 at HO_315002 BK313 BK314 BK316 HB hHeld ⊢
    refine pure_ (i := 0) (N := some 45) (v := ?_) (a' := ?_) #[true, false, false, false, false, false, false] rfl rfl (by kernel_rfl) (fun _ _ _ h => h) (Or.inl ⟨by rfl, ?_⟩) ?_ ?_
    rotate_left
    ·intro w'
     go_simp
     with_reducible rfl
    rotate_left
    ·simp only [Act.put, List.setIfInBounds_toArray, List.set_cons_zero, List.set_cons_succ, i64_w, i32_w]
     rfl
    refine take_ (i := 1) (N := some 46) (v := ?_) (a' := ?_) #[true, true, false, false, false, false, false] rfl rfl (by kernel_rfl) (fun _ _ _ h => h) (Or.inl ⟨by rfl, ?_⟩) hHeld ?_ ?_
    rotate_left
    ·rintro w' ⟨s0, s1, s2, s3, s4, s5, s6, s7⟩
     go_simp
     with_reducible rfl
    rotate_left
    ·simp only [Act.put, List.setIfInBounds_toArray, List.set_cons_zero, List.set_cons_succ, i64_w, i32_w]
     rfl
    refine take_ (i := 2) (N := some 47) (v := ?_) (a' := ?_) #[true, true, true, false, false, false, false] rfl rfl (by kernel_rfl) (fun _ _ _ h => h) (Or.inl ⟨by rfl, ?_⟩) hHeld ?_ ?_
    rotate_left
    ·rintro w' ⟨s0, s1, s2, s3, s4, s5, s6, s7⟩
     go_simp
     with_reducible rfl
    rotate_left
    ·simp only [Act.put, List.setIfInBounds_toArray, List.set_cons_zero, List.set_cons_succ, i64_w, i32_w]
     rfl
    refine one_ (i := 3) (N := some 48) #[true, true, true, true, false, false, false] rfl rfl (by kernel_rfl) (by decide) (fun K hK => ?_)
    refine gs_ Try.func84 #[.agg #[.int .i64 ((rd_T43 l0 x14_1).f0), .int .i64 ((rd_T43 l0 x14_1).f1), .int .i64 ((rd_T43 l0 x14_1).f2), .int .i64 ((rd_T43 l0 x14_1).f3), .slice A315_4 ((rd_T43 l0 x14_1).f4).length c315_4]] rfl ma_ ?_
    with_reducible refine (impl_batchBytes.calls k1 ((rd_T43 l0 x14_1).f0) ((rd_T43 l0 x14_1).f1) ((rd_T43 l0 x14_1).f2) ((rd_T43 l0 x14_1).f3) _ _ ((rd_T43 l0 x14_1).f4) t325 _ ?side1 ?side2 A44.out).mono ?_
    (case side1 => exact cs_ ((Kd.C_below HR315_4.out HB.out)))
    (case side2 => exact HC315_4.out)
    rintro e w54 ⟨rfl, hb⟩
    refine ⟨_, rfl, ?_⟩
    replace HO_315002 := rB_ HO_315002 hb
    replace BK313 := Aside0.mk (blk_below (g := gb313) (o := .cells #[.int .i64 0, .string (⟨#[]⟩ : ByteArray), .slice none 0 0] 65 (0, 0)) (kb_ BK313.out) hb)
    replace BK314 := bK_ BK314 hb
    replace BK316 := bK_ BK316 hb
    replace HB := nc3_ GE313 GE314 GE316 hb
    (try clear hb)
    (try clear hb2)
    (try clear hk)
    (try clear hi)
    refine hK.out _ _ ⟨bt_ BK314 0, bt_ BK314 1, bt_ BK314 2, bt_ BK316 0, bt_ BK316 1, bt_ BK316 2, bt_ BK316 3, bt_ BK316 4⟩ (fun hHeld => ?_)
    clear hK K
    refine no_ ?_
    refine pure_ (i := 4) (N := some 49) (v := ?_) (a' := ?_) #[true, true, true, true, true, false, false] rfl rfl (by kernel_rfl) (fun _ _ _ h => h) (Or.inl ⟨by rfl, ?_⟩) ?_ ?_
    rotate_left
    ·intro w'
     go_simp
     with_reducible rfl
    rotate_left
    ·simp only [Act.put, List.setIfInBounds_toArray, List.set_cons_zero, List.set_cons_succ, i64_w, i32_w]
     rfl
    refine pure_ (i := 5) (N := some 50) (v := ?_) (a' := ?_) #[true, true, true, true, true, true, false] rfl rfl (by kernel_rfl) (fun _ _ _ h => h) (Or.inl ⟨by rfl, ?_⟩) ?_ ?_
    rotate_left
    ·intro w'
     go_simp
     with_reducible rfl
    rotate_left
    ·simp only [Act.put, List.setIfInBounds_toArray, List.set_cons_zero, List.set_cons_succ, i64_w, i32_w]
     rfl
    refine last_ (i := 6) (N := none) #[true, true, true, true, true, true, true] rfl rfl (by kernel_rfl) (by decide) (fun K hK => ?_)
    have hs55 : w54.cell? ⟨gb314, 1, none⟩ = some (.string x315001_1) := bt_ BK314 1
    have hfs55 := blk_frozen BK314.out 1
    have hns55_0 := NB313_314.out
    have hns55_2 := NB316_314.out
    have hms55_0 := NB314_313.out
    have hms55_2 := NB314_316.out
    refine skip_ (w1 := ?_) (by rfl) rfl ?_ ?_
    rotate_left
    ·go_simp
     rfl
    refine hK.out _ _ ?_
    clear hK K
    refine done_ (by kernel_rfl) ?_
    try go_wp2
    go_roundg k1
    case measure => have := HK1.out; omega
    case rel => exact ⟨(x6_1), (wrap64 (x14_1 + 1)), (x315000_1), (x315001_1 ++ t325), (x315002_1), (u315002), sr_, sr_, H', ⟨by have := HK1.out; omega⟩, ⟨rF_ (Kd.R_mono (Kd.R_far (p := ⟨gb314, 1, none⟩) (Kd.R_types HO_315002.out BK314.out (by decide)) (fun _ hk => hk.2) (.string (x315001_1 ++ t325))) (fun _ hk => trivial))⟩, ⟨uf_ BK313 NB313_314.out⟩, ⟨up_ BK314⟩, ⟨hs3_ GE313.out GE314.out GE316.out⟩⟩
   have c27b0 := dge_ c27
   clear c27
   replace H := ifs_ H
   obtain ⟨c28, H⟩ := H
   have LMc28 := Aside0.mk c28
   clear c28
   obtain ⟨y321, hy321⟩ : ∃ y_ : List (S89), y_ = (x315002_1 ++ [(⟨(rd_T43 l0 x14_1).f0, (x315001_1.size : Int)⟩ : S89)]) := ⟨_, rfl⟩
   replace H : ((impl_batchBytes.f k1 ((rd_T43 l0 x14_1).f0) ((rd_T43 l0 x14_1).f1) ((rd_T43 l0 x14_1).f2) ((rd_T43 l0 x14_1).f3) ((rd_T43 l0 x14_1).f4)).bind fun t324 => (if x315001_1.size + t324.size ≤ 9223372036854775807 then (impl_segmentOf.l0 k1 (x315001_1.size : Int) l0 (l0.length : Int) (wrap64 (x14_1 + 1)) x315000_1 (x315001_1 ++ t324) y321) else (none))) = some (r1, r2, r3) := by first | (rw [hy321]; with_reducible exact H) | (have H2_ := (Option.bind_some _ _).symm.trans H; rw [hy321]; with_reducible exact H2_) | (have H2_ := (Option.bind_some _ _).symm.trans H; with_reducible exact H2_) | with_reducible exact H | (rw [hy321]; exact H) | exact H
   have Ny321 := Aside0.mk hy321
   clear hy321
   replace H := bnd_ H
   obtain ⟨t324, A29, H⟩ := H
   replace H := ifs_ H
   obtain ⟨c30, H⟩ := H
   have c30b0 := eq_true c30
   have c30b1 := decide_eq_true c30
   try have c30b2 : (9223372036854775807 < x315001_1.size + t324.size) = False := eq_false (Nat.not_lt.2 c30)
   try have c30w := cw_ c30
   (try rw [c30w] at c7b0)
   (try rw [c30w] at c8b0)
   (try rw [c30w] at c9b0)
   (try rw [c30w] at c10b0)
   (try rw [c30w] at c13b0)
   (try rw [c30w] at c27b0)
   have H' := Aside0.mk H
   clear H
   have p315 : 0 ≤ (x14_1 : Int) := oa_
   have q315 : x14_1 < (l0.length : Int) := oa_
   obtain ⟨ad315, A315_4, c315_4, e315, hx315_0, hx315_1, hx315_2, hx315_3, hx315_4, hl315_4, hi315_4⟩ := at_T43 HR0.out x14_1 p315 q315
   cases e315
   replace hx315_0 := pc_ HB.out hx315_0
   replace hx315_1 := pc_ HB.out hx315_1
   replace hx315_2 := pc_ HB.out hx315_2
   replace hx315_3 := pc_ HB.out hx315_3
   replace hx315_4 := pc_ HB.out hx315_4
   have HR315_4 := Aside0.mk hi315_4
   have HC315_4 := Aside0.mk hl315_4
   clear hi315_4 hl315_4
   replace p315 := eq_true p315
   replace q315 := eq_true q315
   try go_wp2_with (first | ((with_reducible refine gate_dst (N := 8) rfl ?_); refine bq_ (N := 8) #[.int .i64 0, .int .i64 0, .int .i64 0, .int .i64 0, .slice none 0 0] 43 ?_; intro gb316 hg w31 BK316 hb; replace HO_315002 := rB_ HO_315002 hb; have GE316 := ge2_ hg GE313 GE314; replace HB := nc2_ GE313 GE314 hb; have NB313_316 := Aside0.mk ((by rw [hg]; exact Nat.ne_of_lt (blk_lt (g := gb313) (o := .cells #[.int .i64 0, .string (⟨#[]⟩ : ByteArray), .slice none 0 0] 65 (0, 0)) (kb_ BK313.out)) : gb313 ≠ gb316)); have NB316_313 := Aside0.mk ((by rw [hg]; exact Nat.ne_of_gt (blk_lt (g := gb313) (o := .cells #[.int .i64 0, .string (⟨#[]⟩ : ByteArray), .slice none 0 0] 65 (0, 0)) (kb_ BK313.out)) : gb316 ≠ gb313)); replace BK313 := Aside0.mk (blk_below (g := gb313) (o := .cells #[.int .i64 0, .string (⟨#[]⟩ : ByteArray), .slice none 0 0] 65 (0, 0)) (kb_ BK313.out) hb); have NB314_316 := nl_ BK314 hg; have NB316_314 := ng_ BK314 hg; replace BK314 := bK_ BK314 hb; clear hb hg; have hnb32 := NB316_313.out; have hnc32 := NB313_316.out; have hnb33 := NB316_314.out; have hnc33 := NB314_316.out; obtain ⟨hcz34_0, hcz34_1, hcz34_2, hcz34_3, hcz34_4, hfz34_0, hfz34_1, hfz34_2, hfz34_3, hfz34_4⟩ := cf5_ BK316.out; have hnb35 := NB314_313.out; have hnc35 := NB313_314.out; obtain ⟨hcz36_0, hcz36_1, hcz36_2, hfz36_0, hfz36_1, hfz36_2⟩ := cf3_ BK314.out) | ((with_reducible refine gate_builtin (b := .append) (xs := #[.tmp 36, .tmp 41]) rfl ?_); at_builtin; refine Kd.R_append k89 (w0 := w) w.heap.size rfl (.tmp 36) (.tmp 41) 63 89 (.agg #[(.int .i64 0), (.int .i64 0)]) 16 rfl Try.underlying63 info89 rfl (by decide) (by omega) u315002 x315002_1 (⟨(rd_T43 l0 x14_1).f0, (x315001_1.size : Int)⟩ : S89) [.int .i64 ((rd_T43 l0 x14_1).f0), .int .i64 (x315001_1.size : Int)] (fun _ => True) (fun _ => False) rfl (by first | (go_simp; done) | (go_simp; rfl)) ?aP (fun _ hk => hk.elim) ?aF ?aO ?aB ?aS ?aL ?_; (case aP => exact k89_mkM _ _ _ (⟨(rd_T43 l0 x14_1).f0, (x315001_1.size : Int)⟩ : S89)); (case aB => exact (hs3_ GE313.out GE314.out GE316.out)); (case aF => exact (fun _ _ => trivial)); (case aO => exact (Kd.R_mono (rF_ (Kd.R_types HO_315002.out BK316.out (by decide))) (fun _ hk => trivial))); (case aS => exact (below_size (hs3_ GE313.out GE314.out GE316.out))); (case aL => have := LMc28.out; omega); intro v322 w37 ho hb hg hat; rw [← Ny321.out] at ho; replace BK313 := Aside0.mk (blk_grown (g := gb313) (o := .cells #[.int .i64 0, .string (⟨#[]⟩ : ByteArray), .slice none 0 0] 65 (0, 0)) (uf_ BK313 NB313_316.out) hg (Kd.R_ne HO_315002.out BK313.out (by decide))); replace BK314 := Aside0.mk (blk_grown (g := gb314) (o := .cells #[.int .i64 x315000_1, .string x315001_1, u315002] 65 (0, 0)) (uf_ BK314 NB314_316.out) hg (Kd.R_ne HO_315002.out BK314.out (by decide))); replace BK316 := Aside0.mk (blk_grown (g := gb316) (o := .cells #[.int .i64 ((rd_T43 l0 x14_1).f0), .int .i64 ((rd_T43 l0 x14_1).f1), .int .i64 ((rd_T43 l0 x14_1).f2), .int .i64 ((rd_T43 l0 x14_1).f3), .slice A315_4 ((rd_T43 l0 x14_1).f4).length c315_4] 43 (0, 0)) (up_ BK316) hg (Kd.R_ne HO_315002.out BK316.out (by decide))); replace HB := Aside0.mk (hb); have HO323 := Aside0.mk (ho); clear HO_315002; clear ho hb hg hat; obtain ⟨Ao38, co38, eo38⟩ := Kd.R_slice HO323.out; subst eo38; obtain ⟨hcz39_0, hcz39_1, hcz39_2, hfz39_0, hfz39_1, hfz39_2⟩ := cf3_ BK314.out))
   have n0_ : Aside0 (Kd.R k89 89 (w37.setCell ⟨gb314, 2, none⟩ (.slice Ao38 y321.length co38)) w.heap.size (fun _ => True) (.slice Ao38 y321.length co38) y321) := ⟨rF_ (Kd.R_mono (Kd.R_far (p := ⟨gb314, 2, none⟩) (Kd.R_types HO323.out BK314.out (by decide)) (fun _ hk => hk.2) (.slice Ao38 y321.length co38)) (fun _ hk => trivial))⟩
   have n1_ : Aside0 ((w37.setCell ⟨gb314, 2, none⟩ (.slice Ao38 y321.length co38)).heap[gb313]? = some (.cells #[.int .i64 0, .string (⟨#[]⟩ : ByteArray), .slice none 0 0] 65 (0, 0))) := ⟨uf_ BK313 NB313_314.out⟩
   have n2_ : Aside0 ((w37.setCell ⟨gb314, 2, none⟩ (.slice Ao38 y321.length co38)).heap[gb314]? = some (.cells #[.int .i64 x315000_1, .string x315001_1, .slice Ao38 y321.length co38] 65 (0, 0))) := ⟨up_ BK314⟩
   have n3_ : Aside0 ((w37.setCell ⟨gb314, 2, none⟩ (.slice Ao38 y321.length co38)).heap[gb316]? = some (.cells #[.int .i64 ((rd_T43 l0 x14_1).f0), .int .i64 ((rd_T43 l0 x14_1).f1), .int .i64 ((rd_T43 l0 x14_1).f2), .int .i64 ((rd_T43 l0 x14_1).f3), .slice A315_4 ((rd_T43 l0 x14_1).f4).length c315_4] 43 (0, 0))) := ⟨uf_ BK316 NB316_314.out⟩
   have n4_ : Aside0 (Below w.heap.size w (w37.setCell ⟨gb314, 2, none⟩ (.slice Ao38 y321.length co38))) := ⟨hs3_ GE313.out GE314.out GE316.out⟩
   (try clear HO323)
   (try clear BK313)
   (try clear BK314)
   (try clear BK316)
   (try clear HB)
   generalize (w37.setCell ⟨gb314, 2, none⟩ (.slice Ao38 y321.length co38)) = w40 at n0_ n1_ n2_ n3_ n4_ ⊢
   have HO323 := n0_
   have BK313 := n1_
   have BK314 := n2_
   have BK316 := n3_
   have HB := n4_
   clear n0_ n1_ n2_ n3_ n4_
   replace HO323 := qR_ HO323
   replace BK313 := qK_ BK313
   replace BK314 := qK_ BK314
   replace BK316 := qK_ BK316
   replace HB := qH_ HB
   refine start_ (n := 7) (S := fun w' => w'.cell? ⟨gb314, 0, none⟩ = some (.int .i64 x315000_1) ∧ w'.cell? ⟨gb314, 1, none⟩ = some (.string x315001_1) ∧ w'.cell? ⟨gb314, 2, none⟩ = some (.slice Ao38 y321.length co38) ∧ w'.cell? ⟨gb316, 0, none⟩ = some (.int .i64 ((rd_T43 l0 x14_1).f0)) ∧ w'.cell? ⟨gb316, 1, none⟩ = some (.int .i64 ((rd_T43 l0 x14_1).f1)) ∧ w'.cell? ⟨gb316, 2, none⟩ = some (.int .i64 ((rd_T43 l0 x14_1).f2)) ∧ w'.cell? ⟨gb316, 3, none⟩ = some (.int .i64 ((rd_T43 l0 x14_1).f3)) ∧ w'.cell? ⟨gb316, 4, none⟩ = some (.slice A315_4 ((rd_T43 l0 x14_1).f4).length c315_4)) (ds := [6]) #[false, false, false, false, false, false, false] (by kernel_rfl) rfl rfl ⟨bt_ BK314 0, bt_ BK314 1, bt_ BK314 2, bt_ BK316 0, bt_ BK316 1, bt_ BK316 2, bt_ BK316 3, bt_ BK316 4⟩ (fun hHeld => ?_)
   generalize w40.drew = w41 at HO323 BK313 BK314 BK316 HB hHeld ⊢
   refine pure_ (i := 0) (N := some 45) (v := ?_) (a' := ?_) #[true, false, false, false, false, false, false] rfl rfl (by kernel_rfl) (fun _ _ _ h => h) (Or.inl ⟨by rfl, ?_⟩) ?_ ?_
   rotate_left
   ·intro w'
    go_simp
    with_reducible rfl
   rotate_left
   ·simp only [Act.put, List.setIfInBounds_toArray, List.set_cons_zero, List.set_cons_succ, i64_w, i32_w]
    rfl
   refine take_ (i := 1) (N := some 46) (v := ?_) (a' := ?_) #[true, true, false, false, false, false, false] rfl rfl (by kernel_rfl) (fun _ _ _ h => h) (Or.inl ⟨by rfl, ?_⟩) hHeld ?_ ?_
   rotate_left
   ·rintro w' ⟨s0, s1, s2, s3, s4, s5, s6, s7⟩
    go_simp
    with_reducible rfl
   rotate_left
   ·simp only [Act.put, List.setIfInBounds_toArray, List.set_cons_zero, List.set_cons_succ, i64_w, i32_w]
    rfl
   refine take_ (i := 2) (N := some 47) (v := ?_) (a' := ?_) #[true, true, true, false, false, false, false] rfl rfl (by kernel_rfl) (fun _ _ _ h => h) (Or.inl ⟨by rfl, ?_⟩) hHeld ?_ ?_
   rotate_left
   ·rintro w' ⟨s0, s1, s2, s3, s4, s5, s6, s7⟩
    go_simp
    with_reducible rfl
   rotate_left
   ·simp only [Act.put, List.setIfInBounds_toArray, List.set_cons_zero, List.set_cons_succ, i64_w, i32_w]
    rfl
   refine one_ (i := 3) (N := some 48) #[true, true, true, true, false, false, false] rfl rfl (by kernel_rfl) (by decide) (fun K hK => ?_)
   refine gs_ Try.func84 #[.agg #[.int .i64 ((rd_T43 l0 x14_1).f0), .int .i64 ((rd_T43 l0 x14_1).f1), .int .i64 ((rd_T43 l0 x14_1).f2), .int .i64 ((rd_T43 l0 x14_1).f3), .slice A315_4 ((rd_T43 l0 x14_1).f4).length c315_4]] rfl ma_ ?_
   with_reducible refine (impl_batchBytes.calls k1 ((rd_T43 l0 x14_1).f0) ((rd_T43 l0 x14_1).f1) ((rd_T43 l0 x14_1).f2) ((rd_T43 l0 x14_1).f3) _ _ ((rd_T43 l0 x14_1).f4) t324 _ ?side1 ?side2 A29.out).mono ?_
   (case side1 => exact cs_ ((Kd.C_below HR315_4.out HB.out)))
   (case side2 => exact HC315_4.out)
   rintro e w42 ⟨rfl, hb⟩
   refine ⟨_, rfl, ?_⟩
   replace HO323 := rB_ HO323 hb
   replace BK313 := Aside0.mk (blk_below (g := gb313) (o := .cells #[.int .i64 0, .string (⟨#[]⟩ : ByteArray), .slice none 0 0] 65 (0, 0)) (kb_ BK313.out) hb)
   replace BK314 := bK_ BK314 hb
   replace BK316 := bK_ BK316 hb
   replace HB := nc3_ GE313 GE314 GE316 hb
   (try clear hb)
   (try clear hb2)
   (try clear hk)
   (try clear hi)
   refine hK.out _ _ ⟨bt_ BK314 0, bt_ BK314 1, bt_ BK314 2, bt_ BK316 0, bt_ BK316 1, bt_ BK316 2, bt_ BK316 3, bt_ BK316 4⟩ (fun hHeld => ?_)
   clear hK K
   refine no_ ?_
   refine pure_ (i := 4) (N := some 49) (v := ?_) (a' := ?_) #[true, true, true, true, true, false, false] rfl rfl (by kernel_rfl) (fun _ _ _ h => h) (Or.inl ⟨by rfl, ?_⟩) ?_ ?_
   rotate_left
   ·intro w'
    go_simp
    with_reducible rfl
   rotate_left
   ·simp only [Act.put, List.setIfInBounds_toArray, List.set_cons_zero, List.set_cons_succ, i64_w, i32_w]
    rfl
   refine pure_ (i := 5) (N := some 50) (v := ?_) (a' := ?_) #[true, true, true, true, true, true, false] rfl rfl (by kernel_rfl) (fun _ _ _ h => h) (Or.inl ⟨by rfl, ?_⟩) ?_ ?_
   rotate_left
   ·intro w'
    go_simp
    with_reducible rfl
   rotate_left
   ·simp only [Act.put, List.setIfInBounds_toArray, List.set_cons_zero, List.set_cons_succ, i64_w, i32_w]
    rfl
   refine last_ (i := 6) (N := none) #[true, true, true, true, true, true, true] rfl rfl (by kernel_rfl) (by decide) (fun K hK => ?_)
   have hs43 : w42.cell? ⟨gb314, 1, none⟩ = some (.string x315001_1) := bt_ BK314 1
   have hfs43 := blk_frozen BK314.out 1
   have hns43_0 := NB313_314.out
   have hns43_2 := NB316_314.out
   have hms43_0 := NB314_313.out
   have hms43_2 := NB314_316.out
   refine skip_ (w1 := ?_) (by rfl) rfl ?_ ?_
   rotate_left
   ·go_simp
    rfl
   refine hK.out _ _ ?_
   clear hK K
   refine done_ (by kernel_rfl) ?_
   try go_wp2
   go_roundg k1
   case measure => have := HK1.out; omega
   case rel => exact ⟨((x315001_1.size : Int)), (wrap64 (x14_1 + 1)), (x315000_1), (x315001_1 ++ t324), (y321), (.slice Ao38 y321.length co38), sr_, sr_, H', ⟨by have := HK1.out; omega⟩, ⟨rF_ (Kd.R_mono (Kd.R_far (p := ⟨gb314, 1, none⟩) (Kd.R_types HO323.out BK314.out (by decide)) (fun _ hk => hk.2) (.string (x315001_1 ++ t324))) (fun _ hk => trivial))⟩, ⟨uf_ BK313 NB313_314.out⟩, ⟨up_ BK314⟩, ⟨hs3_ GE313.out GE314.out GE316.out⟩⟩
end Go.Proofs.Ytffpeklekkpbjaa.QFnExactReadFrom
