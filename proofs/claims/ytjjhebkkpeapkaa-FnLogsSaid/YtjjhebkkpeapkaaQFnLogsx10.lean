/- For each Go function that one statement reaches: a plain function with the same answers, and the proof that the call comes to them. Conditions: those that each contract names. Written by a program of this repository. -/
import Derived.Test.YtjjhebkkpeapkaaVFnLogsa
import Derived.Test.YtjjhebkkpeapkaaQFnLogsx0
import Derived.Test.YtjjhebkkpeapkaaQFnLogsx9
namespace Go.Proofs.Ytjjhebkkpeapkaa.QFnLogs
open Go.RowKit Go.Proofs.YtjjhebkkpeapkaaW.PrintWords Go.Proofs.YtjjhebkkpeapkaaW.PrintLast Go.Proofs.YtjjhebkkpeapkaaW.PrintMore
attribute [local go_sem] max2_int min2_int max_two min_two max_three min_three max_four min_four Go.Proofs.YtjjhebkkpeapkaaW.PrintMore2.isSome_setCell   -- for this text's walks alone
set_option linter.unusedVariables false
set_option linter.unusedSimpArgs false

/-! ### spec_l1Batch: function 32 -/
def spec_l1Batch.l0 : Nat → ByteArray → List ByteArray → Int → Int → Option (ByteArray)
 | 0, _, _, _, _ => none
 | k + 1, x3, x27, x28, x29 => if x29 < x28 then (if 0 ≤ x29 then (if x29 < (x27.length : Int) then ((spec_l1Bytes.f k ((rdOf ByteArray.empty x27 x29).size : Int) 1).bind fun t268 => (if t268.size + (rdOf ByteArray.empty x27 x29).size ≤ 9223372036854775807 then (if x3.size + (t268 ++ (rdOf ByteArray.empty x27 x29)).size ≤ 9223372036854775807 then (spec_l1Batch.l0 k (x3 ++ (t268 ++ (rdOf ByteArray.empty x27 x29))) x27 x28 (wrap64 (x29 + 1))) else (none)) else (none))) else (none)) else (none)) else ((spec_l1Bytes.f k (wrap64 ((x3.size : Int) + 2)) 2).bind fun t269 => (if t269.size + x3.size ≤ 9223372036854775807 then ((spec_l1Sum.f k (t269 ++ x3)).bind fun t270 => ((spec_l1Bytes.f k t270 2).bind fun t271 => (if (t269 ++ x3).size + t271.size ≤ 9223372036854775807 then (some ((t269 ++ x3) ++ t271)) else (none)))) else (none)))
def spec_l1Batch.f (k : Nat) (a0_0 : Int) (a0_1 : Int) (a0_2 : Int) (a0_3 : Int) (l0_4 : List ByteArray) : Option (ByteArray) := (spec_l1Bytes.f k a0_0 3).bind fun t262 => ((spec_l1Bytes.f k a0_1 2).bind fun t263 => (if t262.size + t263.size ≤ 9223372036854775807 then ((spec_l1Bytes.f k a0_2 2).bind fun t264 => (if (t262 ++ t263).size + t264.size ≤ 9223372036854775807 then ((spec_l1Bytes.f k a0_3 2).bind fun t265 => (if ((t262 ++ t263) ++ t264).size + t265.size ≤ 9223372036854775807 then ((spec_l1Bytes.f k (l0_4.length : Int) 1).bind fun t266 => (if (((t262 ++ t263) ++ t264) ++ t265).size + t266.size ≤ 9223372036854775807 then (spec_l1Batch.l0 k ((((t262 ++ t263) ++ t264) ++ t265) ++ t266) l0_4 (l0_4.length : Int) 0) else (none))) else (none))) else (none))) else (none)))
theorem spec_l1Batch.mono_l : ∀ k, (∀ y0 y1 y2 y3, LeO (spec_l1Batch.l0 k y0 y1 y2 y3) (spec_l1Batch.l0 (k + 1) y0 y1 y2 y3))
 | 0 => fun _ _ _ _ r h => by simp [spec_l1Batch.l0] at h
 | k + 1 => by
  have ih0 := spec_l1Batch.mono_l k
  ·intro y0 y1 y2 y3
   unfold spec_l1Batch.l0
   repeat' first
   | (with_reducible exact ih0 _ _ _ _)
   | (with_reducible exact spec_l1Bytes.mono _ _ _)
   | (with_reducible exact spec_l1Sum.mono _ _)
   | (with_reducible exact LeO.refl _)
   | (with_reducible exact LeO.none _)
   | (with_reducible refine LeO.ite ?_ ?_)
   | (with_reducible refine LeO.bind ?_ (fun _ => ?_))
   | exact ih0 _ _ _ _
   | exact spec_l1Bytes.mono _ _ _
   | exact spec_l1Sum.mono _ _
   | exact LeO.none _
   | refine LeO.ite ?_ ?_
   | refine LeO.bind ?_ (fun _ => ?_)
theorem spec_l1Batch.mono : ∀ a0 a1 a2 a3 a4 k, LeO (spec_l1Batch.f k a0 a1 a2 a3 a4) (spec_l1Batch.f (k + 1) a0 a1 a2 a3 a4) := by
 intro a0 a1 a2 a3 a4 k
 have ih0 := spec_l1Batch.mono_l k
 unfold spec_l1Batch.f
 repeat' first
   | (with_reducible exact ih0 _ _ _ _)
   | (with_reducible exact spec_l1Bytes.mono _ _ _)
   | (with_reducible exact spec_l1Sum.mono _ _)
   | (with_reducible exact LeO.refl _)
   | (with_reducible exact LeO.none _)
   | (with_reducible refine LeO.ite ?_ ?_)
   | (with_reducible refine LeO.bind ?_ (fun _ => ?_))
   | exact ih0 _ _ _ _
   | exact spec_l1Bytes.mono _ _ _
   | exact spec_l1Sum.mono _ _
   | exact LeO.none _
   | refine LeO.ite ?_ ?_
   | refine LeO.bind ?_ (fun _ => ?_)
def spec_l1Batch.T1 : Bool × List (List Nat × List Nat) := (true, [([], []), ([0], [0]), ([1], [1]), ([], []), ([3], [3]), ([4, 2], [4]), ([2, 5], [2, 5]), ([], []), ([7], [7]), ([8, 5], [8]), ([6, 9], [6, 9]), ([], []), ([11], [11]), ([12, 9], [12]), ([10, 13], [10, 13]), ([], []), ([15], [15]), ([16], [16]), ([17, 13], [17]), ([14, 18], [14, 18]), ([19, 18, 0, 1, 2, 3, 4, 5, 6, 7, 8, 9, 10, 11, 12, 13, 14, 15, 16, 17, 18, 19], [19])])
def spec_l1Batch.B1 : List Nat := [0, 1, 3, 0, 8, 31, 63, 0, 128, 447, 1023, 0, 2048, 7103, 16383, 0, 32768, 98304, 244671, 524287, 1048575]
theorem spec_l1Batch.tab1 : rtab .any (opsOf Try.f32 1) = spec_l1Batch.T1 := by kernel_rfl
theorem spec_l1Batch.bits1 : waitsOk spec_l1Batch.T1.2 spec_l1Batch.B1 = true := by kernel_rfl
set_option maxHeartbeats 8000000 in
set_option maxRecDepth 100000 in
theorem spec_l1Batch.calls (k : Nat) (a0_0 : Int) (a0_1 : Int) (a0_2 : Int) (a0_3 : Int) (A0_4 : Option Addr) (c0_4 : Nat) (l0_4 : List ByteArray) (r : ByteArray) (w : World) (hr0_4 : Kd.C Kd.string w A0_4 l0_4.length l0_4) (hc0_4 : l0_4.length ≤ c0_4) (h : spec_l1Batch.f k a0_0 a0_1 a0_2 a0_3 l0_4 = some r) :
  Calls Try.prog 32 #[.agg #[.int .i64 a0_0, .int .i64 a0_1, .int .i64 a0_2, .int .i64 a0_3, .slice A0_4 l0_4.length c0_4]] w fun e w' => e = .returned (.string r) ∧ Below w.heap.size w w' := by
 have hu25 := Try.underlying25
 have HR0_4 := Aside0.mk hr0_4
 have HC0_4 := Aside0.mk hc0_4
 clear hr0_4 hc0_4
 have HB := Aside0.mk (Below.refl w.heap.size w)
 have H : ((spec_l1Bytes.f k a0_0 3).bind fun t262 => ((spec_l1Bytes.f k a0_1 2).bind fun t263 => (if t262.size + t263.size ≤ 9223372036854775807 then ((spec_l1Bytes.f k a0_2 2).bind fun t264 => (if (t262 ++ t263).size + t264.size ≤ 9223372036854775807 then ((spec_l1Bytes.f k a0_3 2).bind fun t265 => (if ((t262 ++ t263) ++ t264).size + t265.size ≤ 9223372036854775807 then ((spec_l1Bytes.f k (l0_4.length : Int) 1).bind fun t266 => (if (((t262 ++ t263) ++ t264) ++ t265).size + t266.size ≤ 9223372036854775807 then (spec_l1Batch.l0 k ((((t262 ++ t263) ++ t264) ++ t265) ++ t266) l0_4 (l0_4.length : Int) 0) else (none))) else (none))) else (none))) else (none)))) = some r := h
 clear h
 replace H := bnd_ H
 obtain ⟨t262, A2, H⟩ := H
 replace H := bnd_ H
 obtain ⟨t263, A3, H⟩ := H
 replace H := ifs_ H
 obtain ⟨c4, H⟩ := H
 have c4b0 := eq_true c4
 have c4b1 := decide_eq_true c4
 try have c4b2 : (9223372036854775807 < t262.size + t263.size) = False := eq_false (Nat.not_lt.2 c4)
 try have c4w := cw_ c4
 replace H := bnd_ H
 obtain ⟨t264, A5, H⟩ := H
 replace H := ifs_ H
 obtain ⟨c6, H⟩ := H
 have c6b0 := eq_true c6
 have c6b1 := decide_eq_true c6
 try have c6b2 : (9223372036854775807 < (t262 ++ t263).size + t264.size) = False := eq_false (Nat.not_lt.2 c6)
 try have c6b3 : t262.size + t263.size + t264.size ≤ 9223372036854775807 := by (have h_ := c6; simp only [ByteArray.size_append] at h_; exact h_)
 try have c6b4 : (9223372036854775807 < t262.size + t263.size + t264.size) = False := eq_false (Nat.not_lt.2 c6b3)
 try have c6w := cw_ c6
 (try rw [c6w] at c4b0)
 replace H := bnd_ H
 obtain ⟨t265, A7, H⟩ := H
 replace H := ifs_ H
 obtain ⟨c8, H⟩ := H
 have c8b0 := eq_true c8
 have c8b1 := decide_eq_true c8
 try have c8b2 : (9223372036854775807 < ((t262 ++ t263) ++ t264).size + t265.size) = False := eq_false (Nat.not_lt.2 c8)
 try have c8b3 : t262.size + t263.size + t264.size + t265.size ≤ 9223372036854775807 := by (have h_ := c8; simp only [ByteArray.size_append] at h_; exact h_)
 try have c8b4 : (9223372036854775807 < t262.size + t263.size + t264.size + t265.size) = False := eq_false (Nat.not_lt.2 c8b3)
 try have c8w := cw_ c8
 (try rw [c8w] at c4b0)
 (try rw [c8w] at c6b0)
 replace H := bnd_ H
 obtain ⟨t266, A9, H⟩ := H
 replace H := ifs_ H
 obtain ⟨c10, H⟩ := H
 have c10b0 := eq_true c10
 have c10b1 := decide_eq_true c10
 try have c10b2 : (9223372036854775807 < (((t262 ++ t263) ++ t264) ++ t265).size + t266.size) = False := eq_false (Nat.not_lt.2 c10)
 try have c10b3 : t262.size + t263.size + t264.size + t265.size + t266.size ≤ 9223372036854775807 := by (have h_ := c10; simp only [ByteArray.size_append] at h_; exact h_)
 try have c10b4 : (9223372036854775807 < t262.size + t263.size + t264.size + t265.size + t266.size) = False := eq_false (Nat.not_lt.2 c10b3)
 try have c10w := cw_ c10
 (try rw [c10w] at c4b0)
 (try rw [c10w] at c6b0)
 (try rw [c10w] at c8b0)
 have H' := Aside0.mk H
 clear H
 go_enter Try.func32, Try.ntmps32
 try go_wp2_with (first | ((with_reducible refine gate_dst (N := 1) rfl ?_); refine be_ (N := 1) #[.int .i64 a0_0, .int .i64 a0_1, .int .i64 a0_2, .int .i64 a0_3, .slice A0_4 l0_4.length c0_4] 25 ?_; intro gb261 hg w11 hbox hb; have BK261 := Aside0.mk (hbox); have GW261 := ge_ hg; have GE261 := ge_ hg; replace HB := nb_ hb; clear hb hbox hg))
 replace BK261 := qK_ BK261
 replace HB := qH_ HB
 refine start_ (n := 21) (S := fun w' => w'.cell? ⟨gb261, 0, none⟩ = some (.int .i64 a0_0) ∧ w'.cell? ⟨gb261, 1, none⟩ = some (.int .i64 a0_1) ∧ w'.cell? ⟨gb261, 2, none⟩ = some (.int .i64 a0_2) ∧ w'.cell? ⟨gb261, 3, none⟩ = some (.int .i64 a0_3) ∧ w'.cell? ⟨gb261, 4, none⟩ = some (.slice A0_4 l0_4.length c0_4)) (ds := []) #[false, false, false, false, false, false, false, false, false, false, false, false, false, false, false, false, false, false, false, false, false] (by kernel_rfl) rfl rfl ⟨(blk_cell BK261.out 0).trans rfl, (blk_cell BK261.out 1).trans rfl, (blk_cell BK261.out 2).trans rfl, (blk_cell BK261.out 3).trans rfl, (blk_cell BK261.out 4).trans rfl⟩ (fun hHeld => ?_); refine with_tabW spec_l1Batch.tab1 spec_l1Batch.bits1 (fun HT_ HW_ => ?_)
 generalize w11.drew = w12 at BK261 HB hHeld ⊢
 refine pv_ 0 6 ?_
 refine pv_ 3 9 ?_
 refine pv_ 7 13 ?_
 refine pv_ 11 17 ?_
 refine pv_ 15 21 ?_
 refine take_ (i := 1) (N := some 7) (v := ?_) (a' := ?_) #[true, true, false, true, false, false, false, true, false, false, false, true, false, false, false, true, false, false, false, false, false] rfl rfl (take_ofW HT_.out HW_.out (by kernel_rfl)) (fun _ _ _ h => h) (Or.inl ⟨by rfl, ?_⟩) hHeld ?_ ?_
 rotate_left
 ·rintro w' ⟨s0, s1, s2, s3, s4⟩
  go_simp
  with_reducible rfl
 rotate_left
 ·simp only [Act.put, List.setIfInBounds_toArray, List.set_cons_zero, List.set_cons_succ, i64_w, i32_w]
  rfl
 refine take_ (i := 4) (N := some 10) (v := ?_) (a' := ?_) #[true, true, false, true, true, false, false, true, false, false, false, true, false, false, false, true, false, false, false, false, false] rfl rfl (take_ofW HT_.out HW_.out (by kernel_rfl)) (fun _ _ _ h => h) (Or.inl ⟨by rfl, ?_⟩) hHeld ?_ ?_
 rotate_left
 ·rintro w' ⟨s0, s1, s2, s3, s4⟩
  go_simp
  with_reducible rfl
 rotate_left
 ·simp only [Act.put, List.setIfInBounds_toArray, List.set_cons_zero, List.set_cons_succ, i64_w, i32_w]
  rfl
 refine take_ (i := 8) (N := some 14) (v := ?_) (a' := ?_) #[true, true, false, true, true, false, false, true, true, false, false, true, false, false, false, true, false, false, false, false, false] rfl rfl (take_ofW HT_.out HW_.out (by kernel_rfl)) (fun _ _ _ h => h) (Or.inl ⟨by rfl, ?_⟩) hHeld ?_ ?_
 rotate_left
 ·rintro w' ⟨s0, s1, s2, s3, s4⟩
  go_simp
  with_reducible rfl
 rotate_left
 ·simp only [Act.put, List.setIfInBounds_toArray, List.set_cons_zero, List.set_cons_succ, i64_w, i32_w]
  rfl
 refine take_ (i := 12) (N := some 18) (v := ?_) (a' := ?_) #[true, true, false, true, true, false, false, true, true, false, false, true, true, false, false, true, false, false, false, false, false] rfl rfl (take_ofW HT_.out HW_.out (by kernel_rfl)) (fun _ _ _ h => h) (Or.inl ⟨by rfl, ?_⟩) hHeld ?_ ?_
 rotate_left
 ·rintro w' ⟨s0, s1, s2, s3, s4⟩
  go_simp
  with_reducible rfl
 rotate_left
 ·simp only [Act.put, List.setIfInBounds_toArray, List.set_cons_zero, List.set_cons_succ, i64_w, i32_w]
  rfl
 refine take_ (i := 16) (N := some 22) (v := ?_) (a' := ?_) #[true, true, false, true, true, false, false, true, true, false, false, true, true, false, false, true, true, false, false, false, false] rfl rfl (take_ofW HT_.out HW_.out (by kernel_rfl)) (fun _ _ _ h => h) (Or.inl ⟨by rfl, ?_⟩) hHeld ?_ ?_
 rotate_left
 ·rintro w' ⟨s0, s1, s2, s3, s4⟩
  go_simp
  with_reducible rfl
 rotate_left
 ·simp only [Act.put, List.setIfInBounds_toArray, List.set_cons_zero, List.set_cons_succ, i64_w, i32_w]
  rfl
 refine pv_ 17 23 ?_
 refine one_ (i := 2) (N := some 8) #[true, true, true, true, true, false, false, true, true, false, false, true, true, false, false, true, true, true, false, false, false] rfl rfl (one_of HT_.out (by kernel_rfl)) (by decide) (fun K hK => ?_)
 refine gs_ Try.func53 #[.int .i64 a0_0, .int .i64 3] rfl ma_ ?_
 with_reducible refine (spec_l1Bytes.calls k a0_0 3 t262 _ A2.out).mono ?_
 rintro e w13 ⟨rfl, hb⟩
 refine ⟨_, rfl, ?_⟩
 replace BK261 := bK_ BK261 hb
 replace HB := nc_ GE261 hb
 (try clear hb)
 (try clear hb2)
 (try clear hk)
 (try clear hi)
 refine hK.out _ _ ⟨(blk_cell BK261.out 0).trans rfl, (blk_cell BK261.out 1).trans rfl, (blk_cell BK261.out 2).trans rfl, (blk_cell BK261.out 3).trans rfl, (blk_cell BK261.out 4).trans rfl⟩ (fun hHeld => ?_)
 clear hK K
 refine no_ ?_
 refine one_ (i := 5) (N := some 11) #[true, true, true, true, true, true, false, true, true, false, false, true, true, false, false, true, true, true, false, false, false] rfl rfl (one_of HT_.out (by kernel_rfl)) (by decide) (fun K hK => ?_)
 refine gs_ Try.func53 #[.int .i64 a0_1, .int .i64 2] rfl ma_ ?_
 with_reducible refine (spec_l1Bytes.calls k a0_1 2 t263 _ A3.out).mono ?_
 rintro e w14 ⟨rfl, hb⟩
 refine ⟨_, rfl, ?_⟩
 replace BK261 := bK_ BK261 hb
 replace HB := nc_ GE261 hb
 (try clear hb)
 (try clear hb2)
 (try clear hk)
 (try clear hi)
 refine hK.out _ _ ⟨(blk_cell BK261.out 0).trans rfl, (blk_cell BK261.out 1).trans rfl, (blk_cell BK261.out 2).trans rfl, (blk_cell BK261.out 3).trans rfl, (blk_cell BK261.out 4).trans rfl⟩ (fun hHeld => ?_)
 clear hK K
 refine no_ ?_
 refine pv_ 6 12 ?_
 refine one_ (i := 9) (N := some 15) #[true, true, true, true, true, true, true, true, true, true, false, true, true, false, false, true, true, true, false, false, false] rfl rfl (one_of HT_.out (by kernel_rfl)) (by decide) (fun K hK => ?_)
 refine gs_ Try.func53 #[.int .i64 a0_2, .int .i64 2] rfl ma_ ?_
 with_reducible refine (spec_l1Bytes.calls k a0_2 2 t264 _ A5.out).mono ?_
 rintro e w15 ⟨rfl, hb⟩
 refine ⟨_, rfl, ?_⟩
 replace BK261 := bK_ BK261 hb
 replace HB := nc_ GE261 hb
 (try clear hb)
 (try clear hb2)
 (try clear hk)
 (try clear hi)
 refine hK.out _ _ ⟨(blk_cell BK261.out 0).trans rfl, (blk_cell BK261.out 1).trans rfl, (blk_cell BK261.out 2).trans rfl, (blk_cell BK261.out 3).trans rfl, (blk_cell BK261.out 4).trans rfl⟩ (fun hHeld => ?_)
 clear hK K
 refine no_ ?_
 refine pv_ 10 16 ?_
 refine one_ (i := 13) (N := some 19) #[true, true, true, true, true, true, true, true, true, true, true, true, true, true, false, true, true, true, false, false, false] rfl rfl (one_of HT_.out (by kernel_rfl)) (by decide) (fun K hK => ?_)
 refine gs_ Try.func53 #[.int .i64 a0_3, .int .i64 2] rfl ma_ ?_
 with_reducible refine (spec_l1Bytes.calls k a0_3 2 t265 _ A7.out).mono ?_
 rintro e w16 ⟨rfl, hb⟩
 refine ⟨_, rfl, ?_⟩
 replace BK261 := bK_ BK261 hb
 replace HB := nc_ GE261 hb
 (try clear hb)
 (try clear hb2)
 (try clear hk)
 (try clear hi)
 refine hK.out _ _ ⟨(blk_cell BK261.out 0).trans rfl, (blk_cell BK261.out 1).trans rfl, (blk_cell BK261.out 2).trans rfl, (blk_cell BK261.out 3).trans rfl, (blk_cell BK261.out 4).trans rfl⟩ (fun hHeld => ?_)
 clear hK K
 refine no_ ?_
 refine pv_ 14 20 ?_
 refine one_ (i := 18) (N := some 24) #[true, true, true, true, true, true, true, true, true, true, true, true, true, true, true, true, true, true, true, false, false] rfl rfl (one_of HT_.out (by kernel_rfl)) (by decide) (fun K hK => ?_)
 refine gs_ Try.func53 #[.int .i64 (l0_4.length : Int), .int .i64 1] rfl ma_ ?_
 with_reducible refine (spec_l1Bytes.calls k (l0_4.length : Int) 1 t266 _ A9.out).mono ?_
 rintro e w17 ⟨rfl, hb⟩
 refine ⟨_, rfl, ?_⟩
 replace BK261 := bK_ BK261 hb
 replace HB := nc_ GE261 hb
 (try clear hb)
 (try clear hb2)
 (try clear hk)
 (try clear hi)
 refine hK.out _ _ ⟨(blk_cell BK261.out 0).trans rfl, (blk_cell BK261.out 1).trans rfl, (blk_cell BK261.out 2).trans rfl, (blk_cell BK261.out 3).trans rfl, (blk_cell BK261.out 4).trans rfl⟩ (fun hHeld => ?_)
 clear hK K
 refine no_ ?_
 refine pv_ 19 25 ?_
 refine pv_ 20 3 ?_
 refine done_ (done_of HT_.out (by kernel_rfl)) ?_
 obtain ⟨hcz18_0, hcz18_1, hcz18_2, hcz18_3, hcz18_4, hfz18_0, hfz18_1, hfz18_2, hfz18_3, hfz18_4⟩ := cf5_ BK261.out
 try go_wp2
 go_loopg [3, 29] k (fun kq v3 v29 w' => ∃ (x3_1 : ByteArray) (x29_1 : Int), v3 = .string x3_1 ∧ v29 = .int .i64 x29_1 ∧ Aside0 (spec_l1Batch.l0 kq x3_1 l0_4 (l0_4.length : Int) x29_1 = some r) ∧ Aside0 (kq ≤ k) ∧ Aside0 (w'.heap[gb261]? = some (.cells #[.int .i64 a0_0, .int .i64 a0_1, .int .i64 a0_2, .int .i64 a0_3, (.slice A0_4 l0_4.length c0_4)] 25 (0, 0))) ∧ Aside0 (Below w.heap.size w w'))
 case atStart => exact ⟨((((t262 ++ t263) ++ t264) ++ t265) ++ t266), (0), sr_, sr_, H', ⟨Nat.le_refl _⟩, ⟨kb_ BK261.out⟩, ⟨hs_ GE261.out⟩⟩
 case round =>
  clear H'
  try clear c1
  try clear c1b0
  try clear c2
  try clear c2b0
  try clear p2
  try clear c3
  try clear c3b0
  try clear c4
  try clear c4b0
  try clear c4b1
  try clear c4b2
  try clear c5
  try clear c5b0
  try clear c6
  try clear c6b0
  try clear c6b1
  try clear c6b2
  try clear p6
  try clear c7
  try clear c7b0
  try clear c8
  try clear c8b0
  try clear c8b1
  try clear c8b2
  try clear c9
  try clear c9b0
  try clear c10
  try clear c10b0
  try clear c10b1
  try clear c10b2
  try clear hcz18_0
  try clear hcz18_1
  try clear hcz18_2
  try clear hcz18_3
  try clear hcz18_4
  try clear hfz18_0
  try clear hfz18_1
  try clear hfz18_2
  try clear hfz18_3
  try clear hfz18_4
  obtain ⟨x3_1, x29_1, rfl, rfl, HA, HK1, BK261, HB⟩ := hrel
  cases gk with
  | zero => exact absurd HA.out (by simp [spec_l1Batch.l0])
  | succ k1 =>
   have H := HA.out
   clear HA
   simp only [spec_l1Batch.l0] at H
   replace H := ite_ H
   obtain ⟨c19, H⟩ | ⟨c19, H⟩ := H
   ·have c19b0 := decide_eq_true c19
    clear c19
    replace H := ifs_ H
    obtain ⟨c20, H⟩ := H
    have c20b0 := decide_eq_true c20
    clear c20
    replace H := ifs_ H
    obtain ⟨c21, H⟩ := H
    have c21b0 := decide_eq_true c21
    clear c21
    replace H := bnd_ H
    obtain ⟨t268, A22, H⟩ := H
    replace H := ifs_ H
    obtain ⟨c23, H⟩ := H
    have c23b0 := eq_true c23
    have c23b1 := decide_eq_true c23
    try have c23b2 : (9223372036854775807 < t268.size + (rdOf ByteArray.empty l0_4 x29_1).size) = False := eq_false (Nat.not_lt.2 c23)
    try have c23w := cw_ c23
    (try rw [c23w] at c4b0)
    (try rw [c23w] at c6b0)
    (try rw [c23w] at c8b0)
    (try rw [c23w] at c10b0)
    (try rw [c23w] at c19b0)
    (try rw [c23w] at c20b0)
    (try rw [c23w] at c21b0)
    replace H := ifs_ H
    obtain ⟨c24, H⟩ := H
    have c24b0 := eq_true c24
    have c24b1 := decide_eq_true c24
    try have c24b2 : (9223372036854775807 < x3_1.size + (t268 ++ (rdOf ByteArray.empty l0_4 x29_1)).size) = False := eq_false (Nat.not_lt.2 c24)
    try have c24b3 : x3_1.size + (t268.size + (rdOf ByteArray.empty l0_4 x29_1).size) ≤ 9223372036854775807 := by (have h_ := c24; simp only [ByteArray.size_append] at h_; exact h_)
    try have c24b4 : (9223372036854775807 < x3_1.size + (t268.size + (rdOf ByteArray.empty l0_4 x29_1).size)) = False := eq_false (Nat.not_lt.2 c24b3)
    try have c24w := cw_ c24
    (try rw [c24w] at c4b0)
    (try rw [c24w] at c6b0)
    (try rw [c24w] at c8b0)
    (try rw [c24w] at c10b0)
    (try rw [c24w] at c19b0)
    (try rw [c24w] at c20b0)
    (try rw [c24w] at c21b0)
    (try rw [c24w] at c23b0)
    have H' := Aside0.mk H
    clear H
    have p267 : 0 ≤ (x29_1 : Int) := oa_
    have q267 : x29_1 < (l0_4.length : Int) := oa_
    obtain ⟨ad267, e267, hx267_0⟩ := Kd.at_string HR0_4.out x29_1 p267 q267
    cases e267
    replace hx267_0 := pc_ HB.out hx267_0
    replace p267 := eq_true p267
    replace q267 := eq_true q267
    go_wp2_with (first | ((with_reducible refine gate_callee (f := 53) rfl ?_); refine gl_ 36 Try.func53 #[.int .i64 ((rdOf ByteArray.empty l0_4 x29_1).size : Int), .int .i64 1] rfl ma_ ?_; (with_reducible refine (spec_l1Bytes.calls k1 ((rdOf ByteArray.empty l0_4 x29_1).size : Int) 1 t268 _ A22.out).mono ?_); rintro e w25 ⟨rfl, hb⟩; refine ⟨_, rfl, ?_⟩; replace BK261 := bK_ BK261 hb; replace HB := nc_ GE261 hb; (try clear hb); (try clear hb2); (try clear hk); (try clear hi)))
    go_roundg k1
    case measure => have := HK1.out; omega
    case rel => exact ⟨(x3_1 ++ (t268 ++ (rdOf ByteArray.empty l0_4 x29_1))), (wrap64 (x29_1 + 1)), sr_, sr_, H', ⟨by have := HK1.out; omega⟩, ⟨kb_ BK261.out⟩, ⟨hs_ GE261.out⟩⟩
   have c19b0 := decide_eq_false c19
   clear c19
   replace H := bnd_ H
   obtain ⟨t269, A26, H⟩ := H
   replace H := ifs_ H
   obtain ⟨c27, H⟩ := H
   have c27b0 := eq_true c27
   have c27b1 := decide_eq_true c27
   try have c27b2 : (9223372036854775807 < t269.size + x3_1.size) = False := eq_false (Nat.not_lt.2 c27)
   try have c27w := cw_ c27
   (try rw [c27w] at c4b0)
   (try rw [c27w] at c6b0)
   (try rw [c27w] at c8b0)
   (try rw [c27w] at c10b0)
   (try rw [c27w] at c19b0)
   (try rw [c27w] at c20b0)
   (try rw [c27w] at c21b0)
   (try rw [c27w] at c23b0)
   (try rw [c27w] at c24b0)
   replace H := bnd_ H
   obtain ⟨t270, A28, H⟩ := H
   replace H := bnd_ H
   obtain ⟨t271, A29, H⟩ := H
   replace H := ifs_ H
   obtain ⟨c30, H⟩ := H
   have c30b0 := eq_true c30
   have c30b1 := decide_eq_true c30
   try have c30b2 : (9223372036854775807 < (t269 ++ x3_1).size + t271.size) = False := eq_false (Nat.not_lt.2 c30)
   try have c30b3 : t269.size + x3_1.size + t271.size ≤ 9223372036854775807 := by (have h_ := c30; simp only [ByteArray.size_append] at h_; exact h_)
   try have c30b4 : (9223372036854775807 < t269.size + x3_1.size + t271.size) = False := eq_false (Nat.not_lt.2 c30b3)
   try have c30w := cw_ c30
   (try rw [c30w] at c4b0)
   (try rw [c30w] at c6b0)
   (try rw [c30w] at c8b0)
   (try rw [c30w] at c10b0)
   (try rw [c30w] at c19b0)
   (try rw [c30w] at c20b0)
   (try rw [c30w] at c21b0)
   (try rw [c30w] at c23b0)
   (try rw [c30w] at c24b0)
   (try rw [c30w] at c27b0)
   obtain rfl := Option.some.inj H
   go_wp2_with (first | ((with_reducible refine gate_callee (f := 53) rfl ?_); refine gl_ 44 Try.func53 #[.int .i64 (wrap64 ((x3_1.size : Int) + 2)), .int .i64 2] rfl ma_ ?_; (with_reducible refine (spec_l1Bytes.calls k1 (wrap64 ((x3_1.size : Int) + 2)) 2 t269 _ A26.out).mono ?_); rintro e w31 ⟨rfl, hb⟩; refine ⟨_, rfl, ?_⟩; replace BK261 := bK_ BK261 hb; replace HB := nc_ GE261 hb; (try clear hb); (try clear hb2); (try clear hk); (try clear hi)) | ((with_reducible refine gate_callee (f := 41) rfl ?_); refine gl_ 49 Try.func41 #[.string (t269 ++ x3_1)] rfl ma_ ?_; (with_reducible refine (spec_l1Sum.calls k1 (t269 ++ x3_1) t270 _ A28.out).mono ?_); rintro e w' ⟨rfl, ⟨nd, rfl⟩⟩; refine ⟨_, rfl, ?_⟩) | ((with_reducible refine gate_callee (f := 53) rfl ?_); refine gl_ 50 Try.func53 #[.int .i64 t270, .int .i64 2] rfl ma_ ?_; (with_reducible refine (spec_l1Bytes.calls k1 t270 2 t271 _ A29.out).mono ?_); rintro e w32 ⟨rfl, hb⟩; refine ⟨_, rfl, ?_⟩; replace BK261 := bK_ BK261 hb; replace HB := nc_ GE261 hb; (try clear hb); (try clear hb2); (try clear hk); (try clear hi)))
   go_ret
   exact ⟨er_, hs_ GE261.out⟩

/-! ### spec_l1Log: function 44 -/
def spec_l1Log.l0 : Nat → ByteArray → List (S25) → Int → Int → Option (ByteArray)
 | 0, _, _, _, _ => none
 | k + 1, x3, x6, x7, x8 => if x8 < x7 then (if 0 ≤ x8 then (if x8 < (x6.length : Int) then ((spec_l1Batch.f k ((rd_T25 x6 x8).f0) ((rd_T25 x6 x8).f1) ((rd_T25 x6 x8).f2) ((rd_T25 x6 x8).f3) ((rd_T25 x6 x8).f4)).bind fun t274 => (if x3.size + t274.size ≤ 9223372036854775807 then (spec_l1Log.l0 k (x3 ++ t274) x6 x7 (wrap64 (x8 + 1))) else (none))) else (none)) else (none)) else (some x3)
def spec_l1Log.f (k : Nat) (l0 : List (S25)) : Option (ByteArray) := spec_l1Log.l0 k (⟨#[]⟩ : ByteArray) l0 (l0.length : Int) 0
theorem spec_l1Log.mono_l : ∀ k, (∀ y0 y1 y2 y3, LeO (spec_l1Log.l0 k y0 y1 y2 y3) (spec_l1Log.l0 (k + 1) y0 y1 y2 y3))
 | 0 => fun _ _ _ _ r h => by simp [spec_l1Log.l0] at h
 | k + 1 => by
  have ih0 := spec_l1Log.mono_l k
  ·intro y0 y1 y2 y3
   unfold spec_l1Log.l0
   repeat' first
   | (with_reducible exact ih0 _ _ _ _)
   | (with_reducible exact spec_l1Batch.mono _ _ _ _ _ _)
   | (with_reducible exact LeO.refl _)
   | (with_reducible exact LeO.none _)
   | (with_reducible refine LeO.ite ?_ ?_)
   | (with_reducible refine LeO.bind ?_ (fun _ => ?_))
   | exact ih0 _ _ _ _
   | exact spec_l1Batch.mono _ _ _ _ _ _
   | exact LeO.none _
   | refine LeO.ite ?_ ?_
   | refine LeO.bind ?_ (fun _ => ?_)
theorem spec_l1Log.mono : ∀ a0 k, LeO (spec_l1Log.f k a0) (spec_l1Log.f (k + 1) a0) := by
 intro a0 k
 have ih0 := spec_l1Log.mono_l k
 unfold spec_l1Log.f
 repeat' first
   | (with_reducible exact ih0 _ _ _ _)
   | (with_reducible exact spec_l1Batch.mono _ _ _ _ _ _)
   | (with_reducible exact LeO.refl _)
   | (with_reducible exact LeO.none _)
   | (with_reducible refine LeO.ite ?_ ?_)
   | (with_reducible refine LeO.bind ?_ (fun _ => ?_))
   | exact ih0 _ _ _ _
   | exact spec_l1Batch.mono _ _ _ _ _ _
   | exact LeO.none _
   | refine LeO.ite ?_ ?_
   | refine LeO.bind ?_ (fun _ => ?_)
set_option maxHeartbeats 8000000 in
set_option maxRecDepth 100000 in
theorem spec_l1Log.calls (k : Nat) (A0 : Option Addr) (c0 : Nat) (l0 : List (S25)) (r : ByteArray) (w : World) (hr0 : Kd.C k25 w A0 l0.length l0) (hc0 : l0.length ≤ c0) (h : spec_l1Log.f k l0 = some r) :
  Calls Try.prog 44 #[.slice A0 l0.length c0] w fun e w' => e = .returned (.string r) ∧ Below w.heap.size w w' := by
 have hu25 := Try.underlying25
 have HR0 := Aside0.mk hr0
 have HC0 := Aside0.mk hc0
 clear hr0 hc0
 have HB := Aside0.mk (Below.refl w.heap.size w)
 have H : (spec_l1Log.l0 k (⟨#[]⟩ : ByteArray) l0 (l0.length : Int) 0) = some r := h
 clear h
 have H' := Aside0.mk H
 clear H
 go_enter Try.func44, Try.ntmps44
 go_wp2
 go_loopg [3, 8] k (fun kq v3 v8 w' => ∃ (x3_1 : ByteArray) (x8_1 : Int), v3 = .string x3_1 ∧ v8 = .int .i64 x8_1 ∧ Aside0 (spec_l1Log.l0 kq x3_1 l0 (l0.length : Int) x8_1 = some r) ∧ Aside0 (kq ≤ k) ∧ Aside0 (Below w.heap.size w w'))
 case atStart => exact ⟨((⟨#[]⟩ : ByteArray)), (0), sr_, sr_, H', ⟨Nat.le_refl _⟩, ⟨hb_⟩⟩
 case round =>
  clear H'
  obtain ⟨x3_1, x8_1, rfl, rfl, HA, HK1, HB⟩ := hrel
  cases gk with
  | zero => exact absurd HA.out (by simp [spec_l1Log.l0])
  | succ k1 =>
   have H := HA.out
   clear HA
   simp only [spec_l1Log.l0] at H
   replace H := ite_ H
   obtain ⟨c2, H⟩ | ⟨c2, H⟩ := H
   rotate_left
   ·have c2b0 := decide_eq_false c2
    clear c2
    obtain rfl := Option.some.inj H
    go_wp2
    go_ret
    exact ⟨er_, hb_⟩
   have c2b0 := decide_eq_true c2
   clear c2
   replace H := ifs_ H
   obtain ⟨c3, H⟩ := H
   have c3b0 := decide_eq_true c3
   clear c3
   replace H := ifs_ H
   obtain ⟨c4, H⟩ := H
   have c4b0 := decide_eq_true c4
   clear c4
   replace H := bnd_ H
   obtain ⟨t274, A5, H⟩ := H
   replace H := ifs_ H
   obtain ⟨c6, H⟩ := H
   have c6b0 := eq_true c6
   have c6b1 := decide_eq_true c6
   try have c6b2 : (9223372036854775807 < x3_1.size + t274.size) = False := eq_false (Nat.not_lt.2 c6)
   try have c6w := cw_ c6
   (try rw [c6w] at c2b0)
   (try rw [c6w] at c3b0)
   (try rw [c6w] at c4b0)
   have H' := Aside0.mk H
   clear H
   have p272 : 0 ≤ (x8_1 : Int) := oa_
   have q272 : x8_1 < (l0.length : Int) := oa_
   obtain ⟨ad272, A272_4, c272_4, e272, hx272_0, hx272_1, hx272_2, hx272_3, hx272_4, hl272_4, hi272_4⟩ := at_T25 HR0.out x8_1 p272 q272
   cases e272
   replace hx272_0 := pc_ HB.out hx272_0
   replace hx272_1 := pc_ HB.out hx272_1
   replace hx272_2 := pc_ HB.out hx272_2
   replace hx272_3 := pc_ HB.out hx272_3
   replace hx272_4 := pc_ HB.out hx272_4
   have HR272_4 := Aside0.mk hi272_4
   have HC272_4 := Aside0.mk hl272_4
   clear hi272_4 hl272_4
   replace p272 := eq_true p272
   replace q272 := eq_true q272
   go_wp2_with (first | ((with_reducible refine gate_dst (N := 5) rfl ?_); refine be_ (N := 5) #[.int .i64 0, .int .i64 0, .int .i64 0, .int .i64 0, .slice none 0 0] 25 ?_; intro gb273 hg w7 hbox hb; have BK273 := Aside0.mk (hbox); have GW273 := ge_ hg; have GE273 := ge_ hg; replace HB := nb_ hb; clear hb hbox hg; obtain ⟨hcz8_0, hcz8_1, hcz8_2, hcz8_3, hcz8_4, hfz8_0, hfz8_1, hfz8_2, hfz8_3, hfz8_4⟩ := cf5_ BK273.out) | ((with_reducible refine gate_callee (f := 32) rfl ?_); refine gl_ 14 Try.func32 #[.agg #[.int .i64 ((rd_T25 l0 x8_1).f0), .int .i64 ((rd_T25 l0 x8_1).f1), .int .i64 ((rd_T25 l0 x8_1).f2), .int .i64 ((rd_T25 l0 x8_1).f3), .slice A272_4 ((rd_T25 l0 x8_1).f4).length c272_4]] rfl ma_ ?_; (with_reducible refine (spec_l1Batch.calls k1 ((rd_T25 l0 x8_1).f0) ((rd_T25 l0 x8_1).f1) ((rd_T25 l0 x8_1).f2) ((rd_T25 l0 x8_1).f3) _ _ ((rd_T25 l0 x8_1).f4) t274 _ ?side1 ?side2 A5.out).mono ?_); (case side1 => exact Kd.C_below HR272_4.out (hs_ GE273.out)); (case side2 => exact HC272_4.out); rintro e w9 ⟨rfl, hb⟩; refine ⟨_, rfl, ?_⟩; replace BK273 := Aside0.mk (blk_below (g := gb273) (o := .cells #[.int .i64 ((rd_T25 l0 x8_1).f0), .int .i64 ((rd_T25 l0 x8_1).f1), .int .i64 ((rd_T25 l0 x8_1).f2), .int .i64 ((rd_T25 l0 x8_1).f3), .slice A272_4 ((rd_T25 l0 x8_1).f4).length c272_4] 25 (0, 0)) (by (with_reducible repeat (first | refine blk_drewN ?_ _ | refine blk_drew ?_ | refine blk_alloc ?_ _)); refine blk_put (cs := #[.int .i64 ((rd_T25 l0 x8_1).f0), .int .i64 ((rd_T25 l0 x8_1).f1), .int .i64 ((rd_T25 l0 x8_1).f2), .int .i64 ((rd_T25 l0 x8_1).f3), .slice none 0 0]) ?_ 4 _ rfl; (with_reducible repeat (first | refine blk_drewN ?_ _ | refine blk_drew ?_ | refine blk_alloc ?_ _)); refine blk_put (cs := #[.int .i64 ((rd_T25 l0 x8_1).f0), .int .i64 ((rd_T25 l0 x8_1).f1), .int .i64 ((rd_T25 l0 x8_1).f2), .int .i64 0, .slice none 0 0]) ?_ 3 _ rfl; (with_reducible repeat (first | refine blk_drewN ?_ _ | refine blk_drew ?_ | refine blk_alloc ?_ _)); refine blk_put (cs := #[.int .i64 ((rd_T25 l0 x8_1).f0), .int .i64 ((rd_T25 l0 x8_1).f1), .int .i64 0, .int .i64 0, .slice none 0 0]) ?_ 2 _ rfl; (with_reducible repeat (first | refine blk_drewN ?_ _ | refine blk_drew ?_ | refine blk_alloc ?_ _)); refine blk_put (cs := #[.int .i64 ((rd_T25 l0 x8_1).f0), .int .i64 0, .int .i64 0, .int .i64 0, .slice none 0 0]) ?_ 1 _ rfl; (with_reducible repeat (first | refine blk_drewN ?_ _ | refine blk_drew ?_ | refine blk_alloc ?_ _)); refine blk_put (cs := #[.int .i64 0, .int .i64 0, .int .i64 0, .int .i64 0, .slice none 0 0]) ?_ 0 _ rfl; (with_reducible repeat (first | refine blk_drewN ?_ _ | refine blk_drew ?_ | refine blk_alloc ?_ _)); exact BK273.out) hb); replace HB := nc_ GE273 hb; (try clear hb); (try clear hb2); (try clear hk); (try clear hi)))
   go_roundg k1
   case measure => have := HK1.out; omega
   case rel => exact ⟨(x3_1 ++ t274), (wrap64 (x8_1 + 1)), sr_, sr_, H', ⟨by have := HK1.out; omega⟩, ⟨hs_ GE273.out⟩⟩

end Go.Proofs.Ytjjhebkkpeapkaa.QFnLogs
