/- For each Go function that one statement reaches: a plain function with the same answers, and the proof that the call comes to them. Conditions: those that each contract names. Written by a program of this repository. -/
import Derived.Test.YtjjhebkkpeapkaaVFnBatchesa
import Derived.Test.YtjjhebkkpeapkaaQFnBatchesx0
import Derived.Test.YtjjhebkkpeapkaaQFnBatchesx2
import Derived.Test.YtjjhebkkpeapkaaQFnBatchesx4
namespace Go.Proofs.Ytjjhebkkpeapkaa.QFnBatches
open Go.RowKit Go.Proofs.YtjjhebkkpeapkaaW.PrintWords Go.Proofs.YtjjhebkkpeapkaaW.PrintLast Go.Proofs.YtjjhebkkpeapkaaW.PrintMore
attribute [local go_sem] max2_int min2_int max_two min_two max_three min_three max_four min_four Go.Proofs.YtjjhebkkpeapkaaW.PrintMore2.isSome_setCell   -- for this text's walks alone
set_option linter.unusedVariables false
set_option linter.unusedSimpArgs false

/-! ### spec_l1Batch: function 32 -/
def spec_l1Batch.l0 : Nat → ByteArray → List ByteArray → Int → Int → Option (ByteArray)
 | 0, _, _, _, _ => none
 | k + 1, x3, x27, x28, x29 => if x29 < x28 then (if 0 ≤ x29 then (if x29 < (x27.length : Int) then ((spec_l1Bytes.f k ((rdOf ByteArray.empty x27 x29).size : Int) 1).bind fun t211 => (if t211.size + (rdOf ByteArray.empty x27 x29).size ≤ 9223372036854775807 then (if x3.size + (t211 ++ (rdOf ByteArray.empty x27 x29)).size ≤ 9223372036854775807 then (spec_l1Batch.l0 k (x3 ++ (t211 ++ (rdOf ByteArray.empty x27 x29))) x27 x28 (wrap64 (x29 + 1))) else (none)) else (none))) else (none)) else (none)) else ((spec_l1Bytes.f k (wrap64 ((x3.size : Int) + 2)) 2).bind fun t212 => (if t212.size + x3.size ≤ 9223372036854775807 then ((spec_l1Sum.f k (t212 ++ x3)).bind fun t213 => ((spec_l1Bytes.f k t213 2).bind fun t214 => (if (t212 ++ x3).size + t214.size ≤ 9223372036854775807 then (some ((t212 ++ x3) ++ t214)) else (none)))) else (none)))
def spec_l1Batch.f (k : Nat) (a0_0 : Int) (a0_1 : Int) (a0_2 : Int) (a0_3 : Int) (l0_4 : List ByteArray) : Option (ByteArray) := (spec_l1Bytes.f k a0_0 3).bind fun t205 => ((spec_l1Bytes.f k a0_1 2).bind fun t206 => (if t205.size + t206.size ≤ 9223372036854775807 then ((spec_l1Bytes.f k a0_2 2).bind fun t207 => (if (t205 ++ t206).size + t207.size ≤ 9223372036854775807 then ((spec_l1Bytes.f k a0_3 2).bind fun t208 => (if ((t205 ++ t206) ++ t207).size + t208.size ≤ 9223372036854775807 then ((spec_l1Bytes.f k (l0_4.length : Int) 1).bind fun t209 => (if (((t205 ++ t206) ++ t207) ++ t208).size + t209.size ≤ 9223372036854775807 then (spec_l1Batch.l0 k ((((t205 ++ t206) ++ t207) ++ t208) ++ t209) l0_4 (l0_4.length : Int) 0) else (none))) else (none))) else (none))) else (none)))
theorem spec_l1Batch.mono_l : ∀ k, (∀ y0 y1 y2 y3, LeO (spec_l1Batch.l0 k y0 y1 y2 y3) (spec_l1Batch.l0 (k + 1) y0 y1 y2 y3))
 | 0 => fun _ _ _ _ r h => by simp [spec_l1Batch.l0] at h
 | k + 1 => by
  have ih0 := spec_l1Batch.mono_l k
  ·intro y0 y1 y2 y3
   unfold spec_l1Batch.l0
   repeat' first
   | (with_reducible exact ih0 _ _ _ _)
   | (with_reducible exact spec_l1Bytes.mono _ _ _)
   | (with_reducible exact spec_l1Sum.mono _ _)
   | (with_reducible exact LeO.refl _)
   | (with_reducible exact LeO.none _)
   | (with_reducible refine LeO.ite ?_ ?_)
   | (with_reducible refine LeO.bind ?_ (fun _ => ?_))
   | exact ih0 _ _ _ _
   | exact spec_l1Bytes.mono _ _ _
   | exact spec_l1Sum.mono _ _
   | exact LeO.none _
   | refine LeO.ite ?_ ?_
   | refine LeO.bind ?_ (fun _ => ?_)
theorem spec_l1Batch.mono : ∀ a0 a1 a2 a3 a4 k, LeO (spec_l1Batch.f k a0 a1 a2 a3 a4) (spec_l1Batch.f (k + 1) a0 a1 a2 a3 a4) := by
 intro a0 a1 a2 a3 a4 k
 have ih0 := spec_l1Batch.mono_l k
 unfold spec_l1Batch.f
 repeat' first
   | (with_reducible exact ih0 _ _ _ _)
   | (with_reducible exact spec_l1Bytes.mono _ _ _)
   | (with_reducible exact spec_l1Sum.mono _ _)
   | (with_reducible exact LeO.refl _)
   | (with_reducible exact LeO.none _)
   | (with_reducible refine LeO.ite ?_ ?_)
   | (with_reducible refine LeO.bind ?_ (fun _ => ?_))
   | exact ih0 _ _ _ _
   | exact spec_l1Bytes.mono _ _ _
   | exact spec_l1Sum.mono _ _
   | exact LeO.none _
   | refine LeO.ite ?_ ?_
   | refine LeO.bind ?_ (fun _ => ?_)
def spec_l1Batch.T1 : Bool × List (List Nat × List Nat) := (true, [([], []), ([0], [0]), ([1], [1]), ([], []), ([3], [3]), ([4, 2], [4]), ([2, 5], [2, 5]), ([], []), ([7], [7]), ([8, 5], [8]), ([6, 9], [6, 9]), ([], []), ([11], [11]), ([12, 9], [12]), ([10, 13], [10, 13]), ([], []), ([15], [15]), ([16], [16]), ([17, 13], [17]), ([14, 18], [14, 18]), ([19, 18, 0, 1, 2, 3, 4, 5, 6, 7, 8, 9, 10, 11, 12, 13, 14, 15, 16, 17, 18, 19], [19])])
def spec_l1Batch.B1 : List Nat := [0, 1, 3, 0, 8, 31, 63, 0, 128, 447, 1023, 0, 2048, 7103, 16383, 0, 32768, 98304, 244671, 524287, 1048575]
theorem spec_l1Batch.tab1 : rtab .any (opsOf Try.f32 1) = spec_l1Batch.T1 := by kernel_rfl
theorem spec_l1Batch.bits1 : waitsOk spec_l1Batch.T1.2 spec_l1Batch.B1 = true := by kernel_rfl
set_option maxHeartbeats 8000000 in
set_option maxRecDepth 100000 in
theorem spec_l1Batch.calls (k : Nat) (a0_0 : Int) (a0_1 : Int) (a0_2 : Int) (a0_3 : Int) (A0_4 : Option Addr) (c0_4 : Nat) (l0_4 : List ByteArray) (r : ByteArray) (w : World) (hr0_4 : Kd.C Kd.string w A0_4 l0_4.length l0_4) (hc0_4 : l0_4.length ≤ c0_4) (h : spec_l1Batch.f k a0_0 a0_1 a0_2 a0_3 l0_4 = some r) :
  Calls Try.prog 32 #[.agg #[.int .i64 a0_0, .int .i64 a0_1, .int .i64 a0_2, .int .i64 a0_3, .slice A0_4 l0_4.length c0_4]] w fun e w' => e = .returned (.string r) ∧ Below w.heap.size w w' := by
 have hu25 := Try.underlying25
 have HR0_4 := Aside0.mk hr0_4
 have HC0_4 := Aside0.mk hc0_4
 clear hr0_4 hc0_4
 have HB := Aside0.mk (Below.refl w.heap.size w)
 have H : ((spec_l1Bytes.f k a0_0 3).bind fun t205 => ((spec_l1Bytes.f k a0_1 2).bind fun t206 => (if t205.size + t206.size ≤ 9223372036854775807 then ((spec_l1Bytes.f k a0_2 2).bind fun t207 => (if (t205 ++ t206).size + t207.size ≤ 9223372036854775807 then ((spec_l1Bytes.f k a0_3 2).bind fun t208 => (if ((t205 ++ t206) ++ t207).size + t208.size ≤ 9223372036854775807 then ((spec_l1Bytes.f k (l0_4.length : Int) 1).bind fun t209 => (if (((t205 ++ t206) ++ t207) ++ t208).size + t209.size ≤ 9223372036854775807 then (spec_l1Batch.l0 k ((((t205 ++ t206) ++ t207) ++ t208) ++ t209) l0_4 (l0_4.length : Int) 0) else (none))) else (none))) else (none))) else (none)))) = some r := h
 clear h
 replace H := bnd_ H
 obtain ⟨t205, A2, H⟩ := H
 replace H := bnd_ H
 obtain ⟨t206, A3, H⟩ := H
 replace H := ifs_ H
 obtain ⟨c4, H⟩ := H
 have c4b0 := eq_true c4
 have c4b1 := decide_eq_true c4
 try have c4b2 : (9223372036854775807 < t205.size + t206.size) = False := eq_false (Nat.not_lt.2 c4)
 try have c4w := cw_ c4
 replace H := bnd_ H
 obtain ⟨t207, A5, H⟩ := H
 replace H := ifs_ H
 obtain ⟨c6, H⟩ := H
 have c6b0 := eq_true c6
 have c6b1 := decide_eq_true c6
 try have c6b2 : (9223372036854775807 < (t205 ++ t206).size + t207.size) = False := eq_false (Nat.not_lt.2 c6)
 try have c6b3 : t205.size + t206.size + t207.size ≤ 9223372036854775807 := by (have h_ := c6; simp only [ByteArray.size_append] at h_; exact h_)
 try have c6b4 : (9223372036854775807 < t205.size + t206.size + t207.size) = False := eq_false (Nat.not_lt.2 c6b3)
 try have c6w := cw_ c6
 (try rw [c6w] at c4b0)
 replace H := bnd_ H
 obtain ⟨t208, A7, H⟩ := H
 replace H := ifs_ H
 obtain ⟨c8, H⟩ := H
 have c8b0 := eq_true c8
 have c8b1 := decide_eq_true c8
 try have c8b2 : (9223372036854775807 < ((t205 ++ t206) ++ t207).size + t208.size) = False := eq_false (Nat.not_lt.2 c8)
 try have c8b3 : t205.size + t206.size + t207.size + t208.size ≤ 9223372036854775807 := by (have h_ := c8; simp only [ByteArray.size_append] at h_; exact h_)
 try have c8b4 : (9223372036854775807 < t205.size + t206.size + t207.size + t208.size) = False := eq_false (Nat.not_lt.2 c8b3)
 try have c8w := cw_ c8
 (try rw [c8w] at c4b0)
 (try rw [c8w] at c6b0)
 replace H := bnd_ H
 obtain ⟨t209, A9, H⟩ := H
 replace H := ifs_ H
 obtain ⟨c10, H⟩ := H
 have c10b0 := eq_true c10
 have c10b1 := decide_eq_true c10
 try have c10b2 : (9223372036854775807 < (((t205 ++ t206) ++ t207) ++ t208).size + t209.size) = False := eq_false (Nat.not_lt.2 c10)
 try have c10b3 : t205.size + t206.size + t207.size + t208.size + t209.size ≤ 9223372036854775807 := by (have h_ := c10; simp only [ByteArray.size_append] at h_; exact h_)
 try have c10b4 : (9223372036854775807 < t205.size + t206.size + t207.size + t208.size + t209.size) = False := eq_false (Nat.not_lt.2 c10b3)
 try have c10w := cw_ c10
 (try rw [c10w] at c4b0)
 (try rw [c10w] at c6b0)
 (try rw [c10w] at c8b0)
 have H' := Aside0.mk H
 clear H
 go_enter Try.func32, Try.ntmps32
 try go_wp2_with (first | ((with_reducible refine gate_dst (N := 1) rfl ?_); refine be_ (N := 1) #[.int .i64 a0_0, .int .i64 a0_1, .int .i64 a0_2, .int .i64 a0_3, .slice A0_4 l0_4.length c0_4] 25 ?_; intro gb204 hg w11 hbox hb; have BK204 := Aside0.mk (hbox); have GW204 := ge_ hg; have GE204 := ge_ hg; replace HB := nb_ hb; clear hb hbox hg))
 replace BK204 := qK_ BK204
 replace HB := qH_ HB
 refine start_ (n := 21) (S := fun w' => w'.cell? ⟨gb204, 0, none⟩ = some (.int .i64 a0_0) ∧ w'.cell? ⟨gb204, 1, none⟩ = some (.int .i64 a0_1) ∧ w'.cell? ⟨gb204, 2, none⟩ = some (.int .i64 a0_2) ∧ w'.cell? ⟨gb204, 3, none⟩ = some (.int .i64 a0_3) ∧ w'.cell? ⟨gb204, 4, none⟩ = some (.slice A0_4 l0_4.length c0_4)) (ds := []) #[false, false, false, false, false, false, false, false, false, false, false, false, false, false, false, false, false, false, false, false, false] (by kernel_rfl) rfl rfl ⟨(blk_cell BK204.out 0).trans rfl, (blk_cell BK204.out 1).trans rfl, (blk_cell BK204.out 2).trans rfl, (blk_cell BK204.out 3).trans rfl, (blk_cell BK204.out 4).trans rfl⟩ (fun hHeld => ?_); refine with_tabW spec_l1Batch.tab1 spec_l1Batch.bits1 (fun HT_ HW_ => ?_)
 generalize w11.drew = w12 at BK204 HB hHeld ⊢
 refine pv_ 0 6 ?_
 refine pv_ 3 9 ?_
 refine pv_ 7 13 ?_
 refine pv_ 11 17 ?_
 refine pv_ 15 21 ?_
 refine take_ (i := 1) (N := some 7) (v := ?_) (a' := ?_) #[true, true, false, true, false, false, false, true, false, false, false, true, false, false, false, true, false, false, false, false, false] rfl rfl (take_ofW HT_.out HW_.out (by kernel_rfl)) (fun _ _ _ h => h) (Or.inl ⟨by rfl, ?_⟩) hHeld ?_ ?_
 rotate_left
 ·rintro w' ⟨s0, s1, s2, s3, s4⟩
  go_simp
  with_reducible rfl
 rotate_left
 ·simp only [Act.put, List.setIfInBounds_toArray, List.set_cons_zero, List.set_cons_succ, i64_w, i32_w]
  rfl
 refine take_ (i := 4) (N := some 10) (v := ?_) (a' := ?_) #[true, true, false, true, true, false, false, true, false, false, false, true, false, false, false, true, false, false, false, false, false] rfl rfl (take_ofW HT_.out HW_.out (by kernel_rfl)) (fun _ _ _ h => h) (Or.inl ⟨by rfl, ?_⟩) hHeld ?_ ?_
 rotate_left
 ·rintro w' ⟨s0, s1, s2, s3, s4⟩
  go_simp
  with_reducible rfl
 rotate_left
 ·simp only [Act.put, List.setIfInBounds_toArray, List.set_cons_zero, List.set_cons_succ, i64_w, i32_w]
  rfl
 refine take_ (i := 8) (N := some 14) (v := ?_) (a' := ?_) #[true, true, false, true, true, false, false, true, true, false, false, true, false, false, false, true, false, false, false, false, false] rfl rfl (take_ofW HT_.out HW_.out (by kernel_rfl)) (fun _ _ _ h => h) (Or.inl ⟨by rfl, ?_⟩) hHeld ?_ ?_
 rotate_left
 ·rintro w' ⟨s0, s1, s2, s3, s4⟩
  go_simp
  with_reducible rfl
 rotate_left
 ·simp only [Act.put, List.setIfInBounds_toArray, List.set_cons_zero, List.set_cons_succ, i64_w, i32_w]
  rfl
 refine take_ (i := 12) (N := some 18) (v := ?_) (a' := ?_) #[true, true, false, true, true, false, false, true, true, false, false, true, true, false, false, true, false, false, false, false, false] rfl rfl (take_ofW HT_.out HW_.out (by kernel_rfl)) (fun _ _ _ h => h) (Or.inl ⟨by rfl, ?_⟩) hHeld ?_ ?_
 rotate_left
 ·rintro w' ⟨s0, s1, s2, s3, s4⟩
  go_simp
  with_reducible rfl
 rotate_left
 ·simp only [Act.put, List.setIfInBounds_toArray, List.set_cons_zero, List.set_cons_succ, i64_w, i32_w]
  rfl
 refine take_ (i := 16) (N := some 22) (v := ?_) (a' := ?_) #[true, true, false, true, true, false, false, true, true, false, false, true, true, false, false, true, true, false, false, false, false] rfl rfl (take_ofW HT_.out HW_.out (by kernel_rfl)) (fun _ _ _ h => h) (Or.inl ⟨by rfl, ?_⟩) hHeld ?_ ?_
 rotate_left
 ·rintro w' ⟨s0, s1, s2, s3, s4⟩
  go_simp
  with_reducible rfl
 rotate_left
 ·simp only [Act.put, List.setIfInBounds_toArray, List.set_cons_zero, List.set_cons_succ, i64_w, i32_w]
  rfl
 refine pv_ 17 23 ?_
 refine one_ (i := 2) (N := some 8) #[true, true, true, true, true, false, false, true, true, false, false, true, true, false, false, true, true, true, false, false, false] rfl rfl (one_of HT_.out (by kernel_rfl)) (by decide) (fun K hK => ?_)
 refine gs_ Try.func53 #[.int .i64 a0_0, .int .i64 3] rfl ma_ ?_
 with_reducible refine (spec_l1Bytes.calls k a0_0 3 t205 _ A2.out).mono ?_
 rintro e w13 ⟨rfl, hb⟩
 refine ⟨_, rfl, ?_⟩
 replace BK204 := bK_ BK204 hb
 replace HB := nc_ GE204 hb
 (try clear hb)
 (try clear hb2)
 (try clear hk)
 (try clear hi)
 refine hK.out _ _ ⟨(blk_cell BK204.out 0).trans rfl, (blk_cell BK204.out 1).trans rfl, (blk_cell BK204.out 2).trans rfl, (blk_cell BK204.out 3).trans rfl, (blk_cell BK204.out 4).trans rfl⟩ (fun hHeld => ?_)
 clear hK K
 refine no_ ?_
 refine one_ (i := 5) (N := some 11) #[true, true, true, true, true, true, false, true, true, false, false, true, true, false, false, true, true, true, false, false, false] rfl rfl (one_of HT_.out (by kernel_rfl)) (by decide) (fun K hK => ?_)
 refine gs_ Try.func53 #[.int .i64 a0_1, .int .i64 2] rfl ma_ ?_
 with_reducible refine (spec_l1Bytes.calls k a0_1 2 t206 _ A3.out).mono ?_
 rintro e w14 ⟨rfl, hb⟩
 refine ⟨_, rfl, ?_⟩
 replace BK204 := bK_ BK204 hb
 replace HB := nc_ GE204 hb
 (try clear hb)
 (try clear hb2)
 (try clear hk)
 (try clear hi)
 refine hK.out _ _ ⟨(blk_cell BK204.out 0).trans rfl, (blk_cell BK204.out 1).trans rfl, (blk_cell BK204.out 2).trans rfl, (blk_cell BK204.out 3).trans rfl, (blk_cell BK204.out 4).trans rfl⟩ (fun hHeld => ?_)
 clear hK K
 refine no_ ?_
 refine pv_ 6 12 ?_
 refine one_ (i := 9) (N := some 15) #[true, true, true, true, true, true, true, true, true, true, false, true, true, false, false, true, true, true, false, false, false] rfl rfl (one_of HT_.out (by kernel_rfl)) (by decide) (fun K hK => ?_)
 refine gs_ Try.func53 #[.int .i64 a0_2, .int .i64 2] rfl ma_ ?_
 with_reducible refine (spec_l1Bytes.calls k a0_2 2 t207 _ A5.out).mono ?_
 rintro e w15 ⟨rfl, hb⟩
 refine ⟨_, rfl, ?_⟩
 replace BK204 := bK_ BK204 hb
 replace HB := nc_ GE204 hb
 (try clear hb)
 (try clear hb2)
 (try clear hk)
 (try clear hi)
 refine hK.out _ _ ⟨(blk_cell BK204.out 0).trans rfl, (blk_cell BK204.out 1).trans rfl, (blk_cell BK204.out 2).trans rfl, (blk_cell BK204.out 3).trans rfl, (blk_cell BK204.out 4).trans rfl⟩ (fun hHeld => ?_)
 clear hK K
 refine no_ ?_
 refine pv_ 10 16 ?_
 refine one_ (i := 13) (N := some 19) #[true, true, true, true, true, true, true, true, true, true, true, true, true, true, false, true, true, true, false, false, false] rfl rfl (one_of HT_.out (by kernel_rfl)) (by decide) (fun K hK => ?_)
 refine gs_ Try.func53 #[.int .i64 a0_3, .int .i64 2] rfl ma_ ?_
 with_reducible refine (spec_l1Bytes.calls k a0_3 2 t208 _ A7.out).mono ?_
 rintro e w16 ⟨rfl, hb⟩
 refine ⟨_, rfl, ?_⟩
 replace BK204 := bK_ BK204 hb
 replace HB := nc_ GE204 hb
 (try clear hb)
 (try clear hb2)
 (try clear hk)
 (try clear hi)
 refine hK.out _ _ ⟨(blk_cell BK204.out 0).trans rfl, (blk_cell BK204.out 1).trans rfl, (blk_cell BK204.out 2).trans rfl, (blk_cell BK204.out 3).trans rfl, (blk_cell BK204.out 4).trans rfl⟩ (fun hHeld => ?_)
 clear hK K
 refine no_ ?_
 refine pv_ 14 20 ?_
 refine one_ (i := 18) (N := some 24) #[true, true, true, true, true, true, true, true, true, true, true, true, true, true, true, true, true, true, true, false, false] rfl rfl (one_of HT_.out (by kernel_rfl)) (by decide) (fun K hK => ?_)
 refine gs_ Try.func53 #[.int .i64 (l0_4.length : Int), .int .i64 1] rfl ma_ ?_
 with_reducible refine (spec_l1Bytes.calls k (l0_4.length : Int) 1 t209 _ A9.out).mono ?_
 rintro e w17 ⟨rfl, hb⟩
 refine ⟨_, rfl, ?_⟩
 replace BK204 := bK_ BK204 hb
 replace HB := nc_ GE204 hb
 (try clear hb)
 (try clear hb2)
 (try clear hk)
 (try clear hi)
 refine hK.out _ _ ⟨(blk_cell BK204.out 0).trans rfl, (blk_cell BK204.out 1).trans rfl, (blk_cell BK204.out 2).trans rfl, (blk_cell BK204.out 3).trans rfl, (blk_cell BK204.out 4).trans rfl⟩ (fun hHeld => ?_)
 clear hK K
 refine no_ ?_
 refine pv_ 19 25 ?_
 refine pv_ 20 3 ?_
 refine done_ (done_of HT_.out (by kernel_rfl)) ?_
 obtain ⟨hcz18_0, hcz18_1, hcz18_2, hcz18_3, hcz18_4, hfz18_0, hfz18_1, hfz18_2, hfz18_3, hfz18_4⟩ := cf5_ BK204.out
 try go_wp2
 go_loopg [3, 29] k (fun kq v3 v29 w' => ∃ (x3_1 : ByteArray) (x29_1 : Int), v3 = .string x3_1 ∧ v29 = .int .i64 x29_1 ∧ Aside0 (spec_l1Batch.l0 kq x3_1 l0_4 (l0_4.length : Int) x29_1 = some r) ∧ Aside0 (kq ≤ k) ∧ Aside0 (w'.heap[gb204]? = some (.cells #[.int .i64 a0_0, .int .i64 a0_1, .int .i64 a0_2, .int .i64 a0_3, (.slice A0_4 l0_4.length c0_4)] 25 (0, 0))) ∧ Aside0 (Below w.heap.size w w'))
 case atStart => exact ⟨((((t205 ++ t206) ++ t207) ++ t208) ++ t209), (0), sr_, sr_, H', ⟨Nat.le_refl _⟩, ⟨kb_ BK204.out⟩, ⟨hs_ GE204.out⟩⟩
 case round =>
  clear H'
  try clear c1
  try clear c1b0
  try clear c2
  try clear c2b0
  try clear p2
  try clear c3
  try clear c3b0
  try clear c4
  try clear c4b0
  try clear c4b1
  try clear c4b2
  try clear c5
  try clear c5b0
  try clear c6
  try clear c6b0
  try clear c6b1
  try clear c6b2
  try clear p6
  try clear c7
  try clear c7b0
  try clear c8
  try clear c8b0
  try clear c8b1
  try clear c8b2
  try clear c9
  try clear c9b0
  try clear c10
  try clear c10b0
  try clear c10b1
  try clear c10b2
  try clear hcz18_0
  try clear hcz18_1
  try clear hcz18_2
  try clear hcz18_3
  try clear hcz18_4
  try clear hfz18_0
  try clear hfz18_1
  try clear hfz18_2
  try clear hfz18_3
  try clear hfz18_4
  obtain ⟨x3_1, x29_1, rfl, rfl, HA, HK1, BK204, HB⟩ := hrel
  cases gk with
  | zero => exact absurd HA.out (by simp [spec_l1Batch.l0])
  | succ k1 =>
   have H := HA.out
   clear HA
   simp only [spec_l1Batch.l0] at H
   replace H := ite_ H
   obtain ⟨c19, H⟩ | ⟨c19, H⟩ := H
   ·have c19b0 := decide_eq_true c19
    clear c19
    replace H := ifs_ H
    obtain ⟨c20, H⟩ := H
    have c20b0 := decide_eq_true c20
    clear c20
    replace H := ifs_ H
    obtain ⟨c21, H⟩ := H
    have c21b0 := decide_eq_true c21
    clear c21
    replace H := bnd_ H
    obtain ⟨t211, A22, H⟩ := H
    replace H := ifs_ H
    obtain ⟨c23, H⟩ := H
    have c23b0 := eq_true c23
    have c23b1 := decide_eq_true c23
    try have c23b2 : (9223372036854775807 < t211.size + (rdOf ByteArray.empty l0_4 x29_1).size) = False := eq_false (Nat.not_lt.2 c23)
    try have c23w := cw_ c23
    (try rw [c23w] at c4b0)
    (try rw [c23w] at c6b0)
    (try rw [c23w] at c8b0)
    (try rw [c23w] at c10b0)
    (try rw [c23w] at c19b0)
    (try rw [c23w] at c20b0)
    (try rw [c23w] at c21b0)
    replace H := ifs_ H
    obtain ⟨c24, H⟩ := H
    have c24b0 := eq_true c24
    have c24b1 := decide_eq_true c24
    try have c24b2 : (9223372036854775807 < x3_1.size + (t211 ++ (rdOf ByteArray.empty l0_4 x29_1)).size) = False := eq_false (Nat.not_lt.2 c24)
    try have c24b3 : x3_1.size + (t211.size + (rdOf ByteArray.empty l0_4 x29_1).size) ≤ 9223372036854775807 := by (have h_ := c24; simp only [ByteArray.size_append] at h_; exact h_)
    try have c24b4 : (9223372036854775807 < x3_1.size + (t211.size + (rdOf ByteArray.empty l0_4 x29_1).size)) = False := eq_false (Nat.not_lt.2 c24b3)
    try have c24w := cw_ c24
    (try rw [c24w] at c4b0)
    (try rw [c24w] at c6b0)
    (try rw [c24w] at c8b0)
    (try rw [c24w] at c10b0)
    (try rw [c24w] at c19b0)
    (try rw [c24w] at c20b0)
    (try rw [c24w] at c21b0)
    (try rw [c24w] at c23b0)
    have H' := Aside0.mk H
    clear H
    have p210 : 0 ≤ (x29_1 : Int) := oa_
    have q210 : x29_1 < (l0_4.length : Int) := oa_
    obtain ⟨ad210, e210, hx210_0⟩ := Kd.at_string HR0_4.out x29_1 p210 q210
    cases e210
    replace hx210_0 := pc_ HB.out hx210_0
    replace p210 := eq_true p210
    replace q210 := eq_true q210
    go_wp2_with (first | ((with_reducible refine gate_callee (f := 53) rfl ?_); refine gl_ 36 Try.func53 #[.int .i64 ((rdOf ByteArray.empty l0_4 x29_1).size : Int), .int .i64 1] rfl ma_ ?_; (with_reducible refine (spec_l1Bytes.calls k1 ((rdOf ByteArray.empty l0_4 x29_1).size : Int) 1 t211 _ A22.out).mono ?_); rintro e w25 ⟨rfl, hb⟩; refine ⟨_, rfl, ?_⟩; replace BK204 := bK_ BK204 hb; replace HB := nc_ GE204 hb; (try clear hb); (try clear hb2); (try clear hk); (try clear hi)))
    go_roundg k1
    case measure => have := HK1.out; omega
    case rel => exact ⟨(x3_1 ++ (t211 ++ (rdOf ByteArray.empty l0_4 x29_1))), (wrap64 (x29_1 + 1)), sr_, sr_, H', ⟨by have := HK1.out; omega⟩, ⟨kb_ BK204.out⟩, ⟨hs_ GE204.out⟩⟩
   have c19b0 := decide_eq_false c19
   clear c19
   replace H := bnd_ H
   obtain ⟨t212, A26, H⟩ := H
   replace H := ifs_ H
   obtain ⟨c27, H⟩ := H
   have c27b0 := eq_true c27
   have c27b1 := decide_eq_true c27
   try have c27b2 : (9223372036854775807 < t212.size + x3_1.size) = False := eq_false (Nat.not_lt.2 c27)
   try have c27w := cw_ c27
   (try rw [c27w] at c4b0)
   (try rw [c27w] at c6b0)
   (try rw [c27w] at c8b0)
   (try rw [c27w] at c10b0)
   (try rw [c27w] at c19b0)
   (try rw [c27w] at c20b0)
   (try rw [c27w] at c21b0)
   (try rw [c27w] at c23b0)
   (try rw [c27w] at c24b0)
   replace H := bnd_ H
   obtain ⟨t213, A28, H⟩ := H
   replace H := bnd_ H
   obtain ⟨t214, A29, H⟩ := H
   replace H := ifs_ H
   obtain ⟨c30, H⟩ := H
   have c30b0 := eq_true c30
   have c30b1 := decide_eq_true c30
   try have c30b2 : (9223372036854775807 < (t212 ++ x3_1).size + t214.size) = False := eq_false (Nat.not_lt.2 c30)
   try have c30b3 : t212.size + x3_1.size + t214.size ≤ 9223372036854775807 := by (have h_ := c30; simp only [ByteArray.size_append] at h_; exact h_)
   try have c30b4 : (9223372036854775807 < t212.size + x3_1.size + t214.size) = False := eq_false (Nat.not_lt.2 c30b3)
   try have c30w := cw_ c30
   (try rw [c30w] at c4b0)
   (try rw [c30w] at c6b0)
   (try rw [c30w] at c8b0)
   (try rw [c30w] at c10b0)
   (try rw [c30w] at c19b0)
   (try rw [c30w] at c20b0)
   (try rw [c30w] at c21b0)
   (try rw [c30w] at c23b0)
   (try rw [c30w] at c24b0)
   (try rw [c30w] at c27b0)
   obtain rfl := Option.some.inj H
   go_wp2_with (first | ((with_reducible refine gate_callee (f := 53) rfl ?_); refine gl_ 44 Try.func53 #[.int .i64 (wrap64 ((x3_1.size : Int) + 2)), .int .i64 2] rfl ma_ ?_; (with_reducible refine (spec_l1Bytes.calls k1 (wrap64 ((x3_1.size : Int) + 2)) 2 t212 _ A26.out).mono ?_); rintro e w31 ⟨rfl, hb⟩; refine ⟨_, rfl, ?_⟩; replace BK204 := bK_ BK204 hb; replace HB := nc_ GE204 hb; (try clear hb); (try clear hb2); (try clear hk); (try clear hi)) | ((with_reducible refine gate_callee (f := 41) rfl ?_); refine gl_ 49 Try.func41 #[.string (t212 ++ x3_1)] rfl ma_ ?_; (with_reducible refine (spec_l1Sum.calls k1 (t212 ++ x3_1) t213 _ A28.out).mono ?_); rintro e w' ⟨rfl, ⟨nd, rfl⟩⟩; refine ⟨_, rfl, ?_⟩) | ((with_reducible refine gate_callee (f := 53) rfl ?_); refine gl_ 50 Try.func53 #[.int .i64 t213, .int .i64 2] rfl ma_ ?_; (with_reducible refine (spec_l1Bytes.calls k1 t213 2 t214 _ A29.out).mono ?_); rintro e w32 ⟨rfl, hb⟩; refine ⟨_, rfl, ?_⟩; replace BK204 := bK_ BK204 hb; replace HB := nc_ GE204 hb; (try clear hb); (try clear hb2); (try clear hk); (try clear hi)))
   go_ret
   exact ⟨er_, hs_ GE204.out⟩

/-! ### spec_BatchBytes: function 7 -/
def spec_BatchBytes.f (k : Nat) (a0_0 : Int) (a0_1 : Int) (a0_2 : Int) (a0_3 : Int) (l0_4 : List ByteArray) : Option (ByteArray × Bool) := (spec_GoodBatch.f k a0_0 a0_1 a0_2 a0_3 l0_4).bind fun t216 => (if t216 = true then ((spec_l1Batch.f k a0_0 a0_1 a0_2 a0_3 l0_4).bind fun t217 => (some (t217, true))) else (some ((⟨#[]⟩ : ByteArray), false)))
theorem spec_BatchBytes.mono : ∀ a0 a1 a2 a3 a4 k, LeO (spec_BatchBytes.f k a0 a1 a2 a3 a4) (spec_BatchBytes.f (k + 1) a0 a1 a2 a3 a4) := by
 intro a0 a1 a2 a3 a4 k
 unfold spec_BatchBytes.f
 repeat' first
   | (with_reducible exact spec_GoodBatch.mono _ _ _ _ _ _)
   | (with_reducible exact spec_l1Batch.mono _ _ _ _ _ _)
   | (with_reducible exact LeO.refl _)
   | (with_reducible exact LeO.none _)
   | (with_reducible refine LeO.ite ?_ ?_)
   | (with_reducible refine LeO.bind ?_ (fun _ => ?_))
   | exact spec_GoodBatch.mono _ _ _ _ _ _
   | exact spec_l1Batch.mono _ _ _ _ _ _
   | exact LeO.none _
   | refine LeO.ite ?_ ?_
   | refine LeO.bind ?_ (fun _ => ?_)
set_option maxHeartbeats 8000000 in
set_option maxRecDepth 100000 in
theorem spec_BatchBytes.calls (k : Nat) (a0_0 : Int) (a0_1 : Int) (a0_2 : Int) (a0_3 : Int) (A0_4 : Option Addr) (c0_4 : Nat) (l0_4 : List ByteArray) (r1 : ByteArray) (r2 : Bool) (w : World) (hr0_4 : Kd.C Kd.string w A0_4 l0_4.length l0_4) (hc0_4 : l0_4.length ≤ c0_4) (h : spec_BatchBytes.f k a0_0 a0_1 a0_2 a0_3 l0_4 = some (r1, r2)) :
  Calls Try.prog 7 #[.agg #[.int .i64 a0_0, .int .i64 a0_1, .int .i64 a0_2, .int .i64 a0_3, .slice A0_4 l0_4.length c0_4]] w fun e w' => e = .returned (.tuple #[.string r1, .bool r2]) ∧ Below w.heap.size w w' := by
 have hu25 := Try.underlying25
 have HR0_4 := Aside0.mk hr0_4
 have HC0_4 := Aside0.mk hc0_4
 clear hr0_4 hc0_4
 have HB := Aside0.mk (Below.refl w.heap.size w)
 have H : ((spec_GoodBatch.f k a0_0 a0_1 a0_2 a0_3 l0_4).bind fun t216 => (if t216 = true then ((spec_l1Batch.f k a0_0 a0_1 a0_2 a0_3 l0_4).bind fun t217 => (some (t217, true))) else (some ((⟨#[]⟩ : ByteArray), false)))) = some (r1, r2) := h
 clear h
 replace H := bnd_ H
 obtain ⟨t216, A2, H⟩ := H
 replace H := ifb_ H
 obtain ⟨rfl, H⟩ | ⟨rfl, H⟩ := H
 rotate_left
 ·simp only [Option.some.injEq, Prod.mk.injEq] at H
  obtain ⟨rfl, rfl⟩ := H
  go_enter Try.func7, Try.ntmps7
  go_wp2_with (first | ((with_reducible refine gate_dst (N := 1) rfl ?_); refine be_ (N := 1) #[.int .i64 a0_0, .int .i64 a0_1, .int .i64 a0_2, .int .i64 a0_3, .slice A0_4 l0_4.length c0_4] 25 ?_; intro gb215 hg w10 hbox hb; have BK215 := Aside0.mk (hbox); have GW215 := ge_ hg; have GE215 := ge_ hg; replace HB := nb_ hb; clear hb hbox hg; obtain ⟨hcz11_0, hcz11_1, hcz11_2, hcz11_3, hcz11_4, hfz11_0, hfz11_1, hfz11_2, hfz11_3, hfz11_4⟩ := cf5_ BK215.out) | ((with_reducible refine gate_callee (f := 31) rfl ?_); refine gl_ 5 Try.func31 #[.agg #[.int .i64 a0_0, .int .i64 a0_1, .int .i64 a0_2, .int .i64 a0_3, .slice A0_4 l0_4.length c0_4]] rfl ma_ ?_; (with_reducible refine (spec_GoodBatch.calls k a0_0 a0_1 a0_2 a0_3 _ _ l0_4 false _ ?side1 ?side2 A2.out).mono ?_); (case side1 => exact cs_ ((Kd.C_below HR0_4.out HB.out))); (case side2 => exact HC0_4.out); rintro e w12 ⟨rfl, hb⟩; refine ⟨_, rfl, ?_⟩; replace BK215 := bK_ BK215 hb; replace HB := nc_ GE215 hb; (try clear hb); (try clear hb2); (try clear hk); (try clear hi)))
  go_ret2
  exact ⟨er_, hs_ GE215.out⟩
 replace H := bnd_ H
 obtain ⟨t217, A4, H⟩ := H
 simp only [Option.some.injEq, Prod.mk.injEq] at H
 obtain ⟨rfl, rfl⟩ := H
 go_enter Try.func7, Try.ntmps7
 go_wp2_with (first | ((with_reducible refine gate_dst (N := 1) rfl ?_); refine be_ (N := 1) #[.int .i64 a0_0, .int .i64 a0_1, .int .i64 a0_2, .int .i64 a0_3, .slice A0_4 l0_4.length c0_4] 25 ?_; intro gb215 hg w5 hbox hb; have BK215 := Aside0.mk (hbox); have GW215 := ge_ hg; have GE215 := ge_ hg; replace HB := nb_ hb; clear hb hbox hg; obtain ⟨hcz6_0, hcz6_1, hcz6_2, hcz6_3, hcz6_4, hfz6_0, hfz6_1, hfz6_2, hfz6_3, hfz6_4⟩ := cf5_ BK215.out) | ((with_reducible refine gate_callee (f := 31) rfl ?_); refine gl_ 5 Try.func31 #[.agg #[.int .i64 a0_0, .int .i64 a0_1, .int .i64 a0_2, .int .i64 a0_3, .slice A0_4 l0_4.length c0_4]] rfl ma_ ?_; (with_reducible refine (spec_GoodBatch.calls k a0_0 a0_1 a0_2 a0_3 _ _ l0_4 true _ ?side1 ?side2 A2.out).mono ?_); (case side1 => exact cs_ ((Kd.C_below HR0_4.out HB.out))); (case side2 => exact HC0_4.out); rintro e w7 ⟨rfl, hb⟩; refine ⟨_, rfl, ?_⟩; replace BK215 := bK_ BK215 hb; replace HB := nc_ GE215 hb; (try clear hb); (try clear hb2); (try clear hk); (try clear hi); obtain ⟨hcz8_0, hcz8_1, hcz8_2, hcz8_3, hcz8_4, hfz8_0, hfz8_1, hfz8_2, hfz8_3, hfz8_4⟩ := cf5_ BK215.out) | ((with_reducible refine gate_callee (f := 32) rfl ?_); refine gl_ 8 Try.func32 #[.agg #[.int .i64 a0_0, .int .i64 a0_1, .int .i64 a0_2, .int .i64 a0_3, .slice A0_4 l0_4.length c0_4]] rfl ma_ ?_; (with_reducible refine (spec_l1Batch.calls k a0_0 a0_1 a0_2 a0_3 _ _ l0_4 t217 _ ?side1 ?side2 A4.out).mono ?_); (case side1 => exact cs_ ((Kd.C_below HR0_4.out HB.out))); (case side2 => exact HC0_4.out); rintro e w9 ⟨rfl, hb⟩; refine ⟨_, rfl, ?_⟩; replace BK215 := bK_ BK215 hb; replace HB := nc_ GE215 hb; (try clear hb); (try clear hb2); (try clear hk); (try clear hi)))
 go_ret2
 exact ⟨er_, hs_ GE215.out⟩

/-! ### impl_Batch_end: function 33 -/
def impl_Batch_end.f (a0_0 : Int) (a0_1 : Int) (a0_2 : Int) (a0_3 : Int) (l0_4 : List ByteArray) : Option (Int) := some (wrap64 (a0_0 + (l0_4.length : Int)))
set_option maxHeartbeats 8000000 in
set_option maxRecDepth 100000 in
theorem impl_Batch_end.calls (a0_0 : Int) (a0_1 : Int) (a0_2 : Int) (a0_3 : Int) (A0_4 : Option Addr) (c0_4 : Nat) (l0_4 : List ByteArray) (r : Int) (w : World) (hr0_4 : Kd.C Kd.string w A0_4 l0_4.length l0_4) (hc0_4 : l0_4.length ≤ c0_4) (h : impl_Batch_end.f a0_0 a0_1 a0_2 a0_3 l0_4 = some r) :
  Calls Try.prog 33 #[.agg #[.int .i64 a0_0, .int .i64 a0_1, .int .i64 a0_2, .int .i64 a0_3, .slice A0_4 l0_4.length c0_4]] w fun e w' => e = .returned (.int .i64 r) ∧ Below w.heap.size w w' := by
 have hu25 := Try.underlying25
 have HR0_4 := Aside0.mk hr0_4
 have HC0_4 := Aside0.mk hc0_4
 clear hr0_4 hc0_4
 have HB := Aside0.mk (Below.refl w.heap.size w)
 have H : (some (wrap64 (a0_0 + (l0_4.length : Int)))) = some r := h
 clear h
 obtain rfl := Option.some.inj H
 go_enter Try.func33, Try.ntmps33
 go_wp2_with (first | ((with_reducible refine gate_dst (N := 1) rfl ?_); refine be_ (N := 1) #[.int .i64 a0_0, .int .i64 a0_1, .int .i64 a0_2, .int .i64 a0_3, .slice A0_4 l0_4.length c0_4] 25 ?_; intro gb218 hg w2 hbox hb; have BK218 := Aside0.mk (hbox); have GW218 := ge_ hg; have GE218 := ge_ hg; replace HB := nb_ hb; clear hb hbox hg; obtain ⟨hcz3_0, hcz3_1, hcz3_2, hcz3_3, hcz3_4, hfz3_0, hfz3_1, hfz3_2, hfz3_3, hfz3_4⟩ := cf5_ BK218.out))
 go_ret
 exact ⟨er_, hs_ GE218.out⟩

/-! ### impl_EndOf: function 8 -/
def impl_EndOf.f (a0_0 : Int) (a0_1 : Int) (a0_2 : Int) (a0_3 : Int) (l0_4 : List ByteArray) : Option (Int × Bool) := (impl_isBatch.f a0_0 a0_1 a0_2 a0_3 l0_4).bind fun t220 => (if t220 = true then ((impl_Batch_end.f a0_0 a0_1 a0_2 a0_3 l0_4).bind fun t221 => (some (t221, true))) else (some (0, false)))
set_option maxHeartbeats 8000000 in
set_option maxRecDepth 100000 in
theorem impl_EndOf.calls (a0_0 : Int) (a0_1 : Int) (a0_2 : Int) (a0_3 : Int) (A0_4 : Option Addr) (c0_4 : Nat) (l0_4 : List ByteArray) (r1 : Int) (r2 : Bool) (w : World) (hr0_4 : Kd.C Kd.string w A0_4 l0_4.length l0_4) (hc0_4 : l0_4.length ≤ c0_4) (h : impl_EndOf.f a0_0 a0_1 a0_2 a0_3 l0_4 = some (r1, r2)) :
  Calls Try.prog 8 #[.agg #[.int .i64 a0_0, .int .i64 a0_1, .int .i64 a0_2, .int .i64 a0_3, .slice A0_4 l0_4.length c0_4]] w fun e w' => e = .returned (.tuple #[.int .i64 r1, .bool r2]) ∧ Below w.heap.size w w' := by
 have hu25 := Try.underlying25
 have HR0_4 := Aside0.mk hr0_4
 have HC0_4 := Aside0.mk hc0_4
 clear hr0_4 hc0_4
 have HB := Aside0.mk (Below.refl w.heap.size w)
 have H : ((impl_isBatch.f a0_0 a0_1 a0_2 a0_3 l0_4).bind fun t220 => (if t220 = true then ((impl_Batch_end.f a0_0 a0_1 a0_2 a0_3 l0_4).bind fun t221 => (some (t221, true))) else (some (0, false)))) = some (r1, r2) := h
 clear h
 replace H := bnd_ H
 obtain ⟨t220, A2, H⟩ := H
 replace H := ifb_ H
 obtain ⟨rfl, H⟩ | ⟨rfl, H⟩ := H
 rotate_left
 ·simp only [Option.some.injEq, Prod.mk.injEq] at H
  obtain ⟨rfl, rfl⟩ := H
  go_enter Try.func8, Try.ntmps8
  go_wp2_with (first | ((with_reducible refine gate_dst (N := 1) rfl ?_); refine be_ (N := 1) #[.int .i64 a0_0, .int .i64 a0_1, .int .i64 a0_2, .int .i64 a0_3, .slice A0_4 l0_4.length c0_4] 25 ?_; intro gb219 hg w10 hbox hb; have BK219 := Aside0.mk (hbox); have GW219 := ge_ hg; have GE219 := ge_ hg; replace HB := nb_ hb; clear hb hbox hg; obtain ⟨hcz11_0, hcz11_1, hcz11_2, hcz11_3, hcz11_4, hfz11_0, hfz11_1, hfz11_2, hfz11_3, hfz11_4⟩ := cf5_ BK219.out) | ((with_reducible refine gate_callee (f := 29) rfl ?_); refine gl_ 5 Try.func29 #[.agg #[.int .i64 a0_0, .int .i64 a0_1, .int .i64 a0_2, .int .i64 a0_3, .slice A0_4 l0_4.length c0_4]] rfl ma_ ?_; (with_reducible refine (impl_isBatch.calls a0_0 a0_1 a0_2 a0_3 _ _ l0_4 false _ ?side1 ?side2 A2.out).mono ?_); (case side1 => exact cs_ ((Kd.C_below HR0_4.out HB.out))); (case side2 => exact HC0_4.out); rintro e w12 ⟨rfl, hb⟩; refine ⟨_, rfl, ?_⟩; replace BK219 := bK_ BK219 hb; replace HB := nc_ GE219 hb; (try clear hb); (try clear hb2); (try clear hk); (try clear hi)))
  go_ret2
  exact ⟨er_, hs_ GE219.out⟩
 replace H := bnd_ H
 obtain ⟨t221, A4, H⟩ := H
 simp only [Option.some.injEq, Prod.mk.injEq] at H
 obtain ⟨rfl, rfl⟩ := H
 go_enter Try.func8, Try.ntmps8
 go_wp2_with (first | ((with_reducible refine gate_dst (N := 1) rfl ?_); refine be_ (N := 1) #[.int .i64 a0_0, .int .i64 a0_1, .int .i64 a0_2, .int .i64 a0_3, .slice A0_4 l0_4.length c0_4] 25 ?_; intro gb219 hg w5 hbox hb; have BK219 := Aside0.mk (hbox); have GW219 := ge_ hg; have GE219 := ge_ hg; replace HB := nb_ hb; clear hb hbox hg; obtain ⟨hcz6_0, hcz6_1, hcz6_2, hcz6_3, hcz6_4, hfz6_0, hfz6_1, hfz6_2, hfz6_3, hfz6_4⟩ := cf5_ BK219.out) | ((with_reducible refine gate_callee (f := 29) rfl ?_); refine gl_ 5 Try.func29 #[.agg #[.int .i64 a0_0, .int .i64 a0_1, .int .i64 a0_2, .int .i64 a0_3, .slice A0_4 l0_4.length c0_4]] rfl ma_ ?_; (with_reducible refine (impl_isBatch.calls a0_0 a0_1 a0_2 a0_3 _ _ l0_4 true _ ?side1 ?side2 A2.out).mono ?_); (case side1 => exact cs_ ((Kd.C_below HR0_4.out HB.out))); (case side2 => exact HC0_4.out); rintro e w7 ⟨rfl, hb⟩; refine ⟨_, rfl, ?_⟩; replace BK219 := bK_ BK219 hb; replace HB := nc_ GE219 hb; (try clear hb); (try clear hb2); (try clear hk); (try clear hi); obtain ⟨hcz8_0, hcz8_1, hcz8_2, hcz8_3, hcz8_4, hfz8_0, hfz8_1, hfz8_2, hfz8_3, hfz8_4⟩ := cf5_ BK219.out) | ((with_reducible refine gate_callee (f := 33) rfl ?_); refine gl_ 8 Try.func33 #[.agg #[.int .i64 a0_0, .int .i64 a0_1, .int .i64 a0_2, .int .i64 a0_3, .slice A0_4 l0_4.length c0_4]] rfl ma_ ?_; (with_reducible refine (impl_Batch_end.calls a0_0 a0_1 a0_2 a0_3 _ _ l0_4 t221 _ ?side1 ?side2 A4.out).mono ?_); (case side1 => exact cs_ ((Kd.C_below HR0_4.out HB.out))); (case side2 => exact HC0_4.out); rintro e w9 ⟨rfl, hb⟩; refine ⟨_, rfl, ?_⟩; replace BK219 := bK_ BK219 hb; replace HB := nc_ GE219 hb; (try clear hb); (try clear hb2); (try clear hk); (try clear hi)))
 go_ret2
 exact ⟨er_, hs_ GE219.out⟩

/-! ### spec_EndOf: function 9 -/
def spec_EndOf.f (k : Nat) (a0_0 : Int) (a0_1 : Int) (a0_2 : Int) (a0_3 : Int) (l0_4 : List ByteArray) : Option (Int × Bool) := (spec_GoodBatch.f k a0_0 a0_1 a0_2 a0_3 l0_4).bind fun t223 => (if t223 = true then (some (wrap64 (a0_0 + (l0_4.length : Int)), true)) else (some (0, false)))
theorem spec_EndOf.mono : ∀ a0 a1 a2 a3 a4 k, LeO (spec_EndOf.f k a0 a1 a2 a3 a4) (spec_EndOf.f (k + 1) a0 a1 a2 a3 a4) := by
 intro a0 a1 a2 a3 a4 k
 unfold spec_EndOf.f
 repeat' first
   | (with_reducible exact spec_GoodBatch.mono _ _ _ _ _ _)
   | (with_reducible exact LeO.refl _)
   | (with_reducible exact LeO.none _)
   | (with_reducible refine LeO.ite ?_ ?_)
   | (with_reducible refine LeO.bind ?_ (fun _ => ?_))
   | exact spec_GoodBatch.mono _ _ _ _ _ _
   | exact LeO.none _
   | refine LeO.ite ?_ ?_
   | refine LeO.bind ?_ (fun _ => ?_)
set_option maxHeartbeats 8000000 in
set_option maxRecDepth 100000 in
theorem spec_EndOf.calls (k : Nat) (a0_0 : Int) (a0_1 : Int) (a0_2 : Int) (a0_3 : Int) (A0_4 : Option Addr) (c0_4 : Nat) (l0_4 : List ByteArray) (r1 : Int) (r2 : Bool) (w : World) (hr0_4 : Kd.C Kd.string w A0_4 l0_4.length l0_4) (hc0_4 : l0_4.length ≤ c0_4) (h : spec_EndOf.f k a0_0 a0_1 a0_2 a0_3 l0_4 = some (r1, r2)) :
  Calls Try.prog 9 #[.agg #[.int .i64 a0_0, .int .i64 a0_1, .int .i64 a0_2, .int .i64 a0_3, .slice A0_4 l0_4.length c0_4]] w fun e w' => e = .returned (.tuple #[.int .i64 r1, .bool r2]) ∧ Below w.heap.size w w' := by
 have hu25 := Try.underlying25
 have HR0_4 := Aside0.mk hr0_4
 have HC0_4 := Aside0.mk hc0_4
 clear hr0_4 hc0_4
 have HB := Aside0.mk (Below.refl w.heap.size w)
 have H : ((spec_GoodBatch.f k a0_0 a0_1 a0_2 a0_3 l0_4).bind fun t223 => (if t223 = true then (some (wrap64 (a0_0 + (l0_4.length : Int)), true)) else (some (0, false)))) = some (r1, r2) := h
 clear h
 replace H := bnd_ H
 obtain ⟨t223, A2, H⟩ := H
 replace H := ifb_ H
 obtain ⟨rfl, H⟩ | ⟨rfl, H⟩ := H
 rotate_left
 ·simp only [Option.some.injEq, Prod.mk.injEq] at H
  obtain ⟨rfl, rfl⟩ := H
  go_enter Try.func9, Try.ntmps9
  go_wp2_with (first | ((with_reducible refine gate_dst (N := 1) rfl ?_); refine be_ (N := 1) #[.int .i64 a0_0, .int .i64 a0_1, .int .i64 a0_2, .int .i64 a0_3, .slice A0_4 l0_4.length c0_4] 25 ?_; intro gb222 hg w8 hbox hb; have BK222 := Aside0.mk (hbox); have GW222 := ge_ hg; have GE222 := ge_ hg; replace HB := nb_ hb; clear hb hbox hg; obtain ⟨hcz9_0, hcz9_1, hcz9_2, hcz9_3, hcz9_4, hfz9_0, hfz9_1, hfz9_2, hfz9_3, hfz9_4⟩ := cf5_ BK222.out) | ((with_reducible refine gate_callee (f := 31) rfl ?_); refine gl_ 5 Try.func31 #[.agg #[.int .i64 a0_0, .int .i64 a0_1, .int .i64 a0_2, .int .i64 a0_3, .slice A0_4 l0_4.length c0_4]] rfl ma_ ?_; (with_reducible refine (spec_GoodBatch.calls k a0_0 a0_1 a0_2 a0_3 _ _ l0_4 false _ ?side1 ?side2 A2.out).mono ?_); (case side1 => exact cs_ ((Kd.C_below HR0_4.out HB.out))); (case side2 => exact HC0_4.out); rintro e w10 ⟨rfl, hb⟩; refine ⟨_, rfl, ?_⟩; replace BK222 := bK_ BK222 hb; replace HB := nc_ GE222 hb; (try clear hb); (try clear hb2); (try clear hk); (try clear hi)))
  go_ret2
  exact ⟨er_, hs_ GE222.out⟩
 simp only [Option.some.injEq, Prod.mk.injEq] at H
 obtain ⟨rfl, rfl⟩ := H
 go_enter Try.func9, Try.ntmps9
 go_wp2_with (first | ((with_reducible refine gate_dst (N := 1) rfl ?_); refine be_ (N := 1) #[.int .i64 a0_0, .int .i64 a0_1, .int .i64 a0_2, .int .i64 a0_3, .slice A0_4 l0_4.length c0_4] 25 ?_; intro gb222 hg w4 hbox hb; have BK222 := Aside0.mk (hbox); have GW222 := ge_ hg; have GE222 := ge_ hg; replace HB := nb_ hb; clear hb hbox hg; obtain ⟨hcz5_0, hcz5_1, hcz5_2, hcz5_3, hcz5_4, hfz5_0, hfz5_1, hfz5_2, hfz5_3, hfz5_4⟩ := cf5_ BK222.out) | ((with_reducible refine gate_callee (f := 31) rfl ?_); refine gl_ 5 Try.func31 #[.agg #[.int .i64 a0_0, .int .i64 a0_1, .int .i64 a0_2, .int .i64 a0_3, .slice A0_4 l0_4.length c0_4]] rfl ma_ ?_; (with_reducible refine (spec_GoodBatch.calls k a0_0 a0_1 a0_2 a0_3 _ _ l0_4 true _ ?side1 ?side2 A2.out).mono ?_); (case side1 => exact cs_ ((Kd.C_below HR0_4.out HB.out))); (case side2 => exact HC0_4.out); rintro e w6 ⟨rfl, hb⟩; refine ⟨_, rfl, ?_⟩; replace BK222 := bK_ BK222 hb; replace HB := nc_ GE222 hb; (try clear hb); (try clear hb2); (try clear hk); (try clear hi); obtain ⟨hcz7_0, hcz7_1, hcz7_2, hcz7_3, hcz7_4, hfz7_0, hfz7_1, hfz7_2, hfz7_3, hfz7_4⟩ := cf5_ BK222.out))
 go_ret2
 exact ⟨er_, hs_ GE222.out⟩

/-! ### impl_GoodBatch: function 10 -/
def impl_GoodBatch.f (a0_0 : Int) (a0_1 : Int) (a0_2 : Int) (a0_3 : Int) (l0_4 : List ByteArray) : Option (Bool) := (impl_isBatch.f a0_0 a0_1 a0_2 a0_3 l0_4).bind fun t225 => (some t225)
set_option maxHeartbeats 8000000 in
set_option maxRecDepth 100000 in
theorem impl_GoodBatch.calls (a0_0 : Int) (a0_1 : Int) (a0_2 : Int) (a0_3 : Int) (A0_4 : Option Addr) (c0_4 : Nat) (l0_4 : List ByteArray) (r : Bool) (w : World) (hr0_4 : Kd.C Kd.string w A0_4 l0_4.length l0_4) (hc0_4 : l0_4.length ≤ c0_4) (h : impl_GoodBatch.f a0_0 a0_1 a0_2 a0_3 l0_4 = some r) :
  Calls Try.prog 10 #[.agg #[.int .i64 a0_0, .int .i64 a0_1, .int .i64 a0_2, .int .i64 a0_3, .slice A0_4 l0_4.length c0_4]] w fun e w' => e = .returned (.bool r) ∧ Below w.heap.size w w' := by
 have hu25 := Try.underlying25
 have HR0_4 := Aside0.mk hr0_4
 have HC0_4 := Aside0.mk hc0_4
 clear hr0_4 hc0_4
 have HB := Aside0.mk (Below.refl w.heap.size w)
 have H : ((impl_isBatch.f a0_0 a0_1 a0_2 a0_3 l0_4).bind fun t225 => (some t225)) = some r := h
 clear h
 replace H := bnd_ H
 obtain ⟨t225, A2, H⟩ := H
 obtain rfl := Option.some.inj H
 go_enter Try.func10, Try.ntmps10
 go_wp2_with (first | ((with_reducible refine gate_dst (N := 1) rfl ?_); refine be_ (N := 1) #[.int .i64 a0_0, .int .i64 a0_1, .int .i64 a0_2, .int .i64 a0_3, .slice A0_4 l0_4.length c0_4] 25 ?_; intro gb224 hg w3 hbox hb; have BK224 := Aside0.mk (hbox); have GW224 := ge_ hg; have GE224 := ge_ hg; replace HB := nb_ hb; clear hb hbox hg; obtain ⟨hcz4_0, hcz4_1, hcz4_2, hcz4_3, hcz4_4, hfz4_0, hfz4_1, hfz4_2, hfz4_3, hfz4_4⟩ := cf5_ BK224.out) | ((with_reducible refine gate_callee (f := 29) rfl ?_); refine gl_ 4 Try.func29 #[.agg #[.int .i64 a0_0, .int .i64 a0_1, .int .i64 a0_2, .int .i64 a0_3, .slice A0_4 l0_4.length c0_4]] rfl ma_ ?_; (with_reducible refine (impl_isBatch.calls a0_0 a0_1 a0_2 a0_3 _ _ l0_4 t225 _ ?side1 ?side2 A2.out).mono ?_); (case side1 => exact cs_ ((Kd.C_below HR0_4.out HB.out))); (case side2 => exact HC0_4.out); rintro e w5 ⟨rfl, hb⟩; refine ⟨_, rfl, ?_⟩; replace BK224 := bK_ BK224 hb; replace HB := nc_ GE224 hb; (try clear hb); (try clear hb2); (try clear hk); (try clear hi)))
 go_ret
 exact ⟨er_, hs_ GE224.out⟩

end Go.Proofs.Ytjjhebkkpeapkaa.QFnBatches
