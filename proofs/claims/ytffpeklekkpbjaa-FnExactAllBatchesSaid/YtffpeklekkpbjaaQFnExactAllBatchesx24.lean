/- For each Go function that one statement reaches: a plain function with the same answers, and the proof that the call comes to them. Conditions: those that each contract names. Written by a program of this repository. -/
import Derived.Test.YtffpeklekkpbjaaVAllBatchesa
import Derived.Test.YtffpeklekkpbjaaQFnExactAllBatchesx0
import Derived.Test.YtffpeklekkpbjaaQFnExactAllBatchesx3
namespace Go.Proofs.Ytffpeklekkpbjaa.QFnExactAllBatches
open Go.RowKit Go.Proofs.YtffpeklekkpbjaaW.PrintWords Go.Proofs.YtffpeklekkpbjaaW.PrintLast Go.Proofs.YtffpeklekkpbjaaW.PrintMore
attribute [local go_sem] max2_int min2_int max_two min_two max_three min_three max_four min_four Go.Proofs.YtffpeklekkpbjaaW.PrintMore2.isSome_setCell   -- for this text's walks alone
set_option linter.unusedVariables false
set_option linter.unusedSimpArgs false

/-! ### laws_heldStringS: function 79 -/
def laws_heldStringS.l0 : Nat → List ByteArray → Int → Int → Option (Int)
 | 0, _, _, _ => none
 | k + 1, x0, x1, x5 => if x5 < (x0.length : Int) then (if 0 ≤ x5 then ((laws_markText.f k x1).bind fun t435 => (if (rdOf ByteArray.empty x0 x5).toList = t435.toList then (laws_heldStringS.l0 k x0 (wrap64 (x1 + 1)) (wrap64 (x5 + 1))) else (some (-1)))) else (none)) else (some x1)
def laws_heldStringS.f (k : Nat) (l0 : List ByteArray) (a1 : Int) : Option (Int) := laws_heldStringS.l0 k l0 a1 0
theorem laws_heldStringS.mono_l : ∀ k, (∀ y0 y1 y2, LeO (laws_heldStringS.l0 k y0 y1 y2) (laws_heldStringS.l0 (k + 1) y0 y1 y2))
 | 0 => fun _ _ _ r h => by simp [laws_heldStringS.l0] at h
 | k + 1 => by
  have ih0 := laws_heldStringS.mono_l k
  ·intro y0 y1 y2
   unfold laws_heldStringS.l0
   repeat' first
   | (with_reducible first | exact ih0 _ _ _ | exact laws_markText.mono _ _ | exact LeO.refl _ | exact LeO.none _ | refine LeO.ite ?_ ?_ | refine LeO.bind ?_ (fun _ => ?_)) | exact ih0 _ _ _ | exact laws_markText.mono _ _ | exact LeO.none _ | refine LeO.ite ?_ ?_ | refine LeO.bind ?_ (fun _ => ?_)
theorem laws_heldStringS.mono : ∀ a0 a1 k, LeO (laws_heldStringS.f k a0 a1) (laws_heldStringS.f (k + 1) a0 a1) := by
 intro a0 a1 k
 have ih0 := laws_heldStringS.mono_l k
 unfold laws_heldStringS.f
 repeat' first
   | (with_reducible first | exact ih0 _ _ _ | exact laws_markText.mono _ _ | exact LeO.refl _ | exact LeO.none _ | refine LeO.ite ?_ ?_ | refine LeO.bind ?_ (fun _ => ?_)) | exact ih0 _ _ _ | exact laws_markText.mono _ _ | exact LeO.none _ | refine LeO.ite ?_ ?_ | refine LeO.bind ?_ (fun _ => ?_)
set_option maxHeartbeats 8000000 in
set_option maxRecDepth 100000 in
theorem laws_heldStringS.calls (k : Nat) (A0 : Option Addr) (c0 : Nat) (l0 : List ByteArray) (a1 : Int) (r : Int) (w : World) (hr0 : Kd.C Kd.string w A0 l0.length l0) (hc0 : l0.length ≤ c0) (h : laws_heldStringS.f k l0 a1 = some r) :
  Calls Try.prog 79 #[.slice A0 l0.length c0, .int .i64 a1] w fun e w' => e = .returned (.int .i64 r) ∧ Below w.heap.size w w' := by
 have HR0 := Aside0.mk hr0
 have HC0 := Aside0.mk hc0
 clear hr0 hc0
 have HB := Aside0.mk (Below.refl w.heap.size w)
 have H : (laws_heldStringS.l0 k l0 a1 0) = some r := h
 clear h
 have H' := Aside0.mk H
 clear H
 go_enter Try.func79, Try.ntmps79
 go_wp2
 go_loopg [1, 5] k (fun kq v1 v5 w' => ∃ (x1_1 : Int) (x5_1 : Int), v1 = .int .i64 x1_1 ∧ v5 = .int .i64 x5_1 ∧ Aside0 (laws_heldStringS.l0 kq l0 x1_1 x5_1 = some r) ∧ Aside0 (kq ≤ k) ∧ Aside0 (Below w.heap.size w w'))
 case atStart => exact ⟨(a1), (0), sr_, sr_, H', ⟨Nat.le_refl _⟩, ⟨hb_⟩⟩
 case round =>
  clear H'
  try clear p2
  obtain ⟨x1_1, x5_1, rfl, rfl, HA, HK1, HB⟩ := hrel
  cases gk with
  | zero => exact absurd HA.out (by simp [laws_heldStringS.l0])
  | succ k1 =>
   have H := HA.out
   clear HA
   simp only [laws_heldStringS.l0] at H
   replace H := ite_ H
   obtain ⟨c3, H⟩ | ⟨c3, H⟩ := H
   rotate_left
   ·have c3b0 := decide_eq_false c3
    clear c3
    obtain rfl := Option.some.inj H
    go_wp2
    go_ret
    exact ⟨er_, hb_⟩
   have c3b0 := decide_eq_true c3
   clear c3
   replace H := ifs_ H
   obtain ⟨c4, H⟩ := H
   have c4b0 := decide_eq_true c4
   clear c4
   replace H := bnd_ H
   obtain ⟨t435, A5, H⟩ := H
   replace H := ite_ H
   obtain ⟨c6, H⟩ | ⟨c6, H⟩ := H
   rotate_left
   ·have c6b0 : ((rdOf ByteArray.empty l0 x5_1).toList == t435.toList) = false := beq_eq_false_iff_ne.mpr c6
    have c6b1 : ((rdOf ByteArray.empty l0 x5_1).toList != t435.toList) = true := bne_iff_ne.mpr c6
    obtain rfl := Option.some.inj H
    try go_wp2
    replace HB := qH_ HB
    have p434 : 0 ≤ (x5_1 : Int) := oa_
    have q434 : x5_1 < (l0.length : Int) := oa_
    obtain ⟨ad434, e434, hx434_0⟩ := Kd.at_string HR0.out x5_1 p434 q434
    have hw434_0 := hx434_0
    cases e434
    replace hx434_0 := pc_ HB.out hx434_0
    replace p434 := eq_true p434
    replace q434 := eq_true q434
    refine start_ (n := 7) (S := fun w' => w'.cell? (ad434.add (x5_1).toNat) = some (.string (rdOf ByteArray.empty l0 x5_1))) (ds := []) #[false, false, false, false, false, false, false] (by kernel_rfl) rfl rfl ((pc_ HB.out hw434_0)) (fun hHeld => ?_)
    generalize wr.drew = w9 at HB hx434_0 hHeld ⊢
    refine pure_ (i := 0) (N := some 12) (v := ?_) (a' := ?_) #[true, false, false, false, false, false, false] rfl rfl (by kernel_rfl) (fun _ _ _ h => h) (Or.inl ⟨by rfl, ?_⟩) ?_ ?_
    rotate_left
    ·intro w'
     go_simp
     with_reducible rfl
    rotate_left
    ·simp only [Act.put, List.setIfInBounds_toArray, List.set_cons_zero, List.set_cons_succ, i64_w, i32_w]
     rfl
    refine pure_ (i := 1) (N := some 13) (v := ?_) (a' := ?_) #[true, true, false, false, false, false, false] rfl rfl (by kernel_rfl) (fun _ _ _ h => h) (Or.inl ⟨by rfl, ?_⟩) ?_ ?_
    rotate_left
    ·intro w'
     go_simp
     with_reducible rfl
    rotate_left
    ·simp only [Act.put, List.setIfInBounds_toArray, List.set_cons_zero, List.set_cons_succ, i64_w, i32_w]
     rfl
    refine pure_ (i := 2) (N := some 14) (v := ?_) (a' := ?_) #[true, true, true, false, false, false, false] rfl rfl (by kernel_rfl) (fun _ _ _ h => h) (Or.inl ⟨by rfl, ?_⟩) ?_ ?_
    rotate_left
    ·intro w'
     go_simp
     with_reducible rfl
    rotate_left
    ·simp only [Act.put, List.setIfInBounds_toArray, List.set_cons_zero, List.set_cons_succ, i64_w, i32_w]
     rfl
    refine pure_ (i := 4) (N := some 16) (v := ?_) (a' := ?_) #[true, true, true, false, true, false, false] rfl rfl (by kernel_rfl) (fun _ _ _ h => h) (Or.inl ⟨by rfl, ?_⟩) ?_ ?_
    rotate_left
    ·intro w'
     go_simp
     with_reducible rfl
    rotate_left
    ·simp only [Act.put, List.setIfInBounds_toArray, List.set_cons_zero, List.set_cons_succ, i64_w, i32_w]
     rfl
    refine take_ (i := 3) (N := some 15) (v := ?_) (a' := ?_) #[true, true, true, true, true, false, false] rfl rfl (by kernel_rfl) (fun _ _ _ h => h) (Or.inl ⟨by rfl, ?_⟩) hHeld ?_ ?_
    rotate_left
    ·intro w' s0
     go_simp
     with_reducible rfl
    rotate_left
    ·simp only [Act.put, List.setIfInBounds_toArray, List.set_cons_zero, List.set_cons_succ, i64_w, i32_w]
     rfl
    refine one_ (i := 5) (N := some 17) #[true, true, true, true, true, true, false] rfl rfl (by kernel_rfl) (by decide) (fun K hK => ?_)
    refine gs_ Try.func85 #[.int .i64 x1_1] rfl ma_ ?_
    with_reducible refine (laws_markText.calls k1 x1_1 t435 _ A5.out).mono ?_
    rintro e w10 ⟨rfl, hb⟩
    refine ⟨_, rfl, ?_⟩
    replace HB := nb_ hb
    (try clear hb)
    (try clear hb2)
    (try clear hk)
    (try clear hi)
    refine hK.out _ _ ((pc_ HB.out hw434_0)) (fun hHeld => ?_)
    clear hK K
    refine no_ ?_
    refine pure_ (i := 6) (N := some 18) (v := ?_) (a' := ?_) #[true, true, true, true, true, true, true] rfl rfl (by kernel_rfl) (fun _ _ _ h => h) (Or.inl ⟨by rfl, ?_⟩) ?_ ?_
    rotate_left
    ·intro w'
     go_simp
     with_reducible rfl
    rotate_left
    ·simp only [Act.put, List.setIfInBounds_toArray, List.set_cons_zero, List.set_cons_succ, i64_w, i32_w]
     rfl
    refine done_ (by kernel_rfl) ?_
    try go_wp2
    go_ret
    exact ⟨er_, hb_⟩
   have c6b0 : ((rdOf ByteArray.empty l0 x5_1).toList == t435.toList) = true := beq_iff_eq.mpr c6
   have c6b1 : ((rdOf ByteArray.empty l0 x5_1).toList != t435.toList) = false := bne_eq_false_iff_eq.mpr c6
   clear c6
   have H' := Aside0.mk H
   clear H
   try go_wp2
   replace HB := qH_ HB
   have p434 : 0 ≤ (x5_1 : Int) := oa_
   have q434 : x5_1 < (l0.length : Int) := oa_
   obtain ⟨ad434, e434, hx434_0⟩ := Kd.at_string HR0.out x5_1 p434 q434
   have hw434_0 := hx434_0
   cases e434
   replace hx434_0 := pc_ HB.out hx434_0
   replace p434 := eq_true p434
   replace q434 := eq_true q434
   refine start_ (n := 7) (S := fun w' => w'.cell? (ad434.add (x5_1).toNat) = some (.string (rdOf ByteArray.empty l0 x5_1))) (ds := []) #[false, false, false, false, false, false, false] (by kernel_rfl) rfl rfl ((pc_ HB.out hw434_0)) (fun hHeld => ?_)
   generalize wr.drew = w7 at HB hx434_0 hHeld ⊢
   refine pure_ (i := 0) (N := some 12) (v := ?_) (a' := ?_) #[true, false, false, false, false, false, false] rfl rfl (by kernel_rfl) (fun _ _ _ h => h) (Or.inl ⟨by rfl, ?_⟩) ?_ ?_
   rotate_left
   ·intro w'
    go_simp
    with_reducible rfl
   rotate_left
   ·simp only [Act.put, List.setIfInBounds_toArray, List.set_cons_zero, List.set_cons_succ, i64_w, i32_w]
    rfl
   refine pure_ (i := 1) (N := some 13) (v := ?_) (a' := ?_) #[true, true, false, false, false, false, false] rfl rfl (by kernel_rfl) (fun _ _ _ h => h) (Or.inl ⟨by rfl, ?_⟩) ?_ ?_
   rotate_left
   ·intro w'
    go_simp
    with_reducible rfl
   rotate_left
   ·simp only [Act.put, List.setIfInBounds_toArray, List.set_cons_zero, List.set_cons_succ, i64_w, i32_w]
    rfl
   refine pure_ (i := 2) (N := some 14) (v := ?_) (a' := ?_) #[true, true, true, false, false, false, false] rfl rfl (by kernel_rfl) (fun _ _ _ h => h) (Or.inl ⟨by rfl, ?_⟩) ?_ ?_
   rotate_left
   ·intro w'
    go_simp
    with_reducible rfl
   rotate_left
   ·simp only [Act.put, List.setIfInBounds_toArray, List.set_cons_zero, List.set_cons_succ, i64_w, i32_w]
    rfl
   refine pure_ (i := 4) (N := some 16) (v := ?_) (a' := ?_) #[true, true, true, false, true, false, false] rfl rfl (by kernel_rfl) (fun _ _ _ h => h) (Or.inl ⟨by rfl, ?_⟩) ?_ ?_
   rotate_left
   ·intro w'
    go_simp
    with_reducible rfl
   rotate_left
   ·simp only [Act.put, List.setIfInBounds_toArray, List.set_cons_zero, List.set_cons_succ, i64_w, i32_w]
    rfl
   refine take_ (i := 3) (N := some 15) (v := ?_) (a' := ?_) #[true, true, true, true, true, false, false] rfl rfl (by kernel_rfl) (fun _ _ _ h => h) (Or.inl ⟨by rfl, ?_⟩) hHeld ?_ ?_
   rotate_left
   ·intro w' s0
    go_simp
    with_reducible rfl
   rotate_left
   ·simp only [Act.put, List.setIfInBounds_toArray, List.set_cons_zero, List.set_cons_succ, i64_w, i32_w]
    rfl
   refine one_ (i := 5) (N := some 17) #[true, true, true, true, true, true, false] rfl rfl (by kernel_rfl) (by decide) (fun K hK => ?_)
   refine gs_ Try.func85 #[.int .i64 x1_1] rfl ma_ ?_
   with_reducible refine (laws_markText.calls k1 x1_1 t435 _ A5.out).mono ?_
   rintro e w8 ⟨rfl, hb⟩
   refine ⟨_, rfl, ?_⟩
   replace HB := nb_ hb
   (try clear hb)
   (try clear hb2)
   (try clear hk)
   (try clear hi)
   refine hK.out _ _ ((pc_ HB.out hw434_0)) (fun hHeld => ?_)
   clear hK K
   refine no_ ?_
   refine pure_ (i := 6) (N := some 18) (v := ?_) (a' := ?_) #[true, true, true, true, true, true, true] rfl rfl (by kernel_rfl) (fun _ _ _ h => h) (Or.inl ⟨by rfl, ?_⟩) ?_ ?_
   rotate_left
   ·intro w'
    go_simp
    with_reducible rfl
   rotate_left
   ·simp only [Act.put, List.setIfInBounds_toArray, List.set_cons_zero, List.set_cons_succ, i64_w, i32_w]
    rfl
   refine done_ (by kernel_rfl) ?_
   try go_wp2
   go_roundg k1
   case measure => have := HK1.out; omega
   case rel => exact ⟨(wrap64 (x1_1 + 1)), (wrap64 (x5_1 + 1)), sr_, sr_, H', ⟨by have := HK1.out; omega⟩, ⟨hb_⟩⟩

/-! ### laws_heldBatchS: function 38 -/
def laws_heldBatchS.l0 : Nat → List (S43) → Int → Int → Option (Int)
 | 0, _, _, _ => none
 | k + 1, x0, x1, x5 => if x5 < (x0.length : Int) then (if 0 ≤ x5 then (if ((rd_T43 x0 x5).f0) = x1 then (if ((rd_T43 x0 x5).f1) = (wrap64 (x1 + 1)) then (if ((rd_T43 x0 x5).f2) = (wrap64 ((wrap64 (x1 + 1)) + 1)) then (if ((rd_T43 x0 x5).f3) = (wrap64 ((wrap64 ((wrap64 (x1 + 1)) + 1)) + 1)) then ((laws_heldStringS.f k ((rd_T43 x0 x5).f4) (wrap64 ((wrap64 ((wrap64 ((wrap64 (x1 + 1)) + 1)) + 1)) + 1))).bind fun t441 => (if t441 < 0 then (some (-1)) else (laws_heldBatchS.l0 k x0 t441 (wrap64 (x5 + 1))))) else (some (-1))) else (some (-1))) else (some (-1))) else (some (-1))) else (none)) else (some x1)
def laws_heldBatchS.f (k : Nat) (l0 : List (S43)) (a1 : Int) : Option (Int) := laws_heldBatchS.l0 k l0 a1 0
theorem laws_heldBatchS.mono_l : ∀ k, (∀ y0 y1 y2, LeO (laws_heldBatchS.l0 k y0 y1 y2) (laws_heldBatchS.l0 (k + 1) y0 y1 y2))
 | 0 => fun _ _ _ r h => by simp [laws_heldBatchS.l0] at h
 | k + 1 => by
  have ih0 := laws_heldBatchS.mono_l k
  ·intro y0 y1 y2
   unfold laws_heldBatchS.l0
   repeat' first
   | (with_reducible first | exact ih0 _ _ _ | exact laws_heldStringS.mono _ _ _ | exact LeO.refl _ | exact LeO.none _ | refine LeO.ite ?_ ?_ | refine LeO.bind ?_ (fun _ => ?_)) | exact ih0 _ _ _ | exact laws_heldStringS.mono _ _ _ | exact LeO.none _ | refine LeO.ite ?_ ?_ | refine LeO.bind ?_ (fun _ => ?_)
theorem laws_heldBatchS.mono : ∀ a0 a1 k, LeO (laws_heldBatchS.f k a0 a1) (laws_heldBatchS.f (k + 1) a0 a1) := by
 intro a0 a1 k
 have ih0 := laws_heldBatchS.mono_l k
 unfold laws_heldBatchS.f
 repeat' first
   | (with_reducible first | exact ih0 _ _ _ | exact laws_heldStringS.mono _ _ _ | exact LeO.refl _ | exact LeO.none _ | refine LeO.ite ?_ ?_ | refine LeO.bind ?_ (fun _ => ?_)) | exact ih0 _ _ _ | exact laws_heldStringS.mono _ _ _ | exact LeO.none _ | refine LeO.ite ?_ ?_ | refine LeO.bind ?_ (fun _ => ?_)
set_option maxHeartbeats 8000000 in
set_option maxRecDepth 100000 in
theorem laws_heldBatchS.calls (k : Nat) (A0 : Option Addr) (c0 : Nat) (l0 : List (S43)) (a1 : Int) (r : Int) (w : World) (hr0 : Kd.C k43 w A0 l0.length l0) (hc0 : l0.length ≤ c0) (h : laws_heldBatchS.f k l0 a1 = some r) :
  Calls Try.prog 38 #[.slice A0 l0.length c0, .int .i64 a1] w fun e w' => e = .returned (.int .i64 r) ∧ Below w.heap.size w w' := by
 have HR0 := Aside0.mk hr0
 have HC0 := Aside0.mk hc0
 clear hr0 hc0
 have HB := Aside0.mk (Below.refl w.heap.size w)
 have H : (laws_heldBatchS.l0 k l0 a1 0) = some r := h
 clear h
 have H' := Aside0.mk H
 clear H
 go_enter Try.func38, Try.ntmps38
 go_wp2
 go_loopg [1, 5] k (fun kq v1 v5 w' => ∃ (x1_1 : Int) (x5_1 : Int), v1 = .int .i64 x1_1 ∧ v5 = .int .i64 x5_1 ∧ Aside0 (laws_heldBatchS.l0 kq l0 x1_1 x5_1 = some r) ∧ Aside0 (kq ≤ k) ∧ Aside0 (Below w.heap.size w w'))
 case atStart => exact ⟨(a1), (0), sr_, sr_, H', ⟨Nat.le_refl _⟩, ⟨hb_⟩⟩
 case round =>
  clear H'
  try clear p2
  obtain ⟨x1_1, x5_1, rfl, rfl, HA, HK1, HB⟩ := hrel
  cases gk with
  | zero => exact absurd HA.out (by simp [laws_heldBatchS.l0])
  | succ k1 =>
   have H := HA.out
   clear HA
   simp only [laws_heldBatchS.l0] at H
   replace H := ite_ H
   obtain ⟨c3, H⟩ | ⟨c3, H⟩ := H
   rotate_left
   ·have c3b0 := decide_eq_false c3
    clear c3
    obtain rfl := Option.some.inj H
    go_wp2
    go_ret
    exact ⟨er_, hb_⟩
   have c3b0 := decide_eq_true c3
   clear c3
   replace H := ifs_ H
   obtain ⟨c4, H⟩ := H
   have c4b0 := decide_eq_true c4
   clear c4
   replace H := ite_ H
   obtain ⟨c5, H⟩ | ⟨c5, H⟩ := H
   rotate_left
   ·have c5b0 : (((rd_T43 l0 x5_1).f0) == x1_1) = false := beq_eq_false_iff_ne.mpr c5
    have c5b1 : (((rd_T43 l0 x5_1).f0) != x1_1) = true := bne_iff_ne.mpr c5
    obtain rfl := Option.some.inj H
    have p436 : 0 ≤ (x5_1 : Int) := oa_
    have q436 : x5_1 < (l0.length : Int) := oa_
    obtain ⟨ad436, A436_4, c436_4, e436, hx436_0, hx436_1, hx436_2, hx436_3, hx436_4, hl436_4, hi436_4⟩ := at_T43 HR0.out x5_1 p436 q436
    cases e436
    replace hx436_0 := pc_ HB.out hx436_0
    replace hx436_1 := pc_ HB.out hx436_1
    replace hx436_2 := pc_ HB.out hx436_2
    replace hx436_3 := pc_ HB.out hx436_3
    replace hx436_4 := pc_ HB.out hx436_4
    have HR436_4 := Aside0.mk hi436_4
    have HC436_4 := Aside0.mk hl436_4
    clear hi436_4 hl436_4
    replace p436 := eq_true p436
    replace q436 := eq_true q436
    go_wp2
    go_ret
    exact ⟨er_, hb_⟩
   have c5b0 : (((rd_T43 l0 x5_1).f0) == x1_1) = true := beq_iff_eq.mpr c5
   have c5b1 : (((rd_T43 l0 x5_1).f0) != x1_1) = false := bne_eq_false_iff_eq.mpr c5
   clear c5
   replace H := ite_ H
   obtain ⟨c6, H⟩ | ⟨c6, H⟩ := H
   rotate_left
   ·have c6b0 : (((rd_T43 l0 x5_1).f1) == (wrap64 (x1_1 + 1))) = false := beq_eq_false_iff_ne.mpr c6
    have c6b1 : (((rd_T43 l0 x5_1).f1) != (wrap64 (x1_1 + 1))) = true := bne_iff_ne.mpr c6
    obtain rfl := Option.some.inj H
    have p436 : 0 ≤ (x5_1 : Int) := oa_
    have q436 : x5_1 < (l0.length : Int) := oa_
    obtain ⟨ad436, A436_4, c436_4, e436, hx436_0, hx436_1, hx436_2, hx436_3, hx436_4, hl436_4, hi436_4⟩ := at_T43 HR0.out x5_1 p436 q436
    cases e436
    replace hx436_0 := pc_ HB.out hx436_0
    replace hx436_1 := pc_ HB.out hx436_1
    replace hx436_2 := pc_ HB.out hx436_2
    replace hx436_3 := pc_ HB.out hx436_3
    replace hx436_4 := pc_ HB.out hx436_4
    have HR436_4 := Aside0.mk hi436_4
    have HC436_4 := Aside0.mk hl436_4
    clear hi436_4 hl436_4
    replace p436 := eq_true p436
    replace q436 := eq_true q436
    have p437 : 0 ≤ (x5_1 : Int) := oa_
    have q437 : x5_1 < (l0.length : Int) := oa_
    obtain ⟨ad437, A437_4, c437_4, e437, hx437_0, hx437_1, hx437_2, hx437_3, hx437_4, hl437_4, hi437_4⟩ := at_T43 HR0.out x5_1 p437 q437
    obtain rfl : ad436 = ad437 := (by injection e437)
    replace hx437_0 := pc_ HB.out hx437_0
    replace hx437_1 := pc_ HB.out hx437_1
    replace hx437_2 := pc_ HB.out hx437_2
    replace hx437_3 := pc_ HB.out hx437_3
    replace hx437_4 := pc_ HB.out hx437_4
    have HR437_4 := Aside0.mk hi437_4
    have HC437_4 := Aside0.mk hl437_4
    clear hi437_4 hl437_4
    replace p437 := eq_true p437
    replace q437 := eq_true q437
    have ea_ := Option.some.inj (hx436_4.symm.trans hx437_4)
    injection ea_ with ea_ en_ ec_
    subst ea_
    subst ec_
    clear en_
    go_wp2
    go_ret
    exact ⟨er_, hb_⟩
   have c6b0 : (((rd_T43 l0 x5_1).f1) == (wrap64 (x1_1 + 1))) = true := beq_iff_eq.mpr c6
   have c6b1 : (((rd_T43 l0 x5_1).f1) != (wrap64 (x1_1 + 1))) = false := bne_eq_false_iff_eq.mpr c6
   clear c6
   replace H := ite_ H
   obtain ⟨c7, H⟩ | ⟨c7, H⟩ := H
   rotate_left
   ·have c7b0 : (((rd_T43 l0 x5_1).f2) == (wrap64 ((wrap64 (x1_1 + 1)) + 1))) = false := beq_eq_false_iff_ne.mpr c7
    have c7b1 : (((rd_T43 l0 x5_1).f2) != (wrap64 ((wrap64 (x1_1 + 1)) + 1))) = true := bne_iff_ne.mpr c7
    obtain rfl := Option.some.inj H
    have p436 : 0 ≤ (x5_1 : Int) := oa_
    have q436 : x5_1 < (l0.length : Int) := oa_
    obtain ⟨ad436, A436_4, c436_4, e436, hx436_0, hx436_1, hx436_2, hx436_3, hx436_4, hl436_4, hi436_4⟩ := at_T43 HR0.out x5_1 p436 q436
    cases e436
    replace hx436_0 := pc_ HB.out hx436_0
    replace hx436_1 := pc_ HB.out hx436_1
    replace hx436_2 := pc_ HB.out hx436_2
    replace hx436_3 := pc_ HB.out hx436_3
    replace hx436_4 := pc_ HB.out hx436_4
    have HR436_4 := Aside0.mk hi436_4
    have HC436_4 := Aside0.mk hl436_4
    clear hi436_4 hl436_4
    replace p436 := eq_true p436
    replace q436 := eq_true q436
    have p437 : 0 ≤ (x5_1 : Int) := oa_
    have q437 : x5_1 < (l0.length : Int) := oa_
    obtain ⟨ad437, A437_4, c437_4, e437, hx437_0, hx437_1, hx437_2, hx437_3, hx437_4, hl437_4, hi437_4⟩ := at_T43 HR0.out x5_1 p437 q437
    obtain rfl : ad436 = ad437 := (by injection e437)
    replace hx437_0 := pc_ HB.out hx437_0
    replace hx437_1 := pc_ HB.out hx437_1
    replace hx437_2 := pc_ HB.out hx437_2
    replace hx437_3 := pc_ HB.out hx437_3
    replace hx437_4 := pc_ HB.out hx437_4
    have HR437_4 := Aside0.mk hi437_4
    have HC437_4 := Aside0.mk hl437_4
    clear hi437_4 hl437_4
    replace p437 := eq_true p437
    replace q437 := eq_true q437
    have ea_ := Option.some.inj (hx436_4.symm.trans hx437_4)
    injection ea_ with ea_ en_ ec_
    subst ea_
    subst ec_
    clear en_
    have p438 : 0 ≤ (x5_1 : Int) := oa_
    have q438 : x5_1 < (l0.length : Int) := oa_
    obtain ⟨ad438, A438_4, c438_4, e438, hx438_0, hx438_1, hx438_2, hx438_3, hx438_4, hl438_4, hi438_4⟩ := at_T43 HR0.out x5_1 p438 q438
    obtain rfl : ad436 = ad438 := (by injection e438)
    replace hx438_0 := pc_ HB.out hx438_0
    replace hx438_1 := pc_ HB.out hx438_1
    replace hx438_2 := pc_ HB.out hx438_2
    replace hx438_3 := pc_ HB.out hx438_3
    replace hx438_4 := pc_ HB.out hx438_4
    have HR438_4 := Aside0.mk hi438_4
    have HC438_4 := Aside0.mk hl438_4
    clear hi438_4 hl438_4
    replace p438 := eq_true p438
    replace q438 := eq_true q438
    have ea_ := Option.some.inj (hx436_4.symm.trans hx438_4)
    injection ea_ with ea_ en_ ec_
    subst ea_
    subst ec_
    clear en_
    go_wp2
    go_ret
    exact ⟨er_, hb_⟩
   have c7b0 : (((rd_T43 l0 x5_1).f2) == (wrap64 ((wrap64 (x1_1 + 1)) + 1))) = true := beq_iff_eq.mpr c7
   have c7b1 : (((rd_T43 l0 x5_1).f2) != (wrap64 ((wrap64 (x1_1 + 1)) + 1))) = false := bne_eq_false_iff_eq.mpr c7
   clear c7
   replace H := ite_ H
   obtain ⟨c8, H⟩ | ⟨c8, H⟩ := H
   rotate_left
   ·have c8b0 : (((rd_T43 l0 x5_1).f3) == (wrap64 ((wrap64 ((wrap64 (x1_1 + 1)) + 1)) + 1))) = false := beq_eq_false_iff_ne.mpr c8
    have c8b1 : (((rd_T43 l0 x5_1).f3) != (wrap64 ((wrap64 ((wrap64 (x1_1 + 1)) + 1)) + 1))) = true := bne_iff_ne.mpr c8
    obtain rfl := Option.some.inj H
    have p436 : 0 ≤ (x5_1 : Int) := oa_
    have q436 : x5_1 < (l0.length : Int) := oa_
    obtain ⟨ad436, A436_4, c436_4, e436, hx436_0, hx436_1, hx436_2, hx436_3, hx436_4, hl436_4, hi436_4⟩ := at_T43 HR0.out x5_1 p436 q436
    cases e436
    replace hx436_0 := pc_ HB.out hx436_0
    replace hx436_1 := pc_ HB.out hx436_1
    replace hx436_2 := pc_ HB.out hx436_2
    replace hx436_3 := pc_ HB.out hx436_3
    replace hx436_4 := pc_ HB.out hx436_4
    have HR436_4 := Aside0.mk hi436_4
    have HC436_4 := Aside0.mk hl436_4
    clear hi436_4 hl436_4
    replace p436 := eq_true p436
    replace q436 := eq_true q436
    have p437 : 0 ≤ (x5_1 : Int) := oa_
    have q437 : x5_1 < (l0.length : Int) := oa_
    obtain ⟨ad437, A437_4, c437_4, e437, hx437_0, hx437_1, hx437_2, hx437_3, hx437_4, hl437_4, hi437_4⟩ := at_T43 HR0.out x5_1 p437 q437
    obtain rfl : ad436 = ad437 := (by injection e437)
    replace hx437_0 := pc_ HB.out hx437_0
    replace hx437_1 := pc_ HB.out hx437_1
    replace hx437_2 := pc_ HB.out hx437_2
    replace hx437_3 := pc_ HB.out hx437_3
    replace hx437_4 := pc_ HB.out hx437_4
    have HR437_4 := Aside0.mk hi437_4
    have HC437_4 := Aside0.mk hl437_4
    clear hi437_4 hl437_4
    replace p437 := eq_true p437
    replace q437 := eq_true q437
    have ea_ := Option.some.inj (hx436_4.symm.trans hx437_4)
    injection ea_ with ea_ en_ ec_
    subst ea_
    subst ec_
    clear en_
    have p438 : 0 ≤ (x5_1 : Int) := oa_
    have q438 : x5_1 < (l0.length : Int) := oa_
    obtain ⟨ad438, A438_4, c438_4, e438, hx438_0, hx438_1, hx438_2, hx438_3, hx438_4, hl438_4, hi438_4⟩ := at_T43 HR0.out x5_1 p438 q438
    obtain rfl : ad436 = ad438 := (by injection e438)
    replace hx438_0 := pc_ HB.out hx438_0
    replace hx438_1 := pc_ HB.out hx438_1
    replace hx438_2 := pc_ HB.out hx438_2
    replace hx438_3 := pc_ HB.out hx438_3
    replace hx438_4 := pc_ HB.out hx438_4
    have HR438_4 := Aside0.mk hi438_4
    have HC438_4 := Aside0.mk hl438_4
    clear hi438_4 hl438_4
    replace p438 := eq_true p438
    replace q438 := eq_true q438
    have ea_ := Option.some.inj (hx436_4.symm.trans hx438_4)
    injection ea_ with ea_ en_ ec_
    subst ea_
    subst ec_
    clear en_
    have p439 : 0 ≤ (x5_1 : Int) := oa_
    have q439 : x5_1 < (l0.length : Int) := oa_
    obtain ⟨ad439, A439_4, c439_4, e439, hx439_0, hx439_1, hx439_2, hx439_3, hx439_4, hl439_4, hi439_4⟩ := at_T43 HR0.out x5_1 p439 q439
    obtain rfl : ad436 = ad439 := (by injection e439)
    replace hx439_0 := pc_ HB.out hx439_0
    replace hx439_1 := pc_ HB.out hx439_1
    replace hx439_2 := pc_ HB.out hx439_2
    replace hx439_3 := pc_ HB.out hx439_3
    replace hx439_4 := pc_ HB.out hx439_4
    have HR439_4 := Aside0.mk hi439_4
    have HC439_4 := Aside0.mk hl439_4
    clear hi439_4 hl439_4
    replace p439 := eq_true p439
    replace q439 := eq_true q439
    have ea_ := Option.some.inj (hx436_4.symm.trans hx439_4)
    injection ea_ with ea_ en_ ec_
    subst ea_
    subst ec_
    clear en_
    go_wp2
    go_ret
    exact ⟨er_, hb_⟩
   have c8b0 : (((rd_T43 l0 x5_1).f3) == (wrap64 ((wrap64 ((wrap64 (x1_1 + 1)) + 1)) + 1))) = true := beq_iff_eq.mpr c8
   have c8b1 : (((rd_T43 l0 x5_1).f3) != (wrap64 ((wrap64 ((wrap64 (x1_1 + 1)) + 1)) + 1))) = false := bne_eq_false_iff_eq.mpr c8
   clear c8
   replace H := bnd_ H
   obtain ⟨t441, A9, H⟩ := H
   replace H := ite_ H
   obtain ⟨c10, H⟩ | ⟨c10, H⟩ := H
   ·have c10b0 := decide_eq_true c10
    clear c10
    obtain rfl := Option.some.inj H
    have p436 : 0 ≤ (x5_1 : Int) := oa_
    have q436 : x5_1 < (l0.length : Int) := oa_
    obtain ⟨ad436, A436_4, c436_4, e436, hx436_0, hx436_1, hx436_2, hx436_3, hx436_4, hl436_4, hi436_4⟩ := at_T43 HR0.out x5_1 p436 q436
    cases e436
    replace hx436_0 := pc_ HB.out hx436_0
    replace hx436_1 := pc_ HB.out hx436_1
    replace hx436_2 := pc_ HB.out hx436_2
    replace hx436_3 := pc_ HB.out hx436_3
    replace hx436_4 := pc_ HB.out hx436_4
    have HR436_4 := Aside0.mk hi436_4
    have HC436_4 := Aside0.mk hl436_4
    clear hi436_4 hl436_4
    replace p436 := eq_true p436
    replace q436 := eq_true q436
    have p437 : 0 ≤ (x5_1 : Int) := oa_
    have q437 : x5_1 < (l0.length : Int) := oa_
    obtain ⟨ad437, A437_4, c437_4, e437, hx437_0, hx437_1, hx437_2, hx437_3, hx437_4, hl437_4, hi437_4⟩ := at_T43 HR0.out x5_1 p437 q437
    obtain rfl : ad436 = ad437 := (by injection e437)
    replace hx437_0 := pc_ HB.out hx437_0
    replace hx437_1 := pc_ HB.out hx437_1
    replace hx437_2 := pc_ HB.out hx437_2
    replace hx437_3 := pc_ HB.out hx437_3
    replace hx437_4 := pc_ HB.out hx437_4
    have HR437_4 := Aside0.mk hi437_4
    have HC437_4 := Aside0.mk hl437_4
    clear hi437_4 hl437_4
    replace p437 := eq_true p437
    replace q437 := eq_true q437
    have ea_ := Option.some.inj (hx436_4.symm.trans hx437_4)
    injection ea_ with ea_ en_ ec_
    subst ea_
    subst ec_
    clear en_
    have p438 : 0 ≤ (x5_1 : Int) := oa_
    have q438 : x5_1 < (l0.length : Int) := oa_
    obtain ⟨ad438, A438_4, c438_4, e438, hx438_0, hx438_1, hx438_2, hx438_3, hx438_4, hl438_4, hi438_4⟩ := at_T43 HR0.out x5_1 p438 q438
    obtain rfl : ad436 = ad438 := (by injection e438)
    replace hx438_0 := pc_ HB.out hx438_0
    replace hx438_1 := pc_ HB.out hx438_1
    replace hx438_2 := pc_ HB.out hx438_2
    replace hx438_3 := pc_ HB.out hx438_3
    replace hx438_4 := pc_ HB.out hx438_4
    have HR438_4 := Aside0.mk hi438_4
    have HC438_4 := Aside0.mk hl438_4
    clear hi438_4 hl438_4
    replace p438 := eq_true p438
    replace q438 := eq_true q438
    have ea_ := Option.some.inj (hx436_4.symm.trans hx438_4)
    injection ea_ with ea_ en_ ec_
    subst ea_
    subst ec_
    clear en_
    have p439 : 0 ≤ (x5_1 : Int) := oa_
    have q439 : x5_1 < (l0.length : Int) := oa_
    obtain ⟨ad439, A439_4, c439_4, e439, hx439_0, hx439_1, hx439_2, hx439_3, hx439_4, hl439_4, hi439_4⟩ := at_T43 HR0.out x5_1 p439 q439
    obtain rfl : ad436 = ad439 := (by injection e439)
    replace hx439_0 := pc_ HB.out hx439_0
    replace hx439_1 := pc_ HB.out hx439_1
    replace hx439_2 := pc_ HB.out hx439_2
    replace hx439_3 := pc_ HB.out hx439_3
    replace hx439_4 := pc_ HB.out hx439_4
    have HR439_4 := Aside0.mk hi439_4
    have HC439_4 := Aside0.mk hl439_4
    clear hi439_4 hl439_4
    replace p439 := eq_true p439
    replace q439 := eq_true q439
    have ea_ := Option.some.inj (hx436_4.symm.trans hx439_4)
    injection ea_ with ea_ en_ ec_
    subst ea_
    subst ec_
    clear en_
    have p440 : 0 ≤ (x5_1 : Int) := oa_
    have q440 : x5_1 < (l0.length : Int) := oa_
    obtain ⟨ad440, A440_4, c440_4, e440, hx440_0, hx440_1, hx440_2, hx440_3, hx440_4, hl440_4, hi440_4⟩ := at_T43 HR0.out x5_1 p440 q440
    obtain rfl : ad436 = ad440 := (by injection e440)
    replace hx440_0 := pc_ HB.out hx440_0
    replace hx440_1 := pc_ HB.out hx440_1
    replace hx440_2 := pc_ HB.out hx440_2
    replace hx440_3 := pc_ HB.out hx440_3
    replace hx440_4 := pc_ HB.out hx440_4
    have HR440_4 := Aside0.mk hi440_4
    have HC440_4 := Aside0.mk hl440_4
    clear hi440_4 hl440_4
    replace p440 := eq_true p440
    replace q440 := eq_true q440
    have ea_ := Option.some.inj (hx436_4.symm.trans hx440_4)
    injection ea_ with ea_ en_ ec_
    subst ea_
    subst ec_
    clear en_
    go_wp2_with (first | ((with_reducible refine gate_callee (f := 79) rfl ?_); refine gl_ 54 Try.func79 #[.slice A436_4 ((rd_T43 l0 x5_1).f4).length c436_4, .int .i64 (wrap64 ((wrap64 ((wrap64 ((wrap64 (x1_1 + 1)) + 1)) + 1)) + 1))] rfl ma_ ?_; (with_reducible refine (laws_heldStringS.calls k1 _ _ ((rd_T43 l0 x5_1).f4) (wrap64 ((wrap64 ((wrap64 ((wrap64 (x1_1 + 1)) + 1)) + 1)) + 1)) t441 _ ?side1 ?side2 A9.out).mono ?_); (case side1 => exact cs_ ((Kd.C_below HR440_4.out HB.out))); (case side2 => exact HC440_4.out); rintro e w11 ⟨rfl, hb⟩; refine ⟨_, rfl, ?_⟩; replace HB := nb_ hb; (try clear hb); (try clear hb2); (try clear hk); (try clear hi)))
    go_ret
    exact ⟨er_, hb_⟩
   have c10b0 := decide_eq_false c10
   clear c10
   have H' := Aside0.mk H
   clear H
   have p436 : 0 ≤ (x5_1 : Int) := oa_
   have q436 : x5_1 < (l0.length : Int) := oa_
   obtain ⟨ad436, A436_4, c436_4, e436, hx436_0, hx436_1, hx436_2, hx436_3, hx436_4, hl436_4, hi436_4⟩ := at_T43 HR0.out x5_1 p436 q436
   cases e436
   replace hx436_0 := pc_ HB.out hx436_0
   replace hx436_1 := pc_ HB.out hx436_1
   replace hx436_2 := pc_ HB.out hx436_2
   replace hx436_3 := pc_ HB.out hx436_3
   replace hx436_4 := pc_ HB.out hx436_4
   have HR436_4 := Aside0.mk hi436_4
   have HC436_4 := Aside0.mk hl436_4
   clear hi436_4 hl436_4
   replace p436 := eq_true p436
   replace q436 := eq_true q436
   have p437 : 0 ≤ (x5_1 : Int) := oa_
   have q437 : x5_1 < (l0.length : Int) := oa_
   obtain ⟨ad437, A437_4, c437_4, e437, hx437_0, hx437_1, hx437_2, hx437_3, hx437_4, hl437_4, hi437_4⟩ := at_T43 HR0.out x5_1 p437 q437
   obtain rfl : ad436 = ad437 := (by injection e437)
   replace hx437_0 := pc_ HB.out hx437_0
   replace hx437_1 := pc_ HB.out hx437_1
   replace hx437_2 := pc_ HB.out hx437_2
   replace hx437_3 := pc_ HB.out hx437_3
   replace hx437_4 := pc_ HB.out hx437_4
   have HR437_4 := Aside0.mk hi437_4
   have HC437_4 := Aside0.mk hl437_4
   clear hi437_4 hl437_4
   replace p437 := eq_true p437
   replace q437 := eq_true q437
   have ea_ := Option.some.inj (hx436_4.symm.trans hx437_4)
   injection ea_ with ea_ en_ ec_
   subst ea_
   subst ec_
   clear en_
   have p438 : 0 ≤ (x5_1 : Int) := oa_
   have q438 : x5_1 < (l0.length : Int) := oa_
   obtain ⟨ad438, A438_4, c438_4, e438, hx438_0, hx438_1, hx438_2, hx438_3, hx438_4, hl438_4, hi438_4⟩ := at_T43 HR0.out x5_1 p438 q438
   obtain rfl : ad436 = ad438 := (by injection e438)
   replace hx438_0 := pc_ HB.out hx438_0
   replace hx438_1 := pc_ HB.out hx438_1
   replace hx438_2 := pc_ HB.out hx438_2
   replace hx438_3 := pc_ HB.out hx438_3
   replace hx438_4 := pc_ HB.out hx438_4
   have HR438_4 := Aside0.mk hi438_4
   have HC438_4 := Aside0.mk hl438_4
   clear hi438_4 hl438_4
   replace p438 := eq_true p438
   replace q438 := eq_true q438
   have ea_ := Option.some.inj (hx436_4.symm.trans hx438_4)
   injection ea_ with ea_ en_ ec_
   subst ea_
   subst ec_
   clear en_
   have p439 : 0 ≤ (x5_1 : Int) := oa_
   have q439 : x5_1 < (l0.length : Int) := oa_
   obtain ⟨ad439, A439_4, c439_4, e439, hx439_0, hx439_1, hx439_2, hx439_3, hx439_4, hl439_4, hi439_4⟩ := at_T43 HR0.out x5_1 p439 q439
   obtain rfl : ad436 = ad439 := (by injection e439)
   replace hx439_0 := pc_ HB.out hx439_0
   replace hx439_1 := pc_ HB.out hx439_1
   replace hx439_2 := pc_ HB.out hx439_2
   replace hx439_3 := pc_ HB.out hx439_3
   replace hx439_4 := pc_ HB.out hx439_4
   have HR439_4 := Aside0.mk hi439_4
   have HC439_4 := Aside0.mk hl439_4
   clear hi439_4 hl439_4
   replace p439 := eq_true p439
   replace q439 := eq_true q439
   have ea_ := Option.some.inj (hx436_4.symm.trans hx439_4)
   injection ea_ with ea_ en_ ec_
   subst ea_
   subst ec_
   clear en_
   have p440 : 0 ≤ (x5_1 : Int) := oa_
   have q440 : x5_1 < (l0.length : Int) := oa_
   obtain ⟨ad440, A440_4, c440_4, e440, hx440_0, hx440_1, hx440_2, hx440_3, hx440_4, hl440_4, hi440_4⟩ := at_T43 HR0.out x5_1 p440 q440
   obtain rfl : ad436 = ad440 := (by injection e440)
   replace hx440_0 := pc_ HB.out hx440_0
   replace hx440_1 := pc_ HB.out hx440_1
   replace hx440_2 := pc_ HB.out hx440_2
   replace hx440_3 := pc_ HB.out hx440_3
   replace hx440_4 := pc_ HB.out hx440_4
   have HR440_4 := Aside0.mk hi440_4
   have HC440_4 := Aside0.mk hl440_4
   clear hi440_4 hl440_4
   replace p440 := eq_true p440
   replace q440 := eq_true q440
   have ea_ := Option.some.inj (hx436_4.symm.trans hx440_4)
   injection ea_ with ea_ en_ ec_
   subst ea_
   subst ec_
   clear en_
   go_wp2_with (first | ((with_reducible refine gate_callee (f := 79) rfl ?_); refine gl_ 54 Try.func79 #[.slice A436_4 ((rd_T43 l0 x5_1).f4).length c436_4, .int .i64 (wrap64 ((wrap64 ((wrap64 ((wrap64 (x1_1 + 1)) + 1)) + 1)) + 1))] rfl ma_ ?_; (with_reducible refine (laws_heldStringS.calls k1 _ _ ((rd_T43 l0 x5_1).f4) (wrap64 ((wrap64 ((wrap64 ((wrap64 (x1_1 + 1)) + 1)) + 1)) + 1)) t441 _ ?side1 ?side2 A9.out).mono ?_); (case side1 => exact cs_ ((Kd.C_below HR440_4.out HB.out))); (case side2 => exact HC440_4.out); rintro e w12 ⟨rfl, hb⟩; refine ⟨_, rfl, ?_⟩; replace HB := nb_ hb; (try clear hb); (try clear hb2); (try clear hk); (try clear hi)))
   go_roundg k1
   case measure => have := HK1.out; omega
   case rel => exact ⟨(t441), (wrap64 (x5_1 + 1)), sr_, sr_, H', ⟨by have := HK1.out; omega⟩, ⟨hb_⟩⟩

end Go.Proofs.Ytffpeklekkpbjaa.QFnExactAllBatches
