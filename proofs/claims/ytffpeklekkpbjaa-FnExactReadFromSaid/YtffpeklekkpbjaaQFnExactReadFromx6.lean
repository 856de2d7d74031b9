/- Functions that one statement reaches: of each a plain function, and the proof that calls come to it. Conditions: those that each contract names. Written by a program of this repository. -/
import Derived.Test.YtffpeklekkpbjaaVReadFroma
import Derived.Test.YtffpeklekkpbjaaQFnExactReadFromx0
import Derived.Test.YtffpeklekkpbjaaQFnExactReadFromx3
namespace Go.Proofs.Ytffpeklekkpbjaa.QFnExactReadFrom
open Go.RowKit Go.Proofs.YtffpeklekkpbjaaW.PrintWords Go.Proofs.YtffpeklekkpbjaaW.PrintLast Go.Proofs.YtffpeklekkpbjaaW.PrintMore
attribute [local go_sem] max2_int min2_int max_two min_two max_three min_three max_four min_four Go.Proofs.YtffpeklekkpbjaaW.PrintMore2.isSome_setCell   -- for this text's walks alone
set_option linter.unusedVariables false
set_option linter.unusedSimpArgs false

/-! ### laws_heldStringS: function 79 -/
def laws_heldStringS.l0 : Nat → List ByteArray → Int → Int → Option (Int)
 | 0, _, _, _ => none
 | k + 1, x0, x1, x5 => if x5 < (x0.length : Int) then (if 0 ≤ x5 then ((laws_markText.f k x1).bind fun t169 => (if (rdOf ByteArray.empty x0 x5).toList = t169.toList then (laws_heldStringS.l0 k x0 (wrap64 (x1 + 1)) (wrap64 (x5 + 1))) else (some (-1)))) else (none)) else (some x1)
def laws_heldStringS.f (k : Nat) (l0 : List ByteArray) (a1 : Int) : Option (Int) := laws_heldStringS.l0 k l0 a1 0
theorem laws_heldStringS.mono_l : ∀ k, (∀ y0 y1 y2, LeO (laws_heldStringS.l0 k y0 y1 y2) (laws_heldStringS.l0 (k + 1) y0 y1 y2))
 | 0 => fun _ _ _ r h => by simp [laws_heldStringS.l0] at h
 | k + 1 => by
  have ih0 := laws_heldStringS.mono_l k
  ·intro y0 y1 y2
   unfold laws_heldStringS.l0
   repeat' first
   | (with_reducible first | apply ih0 | apply laws_markText.mono | exact LeO.refl _ | exact LeO.none _ | refine LeO.ite ?_ ?_ | refine LeO.bind ?_ (fun _ => ?_))
theorem laws_heldStringS.mono : ∀ a0 a1 k, LeO (laws_heldStringS.f k a0 a1) (laws_heldStringS.f (k + 1) a0 a1) := by
 intro a0 a1 k
 have ih0 := laws_heldStringS.mono_l k
 unfold laws_heldStringS.f
 repeat' first
   | (with_reducible first | apply ih0 | apply laws_markText.mono | exact LeO.refl _ | exact LeO.none _ | refine LeO.ite ?_ ?_ | refine LeO.bind ?_ (fun _ => ?_))
set_option maxHeartbeats 8000000 in
set_option maxRecDepth 100000 in
theorem laws_heldStringS.calls (k : Nat) (A0 : Option Addr) (c0 : Nat) (l0 : List ByteArray) (a1 : Int) (r : Int) (w : World) (hr0 : Kd.C Kd.string w A0 l0.length l0) (hc0 : l0.length ≤ c0) (h : laws_heldStringS.f k l0 a1 = some r) :
  Calls Try.prog 79 #[.slice A0 l0.length c0, .int .i64 a1] w fun e w' => e = .returned (.int .i64 r) ∧ Below w.heap.size w w' := by
 have HR0 := Aside0.mk hr0
 have HC0 := Aside0.mk hc0
 clear hr0 hc0
 have HB := Aside0.mk (Below.refl w.heap.size w)
 have H : (laws_heldStringS.l0 k l0 a1 0) = some r := h
 clear h
 have H' := Aside0.mk H
 clear H
 go_enter Try.func79, Try.ntmps79
 go_wp2
 go_loopg [1, 5] k (fun kq v1 v5 w' => ∃ (x1_1 : Int) (x5_1 : Int), v1 = .int .i64 x1_1 ∧ v5 = .int .i64 x5_1 ∧ Aside0 (laws_heldStringS.l0 kq l0 x1_1 x5_1 = some r) ∧ Aside0 (kq ≤ k) ∧ Aside0 (Below w.heap.size w w'))
 case atStart => exact ⟨(a1), (0), sr_, sr_, H', ⟨Nat.le_refl _⟩, ⟨hb_⟩⟩
 case round =>
  clear H'
  obtain ⟨x1_1, x5_1, rfl, rfl, HA, HK1, HB⟩ := hrel
  cases gk with
  | zero => exact absurd HA.out (by simp [laws_heldStringS.l0])
  | succ k1 =>
   have H := HA.out
   clear HA
   simp only [laws_heldStringS.l0] at H
   replace H := ite_ H
   obtain ⟨c3, H⟩ | ⟨c3, H⟩ := H
   rotate_left
   ·have c3b0 := decide_eq_false c3
    clear c3
    obtain rfl := Option.some.inj H
    go_wp2
    go_ret
    exact ⟨er_, hb_⟩
   have c3b0 := decide_eq_true c3
   clear c3
   replace H := ifs_ H
   obtain ⟨c4, H⟩ := H
   have c4b0 := decide_eq_true c4
   clear c4
   replace H := bnd_ H
   obtain ⟨t169, A5, H⟩ := H
   replace H := ite_ H
   obtain ⟨c6, H⟩ | ⟨c6, H⟩ := H
   rotate_left
   ·have c6b0 : ((rdOf ByteArray.empty l0 x5_1).toList == t169.toList) = false := beq_eq_false_iff_ne.mpr c6
    have c6b1 : ((rdOf ByteArray.empty l0 x5_1).toList != t169.toList) = true := bne_iff_ne.mpr c6
    obtain rfl := Option.some.inj H
    try go_wp2
    replace HB := qH_ HB
    have p168 : 0 ≤ (x5_1 : Int) := oa_
    have q168 : x5_1 < (l0.length : Int) := oa_
    obtain ⟨ad168, e168, hx168_0⟩ := Kd.at_string HR0.out x5_1 p168 q168
    have hw168_0 := hx168_0
    cases e168
    replace hx168_0 := pc_ HB.out hx168_0
    replace p168 := eq_true p168
    replace q168 := eq_true q168
    refine start_ (n := 7) (S := fun w' => w'.cell? (ad168.add (x5_1).toNat) = some (.string (rdOf ByteArray.empty l0 x5_1))) (ds := []) #[false, false, false, false, false, false, false] (by kernel_rfl) rfl rfl ((pc_ HB.out hw168_0)) (fun hHeld => ?_)
    generalize wr.drew = w9 at HB hx168_0 hHeld ⊢
    refine pure_ (i := 0) (N := some 12) (v := ?_) (a' := ?_) #[true, false, false, false, false, false, false] rfl rfl (by kernel_rfl) (fun _ _ _ h => h) (Or.inl ⟨by rfl, ?_⟩) ?_ ?_
    rotate_left
    ·intro w'
     go_simp
     with_reducible rfl
    rotate_left
    ·simp only [Act.put, List.setIfInBounds_toArray, List.set_cons_zero, List.set_cons_succ, i64_w, i32_w]
     rfl
    refine pure_ (i := 1) (N := some 13) (v := ?_) (a' := ?_) #[true, true, false, false, false, false, false] rfl rfl (by kernel_rfl) (fun _ _ _ h => h) (Or.inl ⟨by rfl, ?_⟩) ?_ ?_
    rotate_left
    ·intro w'
     go_simp
     with_reducible rfl
    rotate_left
    ·simp only [Act.put, List.setIfInBounds_toArray, List.set_cons_zero, List.set_cons_succ, i64_w, i32_w]
     rfl
    refine pure_ (i := 2) (N := some 14) (v := ?_) (a' := ?_) #[true, true, true, false, false, false, false] rfl rfl (by kernel_rfl) (fun _ _ _ h => h) (Or.inl ⟨by rfl, ?_⟩) ?_ ?_
    rotate_left
    ·intro w'
     go_simp
     with_reducible rfl
    rotate_left
    ·simp only [Act.put, List.setIfInBounds_toArray, List.set_cons_zero, List.set_cons_succ, i64_w, i32_w]
     rfl
    refine pure_ (i := 4) (N := some 16) (v := ?_) (a' := ?_) #[true, true, true, false, true, false, false] rfl rfl (by kernel_rfl) (fun _ _ _ h => h) (Or.inl ⟨by rfl, ?_⟩) ?_ ?_
    rotate_left
    ·intro w'
     go_simp
     with_reducible rfl
    rotate_left
    ·simp only [Act.put, List.setIfInBounds_toArray, List.set_cons_zero, List.set_cons_succ, i64_w, i32_w]
     rfl
    refine take_ (i := 3) (N := some 15) (v := ?_) (a' := ?_) #[true, true, true, true, true, false, false] rfl rfl (by kernel_rfl) (fun _ _ _ h => h) (Or.inl ⟨by rfl, ?_⟩) hHeld ?_ ?_
    rotate_left
    ·intro w' s0
     go_simp
     with_reducible rfl
    rotate_left
    ·simp only [Act.put, List.setIfInBounds_toArray, List.set_cons_zero, List.set_cons_succ, i64_w, i32_w]
     rfl
    refine one_ (i := 5) (N := some 17) #[true, true, true, true, true, true, false] rfl rfl (by kernel_rfl) (by decide) (fun K hK => ?_)
    refine gs_ Try.func85 #[.int .i64 x1_1] rfl ma_ ?_
    with_reducible refine (laws_markText.calls k1 x1_1 t169 _ A5.out).mono ?_
    rintro e w10 ⟨rfl, hb⟩
    refine ⟨_, rfl, ?_⟩
    replace HB := nb_ hb
    (try clear hb)
    (try clear hb2)
    (try clear hk)
    (try clear hi)
    refine hK.out _ _ ((pc_ HB.out hw168_0)) (fun hHeld => ?_)
    clear hK K
    refine no_ ?_
    refine pure_ (i := 6) (N := some 18) (v := ?_) (a' := ?_) #[true, true, true, true, true, true, true] rfl rfl (by kernel_rfl) (fun _ _ _ h => h) (Or.inl ⟨by rfl, ?_⟩) ?_ ?_
    rotate_left
    ·intro w'
     go_simp
     with_reducible rfl
    rotate_left
    ·simp only [Act.put, List.setIfInBounds_toArray, List.set_cons_zero, List.set_cons_succ, i64_w, i32_w]
     rfl
    refine done_ (by kernel_rfl) ?_
    try go_wp2
    go_ret
    exact ⟨er_, hb_⟩
   have c6b0 : ((rdOf ByteArray.empty l0 x5_1).toList == t169.toList) = true := beq_iff_eq.mpr c6
   have c6b1 : ((rdOf ByteArray.empty l0 x5_1).toList != t169.toList) = false := bne_eq_false_iff_eq.mpr c6
   clear c6
   have H' := Aside0.mk H
   clear H
   try go_wp2
   replace HB := qH_ HB
   have p168 : 0 ≤ (x5_1 : Int) := oa_
   have q168 : x5_1 < (l0.length : Int) := oa_
   obtain ⟨ad168, e168, hx168_0⟩ := Kd.at_string HR0.out x5_1 p168 q168
   have hw168_0 := hx168_0
   cases e168
   replace hx168_0 := pc_ HB.out hx168_0
   replace p168 := eq_true p168
   replace q168 := eq_true q168
   refine start_ (n := 7) (S := fun w' => w'.cell? (ad168.add (x5_1).toNat) = some (.string (rdOf ByteArray.empty l0 x5_1))) (ds := []) #[false, false, false, false, false, false, false] (by kernel_rfl) rfl rfl ((pc_ HB.out hw168_0)) (fun hHeld => ?_)
   generalize wr.drew = w7 at HB hx168_0 hHeld ⊢
   refine pure_ (i := 0) (N := some 12) (v := ?_) (a' := ?_) #[true, false, false, false, false, false, false] rfl rfl (by kernel_rfl) (fun _ _ _ h => h) (Or.inl ⟨by rfl, ?_⟩) ?_ ?_
   rotate_left
   ·intro w'
    go_simp
    with_reducible rfl
   rotate_left
   ·simp only [Act.put, List.setIfInBounds_toArray, List.set_cons_zero, List.set_cons_succ, i64_w, i32_w]
    rfl
   refine pure_ (i := 1) (N := some 13) (v := ?_) (a' := ?_) #[true, true, false, false, false, false, false] rfl rfl (by kernel_rfl) (fun _ _ _ h => h) (Or.inl ⟨by rfl, ?_⟩) ?_ ?_
   rotate_left
   ·intro w'
    go_simp
    with_reducible rfl
   rotate_left
   ·simp only [Act.put, List.setIfInBounds_toArray, List.set_cons_zero, List.set_cons_succ, i64_w, i32_w]
    rfl
   refine pure_ (i := 2) (N := some 14) (v := ?_) (a' := ?_) #[true, true, true, false, false, false, false] rfl rfl (by kernel_rfl) (fun _ _ _ h => h) (Or.inl ⟨by rfl, ?_⟩) ?_ ?_
   rotate_left
   ·intro w'
    go_simp
    with_reducible rfl
   rotate_left
   ·simp only [Act.put, List.setIfInBounds_toArray, List.set_cons_zero, List.set_cons_succ, i64_w, i32_w]
    rfl
   refine pure_ (i := 4) (N := some 16) (v := ?_) (a' := ?_) #[true, true, true, false, true, false, false] rfl rfl (by kernel_rfl) (fun _ _ _ h => h) (Or.inl ⟨by rfl, ?_⟩) ?_ ?_
   rotate_left
   ·intro w'
    go_simp
    with_reducible rfl
   rotate_left
   ·simp only [Act.put, List.setIfInBounds_toArray, List.set_cons_zero, List.set_cons_succ, i64_w, i32_w]
    rfl
   refine take_ (i := 3) (N := some 15) (v := ?_) (a' := ?_) #[true, true, true, true, true, false, false] rfl rfl (by kernel_rfl) (fun _ _ _ h => h) (Or.inl ⟨by rfl, ?_⟩) hHeld ?_ ?_
   rotate_left
   ·intro w' s0
    go_simp
    with_reducible rfl
   rotate_left
   ·simp only [Act.put, List.setIfInBounds_toArray, List.set_cons_zero, List.set_cons_succ, i64_w, i32_w]
    rfl
   refine one_ (i := 5) (N := some 17) #[true, true, true, true, true, true, false] rfl rfl (by kernel_rfl) (by decide) (fun K hK => ?_)
   refine gs_ Try.func85 #[.int .i64 x1_1] rfl ma_ ?_
   with_reducible refine (laws_markText.calls k1 x1_1 t169 _ A5.out).mono ?_
   rintro e w8 ⟨rfl, hb⟩
   refine ⟨_, rfl, ?_⟩
   replace HB := nb_ hb
   (try clear hb)
   (try clear hb2)
   (try clear hk)
   (try clear hi)
   refine hK.out _ _ ((pc_ HB.out hw168_0)) (fun hHeld => ?_)
   clear hK K
   refine no_ ?_
   refine pure_ (i := 6) (N := some 18) (v := ?_) (a' := ?_) #[true, true, true, true, true, true, true] rfl rfl (by kernel_rfl) (fun _ _ _ h => h) (Or.inl ⟨by rfl, ?_⟩) ?_ ?_
   rotate_left
   ·intro w'
    go_simp
    with_reducible rfl
   rotate_left
   ·simp only [Act.put, List.setIfInBounds_toArray, List.set_cons_zero, List.set_cons_succ, i64_w, i32_w]
    rfl
   refine done_ (by kernel_rfl) ?_
   try go_wp2
   go_roundg k1
   case measure => have := HK1.out; omega
   case rel => exact ⟨(wrap64 (x1_1 + 1)), (wrap64 (x5_1 + 1)), sr_, sr_, H', ⟨by have := HK1.out; omega⟩, ⟨hb_⟩⟩

/-! ### laws_heldBatchS: function 38 -/
def laws_heldBatchS.l0 : Nat → List (S43) → Int → Int → Option (Int)
 | 0, _, _, _ => none
 | k + 1, x0, x1, x5 => if x5 < (x0.length : Int) then (if 0 ≤ x5 then (if ((rd_T43 x0 x5).f0) = x1 then (if ((rd_T43 x0 x5).f1) = (wrap64 (x1 + 1)) then (if ((rd_T43 x0 x5).f2) = (wrap64 ((wrap64 (x1 + 1)) + 1)) then (if ((rd_T43 x0 x5).f3) = (wrap64 ((wrap64 ((wrap64 (x1 + 1)) + 1)) + 1)) then ((laws_heldStringS.f k ((rd_T43 x0 x5).f4) (wrap64 ((wrap64 ((wrap64 ((wrap64 (x1 + 1)) + 1)) + 1)) + 1))).bind fun t175 => (if t175 < 0 then (some (-1)) else (laws_heldBatchS.l0 k x0 t175 (wrap64 (x5 + 1))))) else (some (-1))) else (some (-1))) else (some (-1))) else (some (-1))) else (none)) else (some x1)
def laws_heldBatchS.f (k : Nat) (l0 : List (S43)) (a1 : Int) : Option (Int) := laws_heldBatchS.l0 k l0 a1 0
theorem laws_heldBatchS.mono_l : ∀ k, (∀ y0 y1 y2, LeO (laws_heldBatchS.l0 k y0 y1 y2) (laws_heldBatchS.l0 (k + 1) y0 y1 y2))
 | 0 => fun _ _ _ r h => by simp [laws_heldBatchS.l0] at h
 | k + 1 => by
  have ih0 := laws_heldBatchS.mono_l k
  ·intro y0 y1 y2
   unfold laws_heldBatchS.l0
   repeat' first
   | (with_reducible first | apply ih0 | apply laws_heldStringS.mono | exact LeO.refl _ | exact LeO.none _ | refine LeO.ite ?_ ?_ | refine LeO.bind ?_ (fun _ => ?_))
theorem laws_heldBatchS.mono : ∀ a0 a1 k, LeO (laws_heldBatchS.f k a0 a1) (laws_heldBatchS.f (k + 1) a0 a1) := by
 intro a0 a1 k
 have ih0 := laws_heldBatchS.mono_l k
 unfold laws_heldBatchS.f
 repeat' first
   | (with_reducible first | apply ih0 | apply laws_heldStringS.mono | exact LeO.refl _ | exact LeO.none _ | refine LeO.ite ?_ ?_ | refine LeO.bind ?_ (fun _ => ?_))
set_option maxHeartbeats 8000000 in
set_option maxRecDepth 100000 in
theorem laws_heldBatchS.calls (k : Nat) (A0 : Option Addr) (c0 : Nat) (l0 : List (S43)) (a1 : Int) (r : Int) (w : World) (hr0 : Kd.C k43 w A0 l0.length l0) (hc0 : l0.length ≤ c0) (h : laws_heldBatchS.f k l0 a1 = some r) :
  Calls Try.prog 38 #[.slice A0 l0.length c0, .int .i64 a1] w fun e w' => e = .returned (.int .i64 r) ∧ Below w.heap.size w w' := by
 have HR0 := Aside0.mk hr0
 have HC0 := Aside0.mk hc0
 clear hr0 hc0
 have HB := Aside0.mk (Below.refl w.heap.size w)
 have H : (laws_heldBatchS.l0 k l0 a1 0) = some r := h
 clear h
 have H' := Aside0.mk H
 clear H
 go_enter Try.func38, Try.ntmps38
 go_wp2
 go_loopg [1, 5] k (fun kq v1 v5 w' => ∃ (x1_1 : Int) (x5_1 : Int), v1 = .int .i64 x1_1 ∧ v5 = .int .i64 x5_1 ∧ Aside0 (laws_heldBatchS.l0 kq l0 x1_1 x5_1 = some r) ∧ Aside0 (kq ≤ k) ∧ Aside0 (Below w.heap.size w w'))
 case atStart => exact ⟨(a1), (0), sr_, sr_, H', ⟨Nat.le_refl _⟩, ⟨hb_⟩⟩
 case round =>
  clear H'
  obtain ⟨x1_1, x5_1, rfl, rfl, HA, HK1, HB⟩ := hrel
  cases gk with
  | zero => exact absurd HA.out (by simp [laws_heldBatchS.l0])
  | succ k1 =>
   have H := HA.out
   clear HA
   simp only [laws_heldBatchS.l0] at H
   replace H := ite_ H
   obtain ⟨c3, H⟩ | ⟨c3, H⟩ := H
   rotate_left
   ·have c3b0 := decide_eq_false c3
    clear c3
    obtain rfl := Option.some.inj H
    go_wp2
    go_ret
    exact ⟨er_, hb_⟩
   have c3b0 := decide_eq_true c3
   clear c3
   replace H := ifs_ H
   obtain ⟨c4, H⟩ := H
   have c4b0 := decide_eq_true c4
   clear c4
   replace H := ite_ H
   obtain ⟨c5, H⟩ | ⟨c5, H⟩ := H
   rotate_left
   ·have c5b0 : (((rd_T43 l0 x5_1).f0) == x1_1) = false := beq_eq_false_iff_ne.mpr c5
    have c5b1 : (((rd_T43 l0 x5_1).f0) != x1_1) = true := bne_iff_ne.mpr c5
    obtain rfl := Option.some.inj H
    have p170 : 0 ≤ (x5_1 : Int) := oa_
    have q170 : x5_1 < (l0.length : Int) := oa_
    obtain ⟨ad170, A170_4, c170_4, e170, hx170_0, hx170_1, hx170_2, hx170_3, hx170_4, hl170_4, hi170_4⟩ := at_T43 HR0.out x5_1 p170 q170
    cases e170
    replace hx170_0 := pc_ HB.out hx170_0
    replace hx170_1 := pc_ HB.out hx170_1
    replace hx170_2 := pc_ HB.out hx170_2
    replace hx170_3 := pc_ HB.out hx170_3
    replace hx170_4 := pc_ HB.out hx170_4
    have HR170_4 := Aside0.mk hi170_4
    have HC170_4 := Aside0.mk hl170_4
    clear hi170_4 hl170_4
    replace p170 := eq_true p170
    replace q170 := eq_true q170
    go_wp2
    go_ret
    exact ⟨er_, hb_⟩
   have c5b0 : (((rd_T43 l0 x5_1).f0) == x1_1) = true := beq_iff_eq.mpr c5
   have c5b1 : (((rd_T43 l0 x5_1).f0) != x1_1) = false := bne_eq_false_iff_eq.mpr c5
   clear c5
   replace H := ite_ H
   obtain ⟨c6, H⟩ | ⟨c6, H⟩ := H
   rotate_left
   ·have c6b0 : (((rd_T43 l0 x5_1).f1) == (wrap64 (x1_1 + 1))) = false := beq_eq_false_iff_ne.mpr c6
    have c6b1 : (((rd_T43 l0 x5_1).f1) != (wrap64 (x1_1 + 1))) = true := bne_iff_ne.mpr c6
    obtain rfl := Option.some.inj H
    have p170 : 0 ≤ (x5_1 : Int) := oa_
    have q170 : x5_1 < (l0.length : Int) := oa_
    obtain ⟨ad170, A170_4, c170_4, e170, hx170_0, hx170_1, hx170_2, hx170_3, hx170_4, hl170_4, hi170_4⟩ := at_T43 HR0.out x5_1 p170 q170
    cases e170
    replace hx170_0 := pc_ HB.out hx170_0
    replace hx170_1 := pc_ HB.out hx170_1
    replace hx170_2 := pc_ HB.out hx170_2
    replace hx170_3 := pc_ HB.out hx170_3
    replace hx170_4 := pc_ HB.out hx170_4
    have HR170_4 := Aside0.mk hi170_4
    have HC170_4 := Aside0.mk hl170_4
    clear hi170_4 hl170_4
    replace p170 := eq_true p170
    replace q170 := eq_true q170
    have p171 : 0 ≤ (x5_1 : Int) := oa_
    have q171 : x5_1 < (l0.length : Int) := oa_
    obtain ⟨ad171, A171_4, c171_4, e171, hx171_0, hx171_1, hx171_2, hx171_3, hx171_4, hl171_4, hi171_4⟩ := at_T43 HR0.out x5_1 p171 q171
    obtain rfl : ad170 = ad171 := (by injection e171)
    replace hx171_0 := pc_ HB.out hx171_0
    replace hx171_1 := pc_ HB.out hx171_1
    replace hx171_2 := pc_ HB.out hx171_2
    replace hx171_3 := pc_ HB.out hx171_3
    replace hx171_4 := pc_ HB.out hx171_4
    have HR171_4 := Aside0.mk hi171_4
    have HC171_4 := Aside0.mk hl171_4
    clear hi171_4 hl171_4
    replace p171 := eq_true p171
    replace q171 := eq_true q171
    have ea_ := Option.some.inj (hx170_4.symm.trans hx171_4)
    injection ea_ with ea_ en_ ec_
    subst ea_
    subst ec_
    clear en_
    go_wp2
    go_ret
    exact ⟨er_, hb_⟩
   have c6b0 : (((rd_T43 l0 x5_1).f1) == (wrap64 (x1_1 + 1))) = true := beq_iff_eq.mpr c6
   have c6b1 : (((rd_T43 l0 x5_1).f1) != (wrap64 (x1_1 + 1))) = false := bne_eq_false_iff_eq.mpr c6
   clear c6
   replace H := ite_ H
   obtain ⟨c7, H⟩ | ⟨c7, H⟩ := H
   rotate_left
   ·have c7b0 : (((rd_T43 l0 x5_1).f2) == (wrap64 ((wrap64 (x1_1 + 1)) + 1))) = false := beq_eq_false_iff_ne.mpr c7
    have c7b1 : (((rd_T43 l0 x5_1).f2) != (wrap64 ((wrap64 (x1_1 + 1)) + 1))) = true := bne_iff_ne.mpr c7
    obtain rfl := Option.some.inj H
    have p170 : 0 ≤ (x5_1 : Int) := oa_
    have q170 : x5_1 < (l0.length : Int) := oa_
    obtain ⟨ad170, A170_4, c170_4, e170, hx170_0, hx170_1, hx170_2, hx170_3, hx170_4, hl170_4, hi170_4⟩ := at_T43 HR0.out x5_1 p170 q170
    cases e170
    replace hx170_0 := pc_ HB.out hx170_0
    replace hx170_1 := pc_ HB.out hx170_1
    replace hx170_2 := pc_ HB.out hx170_2
    replace hx170_3 := pc_ HB.out hx170_3
    replace hx170_4 := pc_ HB.out hx170_4
    have HR170_4 := Aside0.mk hi170_4
    have HC170_4 := Aside0.mk hl170_4
    clear hi170_4 hl170_4
    replace p170 := eq_true p170
    replace q170 := eq_true q170
    have p171 : 0 ≤ (x5_1 : Int) := oa_
    have q171 : x5_1 < (l0.length : Int) := oa_
    obtain ⟨ad171, A171_4, c171_4, e171, hx171_0, hx171_1, hx171_2, hx171_3, hx171_4, hl171_4, hi171_4⟩ := at_T43 HR0.out x5_1 p171 q171
    obtain rfl : ad170 = ad171 := (by injection e171)
    replace hx171_0 := pc_ HB.out hx171_0
    replace hx171_1 := pc_ HB.out hx171_1
    replace hx171_2 := pc_ HB.out hx171_2
    replace hx171_3 := pc_ HB.out hx171_3
    replace hx171_4 := pc_ HB.out hx171_4
    have HR171_4 := Aside0.mk hi171_4
    have HC171_4 := Aside0.mk hl171_4
    clear hi171_4 hl171_4
    replace p171 := eq_true p171
    replace q171 := eq_true q171
    have ea_ := Option.some.inj (hx170_4.symm.trans hx171_4)
    injection ea_ with ea_ en_ ec_
    subst ea_
    subst ec_
    clear en_
    have p172 : 0 ≤ (x5_1 : Int) := oa_
    have q172 : x5_1 < (l0.length : Int) := oa_
    obtain ⟨ad172, A172_4, c172_4, e172, hx172_0, hx172_1, hx172_2, hx172_3, hx172_4, hl172_4, hi172_4⟩ := at_T43 HR0.out x5_1 p172 q172
    obtain rfl : ad170 = ad172 := (by injection e172)
    replace hx172_0 := pc_ HB.out hx172_0
    replace hx172_1 := pc_ HB.out hx172_1
    replace hx172_2 := pc_ HB.out hx172_2
    replace hx172_3 := pc_ HB.out hx172_3
    replace hx172_4 := pc_ HB.out hx172_4
    have HR172_4 := Aside0.mk hi172_4
    have HC172_4 := Aside0.mk hl172_4
    clear hi172_4 hl172_4
    replace p172 := eq_true p172
    replace q172 := eq_true q172
    have ea_ := Option.some.inj (hx170_4.symm.trans hx172_4)
    injection ea_ with ea_ en_ ec_
    subst ea_
    subst ec_
    clear en_
    go_wp2
    go_ret
    exact ⟨er_, hb_⟩
   have c7b0 : (((rd_T43 l0 x5_1).f2) == (wrap64 ((wrap64 (x1_1 + 1)) + 1))) = true := beq_iff_eq.mpr c7
   have c7b1 : (((rd_T43 l0 x5_1).f2) != (wrap64 ((wrap64 (x1_1 + 1)) + 1))) = false := bne_eq_false_iff_eq.mpr c7
   clear c7
   replace H := ite_ H
   obtain ⟨c8, H⟩ | ⟨c8, H⟩ := H
   rotate_left
   ·have c8b0 : (((rd_T43 l0 x5_1).f3) == (wrap64 ((wrap64 ((wrap64 (x1_1 + 1)) + 1)) + 1))) = false := beq_eq_false_iff_ne.mpr c8
    have c8b1 : (((rd_T43 l0 x5_1).f3) != (wrap64 ((wrap64 ((wrap64 (x1_1 + 1)) + 1)) + 1))) = true := bne_iff_ne.mpr c8
    obtain rfl := Option.some.inj H
    have p170 : 0 ≤ (x5_1 : Int) := oa_
    have q170 : x5_1 < (l0.length : Int) := oa_
    obtain ⟨ad170, A170_4, c170_4, e170, hx170_0, hx170_1, hx170_2, hx170_3, hx170_4, hl170_4, hi170_4⟩ := at_T43 HR0.out x5_1 p170 q170
    cases e170
    replace hx170_0 := pc_ HB.out hx170_0
    replace hx170_1 := pc_ HB.out hx170_1
    replace hx170_2 := pc_ HB.out hx170_2
    replace hx170_3 := pc_ HB.out hx170_3
    replace hx170_4 := pc_ HB.out hx170_4
    have HR170_4 := Aside0.mk hi170_4
    have HC170_4 := Aside0.mk hl170_4
    clear hi170_4 hl170_4
    replace p170 := eq_true p170
    replace q170 := eq_true q170
    have p171 : 0 ≤ (x5_1 : Int) := oa_
    have q171 : x5_1 < (l0.length : Int) := oa_
    obtain ⟨ad171, A171_4, c171_4, e171, hx171_0, hx171_1, hx171_2, hx171_3, hx171_4, hl171_4, hi171_4⟩ := at_T43 HR0.out x5_1 p171 q171
    obtain rfl : ad170 = ad171 := (by injection e171)
    replace hx171_0 := pc_ HB.out hx171_0
    replace hx171_1 := pc_ HB.out hx171_1
    replace hx171_2 := pc_ HB.out hx171_2
    replace hx171_3 := pc_ HB.out hx171_3
    replace hx171_4 := pc_ HB.out hx171_4
    have HR171_4 := Aside0.mk hi171_4
    have HC171_4 := Aside0.mk hl171_4
    clear hi171_4 hl171_4
    replace p171 := eq_true p171
    replace q171 := eq_true q171
    have ea_ := Option.some.inj (hx170_4.symm.trans hx171_4)
    injection ea_ with ea_ en_ ec_
    subst ea_
    subst ec_
    clear en_
    have p172 : 0 ≤ (x5_1 : Int) := oa_
    have q172 : x5_1 < (l0.length : Int) := oa_
    obtain ⟨ad172, A172_4, c172_4, e172, hx172_0, hx172_1, hx172_2, hx172_3, hx172_4, hl172_4, hi172_4⟩ := at_T43 HR0.out x5_1 p172 q172
    obtain rfl : ad170 = ad172 := (by injection e172)
    replace hx172_0 := pc_ HB.out hx172_0
    replace hx172_1 := pc_ HB.out hx172_1
    replace hx172_2 := pc_ HB.out hx172_2
    replace hx172_3 := pc_ HB.out hx172_3
    replace hx172_4 := pc_ HB.out hx172_4
    have HR172_4 := Aside0.mk hi172_4
    have HC172_4 := Aside0.mk hl172_4
    clear hi172_4 hl172_4
    replace p172 := eq_true p172
    replace q172 := eq_true q172
    have ea_ := Option.some.inj (hx170_4.symm.trans hx172_4)
    injection ea_ with ea_ en_ ec_
    subst ea_
    subst ec_
    clear en_
    have p173 : 0 ≤ (x5_1 : Int) := oa_
    have q173 : x5_1 < (l0.length : Int) := oa_
    obtain ⟨ad173, A173_4, c173_4, e173, hx173_0, hx173_1, hx173_2, hx173_3, hx173_4, hl173_4, hi173_4⟩ := at_T43 HR0.out x5_1 p173 q173
    obtain rfl : ad170 = ad173 := (by injection e173)
    replace hx173_0 := pc_ HB.out hx173_0
    replace hx173_1 := pc_ HB.out hx173_1
    replace hx173_2 := pc_ HB.out hx173_2
    replace hx173_3 := pc_ HB.out hx173_3
    replace hx173_4 := pc_ HB.out hx173_4
    have HR173_4 := Aside0.mk hi173_4
    have HC173_4 := Aside0.mk hl173_4
    clear hi173_4 hl173_4
    replace p173 := eq_true p173
    replace q173 := eq_true q173
    have ea_ := Option.some.inj (hx170_4.symm.trans hx173_4)
    injection ea_ with ea_ en_ ec_
    subst ea_
    subst ec_
    clear en_
    go_wp2
    go_ret
    exact ⟨er_, hb_⟩
   have c8b0 : (((rd_T43 l0 x5_1).f3) == (wrap64 ((wrap64 ((wrap64 (x1_1 + 1)) + 1)) + 1))) = true := beq_iff_eq.mpr c8
   have c8b1 : (((rd_T43 l0 x5_1).f3) != (wrap64 ((wrap64 ((wrap64 (x1_1 + 1)) + 1)) + 1))) = false := bne_eq_false_iff_eq.mpr c8
   clear c8
   replace H := bnd_ H
   obtain ⟨t175, A9, H⟩ := H
   replace H := ite_ H
   obtain ⟨c10, H⟩ | ⟨c10, H⟩ := H
   ·have c10b0 := decide_eq_true c10
    clear c10
    obtain rfl := Option.some.inj H
    have p170 : 0 ≤ (x5_1 : Int) := oa_
    have q170 : x5_1 < (l0.length : Int) := oa_
    obtain ⟨ad170, A170_4, c170_4, e170, hx170_0, hx170_1, hx170_2, hx170_3, hx170_4, hl170_4, hi170_4⟩ := at_T43 HR0.out x5_1 p170 q170
    cases e170
    replace hx170_0 := pc_ HB.out hx170_0
    replace hx170_1 := pc_ HB.out hx170_1
    replace hx170_2 := pc_ HB.out hx170_2
    replace hx170_3 := pc_ HB.out hx170_3
    replace hx170_4 := pc_ HB.out hx170_4
    have HR170_4 := Aside0.mk hi170_4
    have HC170_4 := Aside0.mk hl170_4
    clear hi170_4 hl170_4
    replace p170 := eq_true p170
    replace q170 := eq_true q170
    have p171 : 0 ≤ (x5_1 : Int) := oa_
    have q171 : x5_1 < (l0.length : Int) := oa_
    obtain ⟨ad171, A171_4, c171_4, e171, hx171_0, hx171_1, hx171_2, hx171_3, hx171_4, hl171_4, hi171_4⟩ := at_T43 HR0.out x5_1 p171 q171
    obtain rfl : ad170 = ad171 := (by injection e171)
    replace hx171_0 := pc_ HB.out hx171_0
    replace hx171_1 := pc_ HB.out hx171_1
    replace hx171_2 := pc_ HB.out hx171_2
    replace hx171_3 := pc_ HB.out hx171_3
    replace hx171_4 := pc_ HB.out hx171_4
    have HR171_4 := Aside0.mk hi171_4
    have HC171_4 := Aside0.mk hl171_4
    clear hi171_4 hl171_4
    replace p171 := eq_true p171
    replace q171 := eq_true q171
    have ea_ := Option.some.inj (hx170_4.symm.trans hx171_4)
    injection ea_ with ea_ en_ ec_
    subst ea_
    subst ec_
    clear en_
    have p172 : 0 ≤ (x5_1 : Int) := oa_
    have q172 : x5_1 < (l0.length : Int) := oa_
    obtain ⟨ad172, A172_4, c172_4, e172, hx172_0, hx172_1, hx172_2, hx172_3, hx172_4, hl172_4, hi172_4⟩ := at_T43 HR0.out x5_1 p172 q172
    obtain rfl : ad170 = ad172 := (by injection e172)
    replace hx172_0 := pc_ HB.out hx172_0
    replace hx172_1 := pc_ HB.out hx172_1
    replace hx172_2 := pc_ HB.out hx172_2
    replace hx172_3 := pc_ HB.out hx172_3
    replace hx172_4 := pc_ HB.out hx172_4
    have HR172_4 := Aside0.mk hi172_4
    have HC172_4 := Aside0.mk hl172_4
    clear hi172_4 hl172_4
    replace p172 := eq_true p172
    replace q172 := eq_true q172
    have ea_ := Option.some.inj (hx170_4.symm.trans hx172_4)
    injection ea_ with ea_ en_ ec_
    subst ea_
    subst ec_
    clear en_
    have p173 : 0 ≤ (x5_1 : Int) := oa_
    have q173 : x5_1 < (l0.length : Int) := oa_
    obtain ⟨ad173, A173_4, c173_4, e173, hx173_0, hx173_1, hx173_2, hx173_3, hx173_4, hl173_4, hi173_4⟩ := at_T43 HR0.out x5_1 p173 q173
    obtain rfl : ad170 = ad173 := (by injection e173)
    replace hx173_0 := pc_ HB.out hx173_0
    replace hx173_1 := pc_ HB.out hx173_1
    replace hx173_2 := pc_ HB.out hx173_2
    replace hx173_3 := pc_ HB.out hx173_3
    replace hx173_4 := pc_ HB.out hx173_4
    have HR173_4 := Aside0.mk hi173_4
    have HC173_4 := Aside0.mk hl173_4
    clear hi173_4 hl173_4
    replace p173 := eq_true p173
    replace q173 := eq_true q173
    have ea_ := Option.some.inj (hx170_4.symm.trans hx173_4)
    injection ea_ with ea_ en_ ec_
    subst ea_
    subst ec_
    clear en_
    have p174 : 0 ≤ (x5_1 : Int) := oa_
    have q174 : x5_1 < (l0.length : Int) := oa_
    obtain ⟨ad174, A174_4, c174_4, e174, hx174_0, hx174_1, hx174_2, hx174_3, hx174_4, hl174_4, hi174_4⟩ := at_T43 HR0.out x5_1 p174 q174
    obtain rfl : ad170 = ad174 := (by injection e174)
    replace hx174_0 := pc_ HB.out hx174_0
    replace hx174_1 := pc_ HB.out hx174_1
    replace hx174_2 := pc_ HB.out hx174_2
    replace hx174_3 := pc_ HB.out hx174_3
    replace hx174_4 := pc_ HB.out hx174_4
    have HR174_4 := Aside0.mk hi174_4
    have HC174_4 := Aside0.mk hl174_4
    clear hi174_4 hl174_4
    replace p174 := eq_true p174
    replace q174 := eq_true q174
    have ea_ := Option.some.inj (hx170_4.symm.trans hx174_4)
    injection ea_ with ea_ en_ ec_
    subst ea_
    subst ec_
    clear en_
    go_wp2_with (first | ((with_reducible refine gate_callee (f := 79) rfl ?_); refine gl_ 54 Try.func79 #[.slice A170_4 ((rd_T43 l0 x5_1).f4).length c170_4, .int .i64 (wrap64 ((wrap64 ((wrap64 ((wrap64 (x1_1 + 1)) + 1)) + 1)) + 1))] rfl ma_ ?_; (with_reducible refine (laws_heldStringS.calls k1 _ _ ((rd_T43 l0 x5_1).f4) (wrap64 ((wrap64 ((wrap64 ((wrap64 (x1_1 + 1)) + 1)) + 1)) + 1)) t175 _ ?side1 ?side2 A9.out).mono ?_); (case side1 => exact cs_ ((Kd.C_below HR174_4.out HB.out))); (case side2 => exact HC174_4.out); rintro e w11 ⟨rfl, hb⟩; refine ⟨_, rfl, ?_⟩; replace HB := nb_ hb; (try clear hb); (try clear hb2); (try clear hk); (try clear hi)))
    go_ret
    exact ⟨er_, hb_⟩
   have c10b0 := decide_eq_false c10
   clear c10
   have H' := Aside0.mk H
   clear H
   have p170 : 0 ≤ (x5_1 : Int) := oa_
   have q170 : x5_1 < (l0.length : Int) := oa_
   obtain ⟨ad170, A170_4, c170_4, e170, hx170_0, hx170_1, hx170_2, hx170_3, hx170_4, hl170_4, hi170_4⟩ := at_T43 HR0.out x5_1 p170 q170
   cases e170
   replace hx170_0 := pc_ HB.out hx170_0
   replace hx170_1 := pc_ HB.out hx170_1
   replace hx170_2 := pc_ HB.out hx170_2
   replace hx170_3 := pc_ HB.out hx170_3
   replace hx170_4 := pc_ HB.out hx170_4
   have HR170_4 := Aside0.mk hi170_4
   have HC170_4 := Aside0.mk hl170_4
   clear hi170_4 hl170_4
   replace p170 := eq_true p170
   replace q170 := eq_true q170
   have p171 : 0 ≤ (x5_1 : Int) := oa_
   have q171 : x5_1 < (l0.length : Int) := oa_
   obtain ⟨ad171, A171_4, c171_4, e171, hx171_0, hx171_1, hx171_2, hx171_3, hx171_4, hl171_4, hi171_4⟩ := at_T43 HR0.out x5_1 p171 q171
   obtain rfl : ad170 = ad171 := (by injection e171)
   replace hx171_0 := pc_ HB.out hx171_0
   replace hx171_1 := pc_ HB.out hx171_1
   replace hx171_2 := pc_ HB.out hx171_2
   replace hx171_3 := pc_ HB.out hx171_3
   replace hx171_4 := pc_ HB.out hx171_4
   have HR171_4 := Aside0.mk hi171_4
   have HC171_4 := Aside0.mk hl171_4
   clear hi171_4 hl171_4
   replace p171 := eq_true p171
   replace q171 := eq_true q171
   have ea_ := Option.some.inj (hx170_4.symm.trans hx171_4)
   injection ea_ with ea_ en_ ec_
   subst ea_
   subst ec_
   clear en_
   have p172 : 0 ≤ (x5_1 : Int) := oa_
   have q172 : x5_1 < (l0.length : Int) := oa_
   obtain ⟨ad172, A172_4, c172_4, e172, hx172_0, hx172_1, hx172_2, hx172_3, hx172_4, hl172_4, hi172_4⟩ := at_T43 HR0.out x5_1 p172 q172
   obtain rfl : ad170 = ad172 := (by injection e172)
   replace hx172_0 := pc_ HB.out hx172_0
   replace hx172_1 := pc_ HB.out hx172_1
   replace hx172_2 := pc_ HB.out hx172_2
   replace hx172_3 := pc_ HB.out hx172_3
   replace hx172_4 := pc_ HB.out hx172_4
   have HR172_4 := Aside0.mk hi172_4
   have HC172_4 := Aside0.mk hl172_4
   clear hi172_4 hl172_4
   replace p172 := eq_true p172
   replace q172 := eq_true q172
   have ea_ := Option.some.inj (hx170_4.symm.trans hx172_4)
   injection ea_ with ea_ en_ ec_
   subst ea_
   subst ec_
   clear en_
   have p173 : 0 ≤ (x5_1 : Int) := oa_
   have q173 : x5_1 < (l0.length : Int) := oa_
   obtain ⟨ad173, A173_4, c173_4, e173, hx173_0, hx173_1, hx173_2, hx173_3, hx173_4, hl173_4, hi173_4⟩ := at_T43 HR0.out x5_1 p173 q173
   obtain rfl : ad170 = ad173 := (by injection e173)
   replace hx173_0 := pc_ HB.out hx173_0
   replace hx173_1 := pc_ HB.out hx173_1
   replace hx173_2 := pc_ HB.out hx173_2
   replace hx173_3 := pc_ HB.out hx173_3
   replace hx173_4 := pc_ HB.out hx173_4
   have HR173_4 := Aside0.mk hi173_4
   have HC173_4 := Aside0.mk hl173_4
   clear hi173_4 hl173_4
   replace p173 := eq_true p173
   replace q173 := eq_true q173
   have ea_ := Option.some.inj (hx170_4.symm.trans hx173_4)
   injection ea_ with ea_ en_ ec_
   subst ea_
   subst ec_
   clear en_
   have p174 : 0 ≤ (x5_1 : Int) := oa_
   have q174 : x5_1 < (l0.length : Int) := oa_
   obtain ⟨ad174, A174_4, c174_4, e174, hx174_0, hx174_1, hx174_2, hx174_3, hx174_4, hl174_4, hi174_4⟩ := at_T43 HR0.out x5_1 p174 q174
   obtain rfl : ad170 = ad174 := (by injection e174)
   replace hx174_0 := pc_ HB.out hx174_0
   replace hx174_1 := pc_ HB.out hx174_1
   replace hx174_2 := pc_ HB.out hx174_2
   replace hx174_3 := pc_ HB.out hx174_3
   replace hx174_4 := pc_ HB.out hx174_4
   have HR174_4 := Aside0.mk hi174_4
   have HC174_4 := Aside0.mk hl174_4
   clear hi174_4 hl174_4
   replace p174 := eq_true p174
   replace q174 := eq_true q174
   have ea_ := Option.some.inj (hx170_4.symm.trans hx174_4)
   injection ea_ with ea_ en_ ec_
   subst ea_
   subst ec_
   clear en_
   go_wp2_with (first | ((with_reducible refine gate_callee (f := 79) rfl ?_); refine gl_ 54 Try.func79 #[.slice A170_4 ((rd_T43 l0 x5_1).f4).length c170_4, .int .i64 (wrap64 ((wrap64 ((wrap64 ((wrap64 (x1_1 + 1)) + 1)) + 1)) + 1))] rfl ma_ ?_; (with_reducible refine (laws_heldStringS.calls k1 _ _ ((rd_T43 l0 x5_1).f4) (wrap64 ((wrap64 ((wrap64 ((wrap64 (x1_1 + 1)) + 1)) + 1)) + 1)) t175 _ ?side1 ?side2 A9.out).mono ?_); (case side1 => exact cs_ ((Kd.C_below HR174_4.out HB.out))); (case side2 => exact HC174_4.out); rintro e w12 ⟨rfl, hb⟩; refine ⟨_, rfl, ?_⟩; replace HB := nb_ hb; (try clear hb); (try clear hb2); (try clear hk); (try clear hi)))
   go_roundg k1
   case measure => have := HK1.out; omega
   case rel => exact ⟨(t175), (wrap64 (x5_1 + 1)), sr_, sr_, H', ⟨by have := HK1.out; omega⟩, ⟨hb_⟩⟩

/-! ### spec_l1In: function 57 -/
def spec_l1In.f (a0 : Int) (a1 : Int) (a2 : Int) : Option (Bool) := if a0 ≥ a1 then (some (decide (a0 ≤ a2))) else (some false)
set_option maxHeartbeats 8000000 in
set_option maxRecDepth 100000 in
theorem spec_l1In.calls (a0 : Int) (a1 : Int) (a2 : Int) (r : Bool) (w : World) (h : spec_l1In.f a0 a1 a2 = some r) :
  Calls Try.prog 57 #[.int .i64 a0, .int .i64 a1, .int .i64 a2] w fun e w' => e = .returned (.bool r) ∧ Drawn0 w w' := by
 have H : (if a0 ≥ a1 then (some (decide (a0 ≤ a2))) else (some false)) = some r := h
 clear h
 replace H := ite_ H
 obtain ⟨c4, H⟩ | ⟨c4, H⟩ := H
 rotate_left
 ·have c4b0 := dne_ c4
  clear c4
  obtain rfl := Option.some.inj H
  go_enter Try.func57, Try.ntmps57
  go_wp2
  go_ret
  exact ⟨by first | rfl | (simp; done) | (simp [*]; done), dr_⟩
 have c4b0 := dge_ c4
 clear c4
 obtain rfl := Option.some.inj H
 go_enter Try.func57, Try.ntmps57
 go_wp2
 go_ret
 exact ⟨by first | rfl | (simp; done) | (simp [*]; done), dr_⟩

end Go.Proofs.Ytffpeklekkpbjaa.QFnExactReadFrom
