/- Functions that one statement reaches: of each a plain function, and the proof that calls come to it. Conditions: those that each contract names. Written by a program of this repository. -/
import Derived.Test.YtojdaolclcmalaaVNewParta
import Derived.Test.YtojdaolclcmalaaQFnExactNewPartx0
import Derived.Test.YtojdaolclcmalaaQFnExactNewPartx3
import Derived.Test.YtojdaolclcmalaaQFnExactNewPartx4
namespace Go.Proofs.Ytojdaolclcmalaa.QFnExactNewPart
open Go.RowKit Go.Proofs.YtojdaolclcmalaaW.PrintWords Go.Proofs.YtojdaolclcmalaaW.PrintLast Go.Proofs.YtojdaolclcmalaaW.PrintMore
attribute [local go_sem] max2_int min2_int max_two min_two max_three min_three max_four min_four Go.Proofs.YtojdaolclcmalaaW.PrintMore2.isSome_setCell   -- for this text's walks alone
set_option linter.unusedVariables false
set_option linter.unusedSimpArgs false

/-! ### laws_heldStringS: function 18 -/
def laws_heldStringS.l0 : Nat → List ByteArray → Int → Int → Option (Int)
 | 0, _, _, _ => none
 | k + 1, x0, x1, x5 => if x5 < (x0.length : Int) then (if 0 ≤ x5 then ((laws_markText.f k x1).bind fun t141 => (if (rdOf ByteArray.empty x0 x5).toList = t141.toList then (laws_heldStringS.l0 k x0 (wrap64 (x1 + 1)) (wrap64 (x5 + 1))) else (some (-1)))) else (none)) else (some x1)
def laws_heldStringS.f (k : Nat) (l0 : List ByteArray) (a1 : Int) : Option (Int) := laws_heldStringS.l0 k l0 a1 0
theorem laws_heldStringS.mono_l : ∀ k, (∀ y0 y1 y2, LeO (laws_heldStringS.l0 k y0 y1 y2) (laws_heldStringS.l0 (k + 1) y0 y1 y2))
 | 0 => fun _ _ _ r h => by simp [laws_heldStringS.l0] at h
 | k + 1 => by
  have ih0 := laws_heldStringS.mono_l k
  ·intro y0 y1 y2
   unfold laws_heldStringS.l0
   repeat' first
   | (with_reducible first | apply ih0 | apply laws_markText.mono | exact LeO.refl _ | exact LeO.none _ | refine LeO.ite ?_ ?_ | refine LeO.bind ?_ (fun _ => ?_))
theorem laws_heldStringS.mono : ∀ a0 a1 k, LeO (laws_heldStringS.f k a0 a1) (laws_heldStringS.f (k + 1) a0 a1) := by
 intro a0 a1 k
 have ih0 := laws_heldStringS.mono_l k
 unfold laws_heldStringS.f
 repeat' first
   | (with_reducible first | apply ih0 | apply laws_markText.mono | exact LeO.refl _ | exact LeO.none _ | refine LeO.ite ?_ ?_ | refine LeO.bind ?_ (fun _ => ?_))
set_option maxHeartbeats 8000000 in
set_option maxRecDepth 100000 in
theorem laws_heldStringS.calls (k : Nat) (A0 : Option Addr) (c0 : Nat) (l0 : List ByteArray) (a1 : Int) (r : Int) (w : World) (hr0 : Kd.C Kd.string w A0 l0.length l0) (hc0 : l0.length ≤ c0) (h : laws_heldStringS.f k l0 a1 = some r) :
  Calls Try.prog 18 #[.slice A0 l0.length c0, .int .i64 a1] w fun e w' => e = .returned (.int .i64 r) ∧ Below w.heap.size w w' := by
 have HR0 := Aside0.mk hr0
 have HC0 := Aside0.mk hc0
 clear hr0 hc0
 have HB := Aside0.mk (Below.refl w.heap.size w)
 have H : (laws_heldStringS.l0 k l0 a1 0) = some r := h
 clear h
 have H' := Aside0.mk H
 clear H
 go_enter Try.func18, Try.ntmps18
 go_wp2
 go_loopg [1, 5] k (fun kq v1 v5 w' => ∃ (x1_1 : Int) (x5_1 : Int), v1 = .int .i64 x1_1 ∧ v5 = .int .i64 x5_1 ∧ Aside0 (laws_heldStringS.l0 kq l0 x1_1 x5_1 = some r) ∧ Aside0 (kq ≤ k) ∧ Aside0 (Below w.heap.size w w'))
 case atStart => exact ⟨(a1), (0), sr_, sr_, H', ⟨Nat.le_refl _⟩, ⟨hb_⟩⟩
 case round =>
  clear H'
  obtain ⟨x1_1, x5_1, rfl, rfl, HA, HK1, HB⟩ := hrel
  cases gk with
  | zero => exact absurd HA.out (by simp [laws_heldStringS.l0])
  | succ k1 =>
   have H := HA.out
   clear HA
   simp only [laws_heldStringS.l0] at H
   replace H := ite_ H
   obtain ⟨c3, H⟩ | ⟨c3, H⟩ := H
   rotate_left
   ·have c3b0 := decide_eq_false c3
    clear c3
    obtain rfl := Option.some.inj H
    go_wp2
    go_ret
    exact ⟨er_, hb_⟩
   have c3b0 := decide_eq_true c3
   clear c3
   replace H := ifs_ H
   obtain ⟨c4, H⟩ := H
   have c4b0 := decide_eq_true c4
   clear c4
   replace H := bnd_ H
   obtain ⟨t141, A5, H⟩ := H
   replace H := ite_ H
   obtain ⟨c6, H⟩ | ⟨c6, H⟩ := H
   rotate_left
   ·have c6b0 : ((rdOf ByteArray.empty l0 x5_1).toList == t141.toList) = false := beq_eq_false_iff_ne.mpr c6
    have c6b1 : ((rdOf ByteArray.empty l0 x5_1).toList != t141.toList) = true := bne_iff_ne.mpr c6
    obtain rfl := Option.some.inj H
    try go_wp2
    replace HB := qH_ HB
    have p140 : 0 ≤ (x5_1 : Int) := oa_
    have q140 : x5_1 < (l0.length : Int) := oa_
    obtain ⟨ad140, e140, hx140_0⟩ := Kd.at_string HR0.out x5_1 p140 q140
    have hw140_0 := hx140_0
    cases e140
    replace hx140_0 := pc_ HB.out hx140_0
    replace p140 := eq_true p140
    replace q140 := eq_true q140
    refine start_ (n := 7) (S := fun w' => w'.cell? (ad140.add (x5_1).toNat) = some (.string (rdOf ByteArray.empty l0 x5_1))) (ds := []) #[false, false, false, false, false, false, false] (by kernel_rfl) rfl rfl ((pc_ HB.out hw140_0)) (fun hHeld => ?_)
    generalize wr.drew = w9 at HB hx140_0 hHeld ⊢
    refine pure_ (i := 0) (N := some 12) (v := ?_) (a' := ?_) #[true, false, false, false, false, false, false] rfl rfl (by kernel_rfl) (fun _ _ _ h => h) (Or.inl ⟨by rfl, ?_⟩) ?_ ?_
    rotate_left
    ·intro w'
     go_simp
     with_reducible rfl
    rotate_left
    ·simp only [Act.put, List.setIfInBounds_toArray, List.set_cons_zero, List.set_cons_succ, i64_w, i32_w]
     rfl
    refine pure_ (i := 1) (N := some 13) (v := ?_) (a' := ?_) #[true, true, false, false, false, false, false] rfl rfl (by kernel_rfl) (fun _ _ _ h => h) (Or.inl ⟨by rfl, ?_⟩) ?_ ?_
    rotate_left
    ·intro w'
     go_simp
     with_reducible rfl
    rotate_left
    ·simp only [Act.put, List.setIfInBounds_toArray, List.set_cons_zero, List.set_cons_succ, i64_w, i32_w]
     rfl
    refine pure_ (i := 2) (N := some 14) (v := ?_) (a' := ?_) #[true, true, true, false, false, false, false] rfl rfl (by kernel_rfl) (fun _ _ _ h => h) (Or.inl ⟨by rfl, ?_⟩) ?_ ?_
    rotate_left
    ·intro w'
     go_simp
     with_reducible rfl
    rotate_left
    ·simp only [Act.put, List.setIfInBounds_toArray, List.set_cons_zero, List.set_cons_succ, i64_w, i32_w]
     rfl
    refine pure_ (i := 4) (N := some 16) (v := ?_) (a' := ?_) #[true, true, true, false, true, false, false] rfl rfl (by kernel_rfl) (fun _ _ _ h => h) (Or.inl ⟨by rfl, ?_⟩) ?_ ?_
    rotate_left
    ·intro w'
     go_simp
     with_reducible rfl
    rotate_left
    ·simp only [Act.put, List.setIfInBounds_toArray, List.set_cons_zero, List.set_cons_succ, i64_w, i32_w]
     rfl
    refine take_ (i := 3) (N := some 15) (v := ?_) (a' := ?_) #[true, true, true, true, true, false, false] rfl rfl (by kernel_rfl) (fun _ _ _ h => h) (Or.inl ⟨by rfl, ?_⟩) hHeld ?_ ?_
    rotate_left
    ·intro w' s0
     go_simp
     with_reducible rfl
    rotate_left
    ·simp only [Act.put, List.setIfInBounds_toArray, List.set_cons_zero, List.set_cons_succ, i64_w, i32_w]
     rfl
    refine one_ (i := 5) (N := some 17) #[true, true, true, true, true, true, false] rfl rfl (by kernel_rfl) (by decide) (fun K hK => ?_)
    refine gs_ Try.func54 #[.int .i64 x1_1] rfl ma_ ?_
    with_reducible refine (laws_markText.calls k1 x1_1 t141 _ A5.out).mono ?_
    rintro e w10 ⟨rfl, hb⟩
    refine ⟨_, rfl, ?_⟩
    replace HB := nb_ hb
    (try clear hb)
    (try clear hb2)
    (try clear hk)
    (try clear hi)
    refine hK.out _ _ ((pc_ HB.out hw140_0)) (fun hHeld => ?_)
    clear hK K
    refine no_ ?_
    refine pure_ (i := 6) (N := some 18) (v := ?_) (a' := ?_) #[true, true, true, true, true, true, true] rfl rfl (by kernel_rfl) (fun _ _ _ h => h) (Or.inl ⟨by rfl, ?_⟩) ?_ ?_
    rotate_left
    ·intro w'
     go_simp
     with_reducible rfl
    rotate_left
    ·simp only [Act.put, List.setIfInBounds_toArray, List.set_cons_zero, List.set_cons_succ, i64_w, i32_w]
     rfl
    refine done_ (by kernel_rfl) ?_
    try go_wp2
    go_ret
    exact ⟨er_, hb_⟩
   have c6b0 : ((rdOf ByteArray.empty l0 x5_1).toList == t141.toList) = true := beq_iff_eq.mpr c6
   have c6b1 : ((rdOf ByteArray.empty l0 x5_1).toList != t141.toList) = false := bne_eq_false_iff_eq.mpr c6
   clear c6
   have H' := Aside0.mk H
   clear H
   try go_wp2
   replace HB := qH_ HB
   have p140 : 0 ≤ (x5_1 : Int) := oa_
   have q140 : x5_1 < (l0.length : Int) := oa_
   obtain ⟨ad140, e140, hx140_0⟩ := Kd.at_string HR0.out x5_1 p140 q140
   have hw140_0 := hx140_0
   cases e140
   replace hx140_0 := pc_ HB.out hx140_0
   replace p140 := eq_true p140
   replace q140 := eq_true q140
   refine start_ (n := 7) (S := fun w' => w'.cell? (ad140.add (x5_1).toNat) = some (.string (rdOf ByteArray.empty l0 x5_1))) (ds := []) #[false, false, false, false, false, false, false] (by kernel_rfl) rfl rfl ((pc_ HB.out hw140_0)) (fun hHeld => ?_)
   generalize wr.drew = w7 at HB hx140_0 hHeld ⊢
   refine pure_ (i := 0) (N := some 12) (v := ?_) (a' := ?_) #[true, false, false, false, false, false, false] rfl rfl (by kernel_rfl) (fun _ _ _ h => h) (Or.inl ⟨by rfl, ?_⟩) ?_ ?_
   rotate_left
   ·intro w'
    go_simp
    with_reducible rfl
   rotate_left
   ·simp only [Act.put, List.setIfInBounds_toArray, List.set_cons_zero, List.set_cons_succ, i64_w, i32_w]
    rfl
   refine pure_ (i := 1) (N := some 13) (v := ?_) (a' := ?_) #[true, true, false, false, false, false, false] rfl rfl (by kernel_rfl) (fun _ _ _ h => h) (Or.inl ⟨by rfl, ?_⟩) ?_ ?_
   rotate_left
   ·intro w'
    go_simp
    with_reducible rfl
   rotate_left
   ·simp only [Act.put, List.setIfInBounds_toArray, List.set_cons_zero, List.set_cons_succ, i64_w, i32_w]
    rfl
   refine pure_ (i := 2) (N := some 14) (v := ?_) (a' := ?_) #[true, true, true, false, false, false, false] rfl rfl (by kernel_rfl) (fun _ _ _ h => h) (Or.inl ⟨by rfl, ?_⟩) ?_ ?_
   rotate_left
   ·intro w'
    go_simp
    with_reducible rfl
   rotate_left
   ·simp only [Act.put, List.setIfInBounds_toArray, List.set_cons_zero, List.set_cons_succ, i64_w, i32_w]
    rfl
   refine pure_ (i := 4) (N := some 16) (v := ?_) (a' := ?_) #[true, true, true, false, true, false, false] rfl rfl (by kernel_rfl) (fun _ _ _ h => h) (Or.inl ⟨by rfl, ?_⟩) ?_ ?_
   rotate_left
   ·intro w'
    go_simp
    with_reducible rfl
   rotate_left
   ·simp only [Act.put, List.setIfInBounds_toArray, List.set_cons_zero, List.set_cons_succ, i64_w, i32_w]
    rfl
   refine take_ (i := 3) (N := some 15) (v := ?_) (a' := ?_) #[true, true, true, true, true, false, false] rfl rfl (by kernel_rfl) (fun _ _ _ h => h) (Or.inl ⟨by rfl, ?_⟩) hHeld ?_ ?_
   rotate_left
   ·intro w' s0
    go_simp
    with_reducible rfl
   rotate_left
   ·simp only [Act.put, List.setIfInBounds_toArray, List.set_cons_zero, List.set_cons_succ, i64_w, i32_w]
    rfl
   refine one_ (i := 5) (N := some 17) #[true, true, true, true, true, true, false] rfl rfl (by kernel_rfl) (by decide) (fun K hK => ?_)
   refine gs_ Try.func54 #[.int .i64 x1_1] rfl ma_ ?_
   with_reducible refine (laws_markText.calls k1 x1_1 t141 _ A5.out).mono ?_
   rintro e w8 ⟨rfl, hb⟩
   refine ⟨_, rfl, ?_⟩
   replace HB := nb_ hb
   (try clear hb)
   (try clear hb2)
   (try clear hk)
   (try clear hi)
   refine hK.out _ _ ((pc_ HB.out hw140_0)) (fun hHeld => ?_)
   clear hK K
   refine no_ ?_
   refine pure_ (i := 6) (N := some 18) (v := ?_) (a' := ?_) #[true, true, true, true, true, true, true] rfl rfl (by kernel_rfl) (fun _ _ _ h => h) (Or.inl ⟨by rfl, ?_⟩) ?_ ?_
   rotate_left
   ·intro w'
    go_simp
    with_reducible rfl
   rotate_left
   ·simp only [Act.put, List.setIfInBounds_toArray, List.set_cons_zero, List.set_cons_succ, i64_w, i32_w]
    rfl
   refine done_ (by kernel_rfl) ?_
   try go_wp2
   go_roundg k1
   case measure => have := HK1.out; omega
   case rel => exact ⟨(wrap64 (x1_1 + 1)), (wrap64 (x5_1 + 1)), sr_, sr_, H', ⟨by have := HK1.out; omega⟩, ⟨hb_⟩⟩

/-! ### laws_heldBatchS: function 60 -/
def laws_heldBatchS.l0 : Nat → List (S78) → Int → Int → Option (Int)
 | 0, _, _, _ => none
 | k + 1, x0, x1, x5 => if x5 < (x0.length : Int) then (if 0 ≤ x5 then (if ((rd_T78 x0 x5).f0) = x1 then (if ((rd_T78 x0 x5).f1) = (wrap64 (x1 + 1)) then (if ((rd_T78 x0 x5).f2) = (wrap64 ((wrap64 (x1 + 1)) + 1)) then (if ((rd_T78 x0 x5).f3) = (wrap64 ((wrap64 ((wrap64 (x1 + 1)) + 1)) + 1)) then ((laws_heldStringS.f k ((rd_T78 x0 x5).f4) (wrap64 ((wrap64 ((wrap64 ((wrap64 (x1 + 1)) + 1)) + 1)) + 1))).bind fun t147 => (if t147 < 0 then (some (-1)) else (laws_heldBatchS.l0 k x0 t147 (wrap64 (x5 + 1))))) else (some (-1))) else (some (-1))) else (some (-1))) else (some (-1))) else (none)) else (some x1)
def laws_heldBatchS.f (k : Nat) (l0 : List (S78)) (a1 : Int) : Option (Int) := laws_heldBatchS.l0 k l0 a1 0
theorem laws_heldBatchS.mono_l : ∀ k, (∀ y0 y1 y2, LeO (laws_heldBatchS.l0 k y0 y1 y2) (laws_heldBatchS.l0 (k + 1) y0 y1 y2))
 | 0 => fun _ _ _ r h => by simp [laws_heldBatchS.l0] at h
 | k + 1 => by
  have ih0 := laws_heldBatchS.mono_l k
  ·intro y0 y1 y2
   unfold laws_heldBatchS.l0
   repeat' first
   | (with_reducible first | apply ih0 | apply laws_heldStringS.mono | exact LeO.refl _ | exact LeO.none _ | refine LeO.ite ?_ ?_ | refine LeO.bind ?_ (fun _ => ?_))
theorem laws_heldBatchS.mono : ∀ a0 a1 k, LeO (laws_heldBatchS.f k a0 a1) (laws_heldBatchS.f (k + 1) a0 a1) := by
 intro a0 a1 k
 have ih0 := laws_heldBatchS.mono_l k
 unfold laws_heldBatchS.f
 repeat' first
   | (with_reducible first | apply ih0 | apply laws_heldStringS.mono | exact LeO.refl _ | exact LeO.none _ | refine LeO.ite ?_ ?_ | refine LeO.bind ?_ (fun _ => ?_))
set_option maxHeartbeats 8000000 in
set_option maxRecDepth 100000 in
theorem laws_heldBatchS.calls (k : Nat) (A0 : Option Addr) (c0 : Nat) (l0 : List (S78)) (a1 : Int) (r : Int) (w : World) (hr0 : Kd.C k78 w A0 l0.length l0) (hc0 : l0.length ≤ c0) (h : laws_heldBatchS.f k l0 a1 = some r) :
  Calls Try.prog 60 #[.slice A0 l0.length c0, .int .i64 a1] w fun e w' => e = .returned (.int .i64 r) ∧ Below w.heap.size w w' := by
 have HR0 := Aside0.mk hr0
 have HC0 := Aside0.mk hc0
 clear hr0 hc0
 have HB := Aside0.mk (Below.refl w.heap.size w)
 have H : (laws_heldBatchS.l0 k l0 a1 0) = some r := h
 clear h
 have H' := Aside0.mk H
 clear H
 go_enter Try.func60, Try.ntmps60
 go_wp2
 go_loopg [1, 5] k (fun kq v1 v5 w' => ∃ (x1_1 : Int) (x5_1 : Int), v1 = .int .i64 x1_1 ∧ v5 = .int .i64 x5_1 ∧ Aside0 (laws_heldBatchS.l0 kq l0 x1_1 x5_1 = some r) ∧ Aside0 (kq ≤ k) ∧ Aside0 (Below w.heap.size w w'))
 case atStart => exact ⟨(a1), (0), sr_, sr_, H', ⟨Nat.le_refl _⟩, ⟨hb_⟩⟩
 case round =>
  clear H'
  obtain ⟨x1_1, x5_1, rfl, rfl, HA, HK1, HB⟩ := hrel
  cases gk with
  | zero => exact absurd HA.out (by simp [laws_heldBatchS.l0])
  | succ k1 =>
   have H := HA.out
   clear HA
   simp only [laws_heldBatchS.l0] at H
   replace H := ite_ H
   obtain ⟨c3, H⟩ | ⟨c3, H⟩ := H
   rotate_left
   ·have c3b0 := decide_eq_false c3
    clear c3
    obtain rfl := Option.some.inj H
    go_wp2
    go_ret
    exact ⟨er_, hb_⟩
   have c3b0 := decide_eq_true c3
   clear c3
   replace H := ifs_ H
   obtain ⟨c4, H⟩ := H
   have c4b0 := decide_eq_true c4
   clear c4
   replace H := ite_ H
   obtain ⟨c5, H⟩ | ⟨c5, H⟩ := H
   rotate_left
   ·have c5b0 : (((rd_T78 l0 x5_1).f0) == x1_1) = false := beq_eq_false_iff_ne.mpr c5
    have c5b1 : (((rd_T78 l0 x5_1).f0) != x1_1) = true := bne_iff_ne.mpr c5
    obtain rfl := Option.some.inj H
    have p142 : 0 ≤ (x5_1 : Int) := oa_
    have q142 : x5_1 < (l0.length : Int) := oa_
    obtain ⟨ad142, A142_4, c142_4, e142, hx142_0, hx142_1, hx142_2, hx142_3, hx142_4, hl142_4, hi142_4⟩ := at_T78 HR0.out x5_1 p142 q142
    cases e142
    replace hx142_0 := pc_ HB.out hx142_0
    replace hx142_1 := pc_ HB.out hx142_1
    replace hx142_2 := pc_ HB.out hx142_2
    replace hx142_3 := pc_ HB.out hx142_3
    replace hx142_4 := pc_ HB.out hx142_4
    have HR142_4 := Aside0.mk hi142_4
    have HC142_4 := Aside0.mk hl142_4
    clear hi142_4 hl142_4
    replace p142 := eq_true p142
    replace q142 := eq_true q142
    go_wp2
    go_ret
    exact ⟨er_, hb_⟩
   have c5b0 : (((rd_T78 l0 x5_1).f0) == x1_1) = true := beq_iff_eq.mpr c5
   have c5b1 : (((rd_T78 l0 x5_1).f0) != x1_1) = false := bne_eq_false_iff_eq.mpr c5
   clear c5
   replace H := ite_ H
   obtain ⟨c6, H⟩ | ⟨c6, H⟩ := H
   rotate_left
   ·have c6b0 : (((rd_T78 l0 x5_1).f1) == (wrap64 (x1_1 + 1))) = false := beq_eq_false_iff_ne.mpr c6
    have c6b1 : (((rd_T78 l0 x5_1).f1) != (wrap64 (x1_1 + 1))) = true := bne_iff_ne.mpr c6
    obtain rfl := Option.some.inj H
    have p142 : 0 ≤ (x5_1 : Int) := oa_
    have q142 : x5_1 < (l0.length : Int) := oa_
    obtain ⟨ad142, A142_4, c142_4, e142, hx142_0, hx142_1, hx142_2, hx142_3, hx142_4, hl142_4, hi142_4⟩ := at_T78 HR0.out x5_1 p142 q142
    cases e142
    replace hx142_0 := pc_ HB.out hx142_0
    replace hx142_1 := pc_ HB.out hx142_1
    replace hx142_2 := pc_ HB.out hx142_2
    replace hx142_3 := pc_ HB.out hx142_3
    replace hx142_4 := pc_ HB.out hx142_4
    have HR142_4 := Aside0.mk hi142_4
    have HC142_4 := Aside0.mk hl142_4
    clear hi142_4 hl142_4
    replace p142 := eq_true p142
    replace q142 := eq_true q142
    have p143 : 0 ≤ (x5_1 : Int) := oa_
    have q143 : x5_1 < (l0.length : Int) := oa_
    obtain ⟨ad143, A143_4, c143_4, e143, hx143_0, hx143_1, hx143_2, hx143_3, hx143_4, hl143_4, hi143_4⟩ := at_T78 HR0.out x5_1 p143 q143
    obtain rfl : ad142 = ad143 := (by injection e143)
    replace hx143_0 := pc_ HB.out hx143_0
    replace hx143_1 := pc_ HB.out hx143_1
    replace hx143_2 := pc_ HB.out hx143_2
    replace hx143_3 := pc_ HB.out hx143_3
    replace hx143_4 := pc_ HB.out hx143_4
    have HR143_4 := Aside0.mk hi143_4
    have HC143_4 := Aside0.mk hl143_4
    clear hi143_4 hl143_4
    replace p143 := eq_true p143
    replace q143 := eq_true q143
    have ea_ := Option.some.inj (hx142_4.symm.trans hx143_4)
    injection ea_ with ea_ en_ ec_
    subst ea_
    subst ec_
    clear en_
    go_wp2
    go_ret
    exact ⟨er_, hb_⟩
   have c6b0 : (((rd_T78 l0 x5_1).f1) == (wrap64 (x1_1 + 1))) = true := beq_iff_eq.mpr c6
   have c6b1 : (((rd_T78 l0 x5_1).f1) != (wrap64 (x1_1 + 1))) = false := bne_eq_false_iff_eq.mpr c6
   clear c6
   replace H := ite_ H
   obtain ⟨c7, H⟩ | ⟨c7, H⟩ := H
   rotate_left
   ·have c7b0 : (((rd_T78 l0 x5_1).f2) == (wrap64 ((wrap64 (x1_1 + 1)) + 1))) = false := beq_eq_false_iff_ne.mpr c7
    have c7b1 : (((rd_T78 l0 x5_1).f2) != (wrap64 ((wrap64 (x1_1 + 1)) + 1))) = true := bne_iff_ne.mpr c7
    obtain rfl := Option.some.inj H
    have p142 : 0 ≤ (x5_1 : Int) := oa_
    have q142 : x5_1 < (l0.length : Int) := oa_
    obtain ⟨ad142, A142_4, c142_4, e142, hx142_0, hx142_1, hx142_2, hx142_3, hx142_4, hl142_4, hi142_4⟩ := at_T78 HR0.out x5_1 p142 q142
    cases e142
    replace hx142_0 := pc_ HB.out hx142_0
    replace hx142_1 := pc_ HB.out hx142_1
    replace hx142_2 := pc_ HB.out hx142_2
    replace hx142_3 := pc_ HB.out hx142_3
    replace hx142_4 := pc_ HB.out hx142_4
    have HR142_4 := Aside0.mk hi142_4
    have HC142_4 := Aside0.mk hl142_4
    clear hi142_4 hl142_4
    replace p142 := eq_true p142
    replace q142 := eq_true q142
    have p143 : 0 ≤ (x5_1 : Int) := oa_
    have q143 : x5_1 < (l0.length : Int) := oa_
    obtain ⟨ad143, A143_4, c143_4, e143, hx143_0, hx143_1, hx143_2, hx143_3, hx143_4, hl143_4, hi143_4⟩ := at_T78 HR0.out x5_1 p143 q143
    obtain rfl : ad142 = ad143 := (by injection e143)
    replace hx143_0 := pc_ HB.out hx143_0
    replace hx143_1 := pc_ HB.out hx143_1
    replace hx143_2 := pc_ HB.out hx143_2
    replace hx143_3 := pc_ HB.out hx143_3
    replace hx143_4 := pc_ HB.out hx143_4
    have HR143_4 := Aside0.mk hi143_4
    have HC143_4 := Aside0.mk hl143_4
    clear hi143_4 hl143_4
    replace p143 := eq_true p143
    replace q143 := eq_true q143
    have ea_ := Option.some.inj (hx142_4.symm.trans hx143_4)
    injection ea_ with ea_ en_ ec_
    subst ea_
    subst ec_
    clear en_
    have p144 : 0 ≤ (x5_1 : Int) := oa_
    have q144 : x5_1 < (l0.length : Int) := oa_
    obtain ⟨ad144, A144_4, c144_4, e144, hx144_0, hx144_1, hx144_2, hx144_3, hx144_4, hl144_4, hi144_4⟩ := at_T78 HR0.out x5_1 p144 q144
    obtain rfl : ad142 = ad144 := (by injection e144)
    replace hx144_0 := pc_ HB.out hx144_0
    replace hx144_1 := pc_ HB.out hx144_1
    replace hx144_2 := pc_ HB.out hx144_2
    replace hx144_3 := pc_ HB.out hx144_3
    replace hx144_4 := pc_ HB.out hx144_4
    have HR144_4 := Aside0.mk hi144_4
    have HC144_4 := Aside0.mk hl144_4
    clear hi144_4 hl144_4
    replace p144 := eq_true p144
    replace q144 := eq_true q144
    have ea_ := Option.some.inj (hx142_4.symm.trans hx144_4)
    injection ea_ with ea_ en_ ec_
    subst ea_
    subst ec_
    clear en_
    go_wp2
    go_ret
    exact ⟨er_, hb_⟩
   have c7b0 : (((rd_T78 l0 x5_1).f2) == (wrap64 ((wrap64 (x1_1 + 1)) + 1))) = true := beq_iff_eq.mpr c7
   have c7b1 : (((rd_T78 l0 x5_1).f2) != (wrap64 ((wrap64 (x1_1 + 1)) + 1))) = false := bne_eq_false_iff_eq.mpr c7
   clear c7
   replace H := ite_ H
   obtain ⟨c8, H⟩ | ⟨c8, H⟩ := H
   rotate_left
   ·have c8b0 : (((rd_T78 l0 x5_1).f3) == (wrap64 ((wrap64 ((wrap64 (x1_1 + 1)) + 1)) + 1))) = false := beq_eq_false_iff_ne.mpr c8
    have c8b1 : (((rd_T78 l0 x5_1).f3) != (wrap64 ((wrap64 ((wrap64 (x1_1 + 1)) + 1)) + 1))) = true := bne_iff_ne.mpr c8
    obtain rfl := Option.some.inj H
    have p142 : 0 ≤ (x5_1 : Int) := oa_
    have q142 : x5_1 < (l0.length : Int) := oa_
    obtain ⟨ad142, A142_4, c142_4, e142, hx142_0, hx142_1, hx142_2, hx142_3, hx142_4, hl142_4, hi142_4⟩ := at_T78 HR0.out x5_1 p142 q142
    cases e142
    replace hx142_0 := pc_ HB.out hx142_0
    replace hx142_1 := pc_ HB.out hx142_1
    replace hx142_2 := pc_ HB.out hx142_2
    replace hx142_3 := pc_ HB.out hx142_3
    replace hx142_4 := pc_ HB.out hx142_4
    have HR142_4 := Aside0.mk hi142_4
    have HC142_4 := Aside0.mk hl142_4
    clear hi142_4 hl142_4
    replace p142 := eq_true p142
    replace q142 := eq_true q142
    have p143 : 0 ≤ (x5_1 : Int) := oa_
    have q143 : x5_1 < (l0.length : Int) := oa_
    obtain ⟨ad143, A143_4, c143_4, e143, hx143_0, hx143_1, hx143_2, hx143_3, hx143_4, hl143_4, hi143_4⟩ := at_T78 HR0.out x5_1 p143 q143
    obtain rfl : ad142 = ad143 := (by injection e143)
    replace hx143_0 := pc_ HB.out hx143_0
    replace hx143_1 := pc_ HB.out hx143_1
    replace hx143_2 := pc_ HB.out hx143_2
    replace hx143_3 := pc_ HB.out hx143_3
    replace hx143_4 := pc_ HB.out hx143_4
    have HR143_4 := Aside0.mk hi143_4
    have HC143_4 := Aside0.mk hl143_4
    clear hi143_4 hl143_4
    replace p143 := eq_true p143
    replace q143 := eq_true q143
    have ea_ := Option.some.inj (hx142_4.symm.trans hx143_4)
    injection ea_ with ea_ en_ ec_
    subst ea_
    subst ec_
    clear en_
    have p144 : 0 ≤ (x5_1 : Int) := oa_
    have q144 : x5_1 < (l0.length : Int) := oa_
    obtain ⟨ad144, A144_4, c144_4, e144, hx144_0, hx144_1, hx144_2, hx144_3, hx144_4, hl144_4, hi144_4⟩ := at_T78 HR0.out x5_1 p144 q144
    obtain rfl : ad142 = ad144 := (by injection e144)
    replace hx144_0 := pc_ HB.out hx144_0
    replace hx144_1 := pc_ HB.out hx144_1
    replace hx144_2 := pc_ HB.out hx144_2
    replace hx144_3 := pc_ HB.out hx144_3
    replace hx144_4 := pc_ HB.out hx144_4
    have HR144_4 := Aside0.mk hi144_4
    have HC144_4 := Aside0.mk hl144_4
    clear hi144_4 hl144_4
    replace p144 := eq_true p144
    replace q144 := eq_true q144
    have ea_ := Option.some.inj (hx142_4.symm.trans hx144_4)
    injection ea_ with ea_ en_ ec_
    subst ea_
    subst ec_
    clear en_
    have p145 : 0 ≤ (x5_1 : Int) := oa_
    have q145 : x5_1 < (l0.length : Int) := oa_
    obtain ⟨ad145, A145_4, c145_4, e145, hx145_0, hx145_1, hx145_2, hx145_3, hx145_4, hl145_4, hi145_4⟩ := at_T78 HR0.out x5_1 p145 q145
    obtain rfl : ad142 = ad145 := (by injection e145)
    replace hx145_0 := pc_ HB.out hx145_0
    replace hx145_1 := pc_ HB.out hx145_1
    replace hx145_2 := pc_ HB.out hx145_2
    replace hx145_3 := pc_ HB.out hx145_3
    replace hx145_4 := pc_ HB.out hx145_4
    have HR145_4 := Aside0.mk hi145_4
    have HC145_4 := Aside0.mk hl145_4
    clear hi145_4 hl145_4
    replace p145 := eq_true p145
    replace q145 := eq_true q145
    have ea_ := Option.some.inj (hx142_4.symm.trans hx145_4)
    injection ea_ with ea_ en_ ec_
    subst ea_
    subst ec_
    clear en_
    go_wp2
    go_ret
    exact ⟨er_, hb_⟩
   have c8b0 : (((rd_T78 l0 x5_1).f3) == (wrap64 ((wrap64 ((wrap64 (x1_1 + 1)) + 1)) + 1))) = true := beq_iff_eq.mpr c8
   have c8b1 : (((rd_T78 l0 x5_1).f3) != (wrap64 ((wrap64 ((wrap64 (x1_1 + 1)) + 1)) + 1))) = false := bne_eq_false_iff_eq.mpr c8
   clear c8
   replace H := bnd_ H
   obtain ⟨t147, A9, H⟩ := H
   replace H := ite_ H
   obtain ⟨c10, H⟩ | ⟨c10, H⟩ := H
   ·have c10b0 := decide_eq_true c10
    clear c10
    obtain rfl := Option.some.inj H
    have p142 : 0 ≤ (x5_1 : Int) := oa_
    have q142 : x5_1 < (l0.length : Int) := oa_
    obtain ⟨ad142, A142_4, c142_4, e142, hx142_0, hx142_1, hx142_2, hx142_3, hx142_4, hl142_4, hi142_4⟩ := at_T78 HR0.out x5_1 p142 q142
    cases e142
    replace hx142_0 := pc_ HB.out hx142_0
    replace hx142_1 := pc_ HB.out hx142_1
    replace hx142_2 := pc_ HB.out hx142_2
    replace hx142_3 := pc_ HB.out hx142_3
    replace hx142_4 := pc_ HB.out hx142_4
    have HR142_4 := Aside0.mk hi142_4
    have HC142_4 := Aside0.mk hl142_4
    clear hi142_4 hl142_4
    replace p142 := eq_true p142
    replace q142 := eq_true q142
    have p143 : 0 ≤ (x5_1 : Int) := oa_
    have q143 : x5_1 < (l0.length : Int) := oa_
    obtain ⟨ad143, A143_4, c143_4, e143, hx143_0, hx143_1, hx143_2, hx143_3, hx143_4, hl143_4, hi143_4⟩ := at_T78 HR0.out x5_1 p143 q143
    obtain rfl : ad142 = ad143 := (by injection e143)
    replace hx143_0 := pc_ HB.out hx143_0
    replace hx143_1 := pc_ HB.out hx143_1
    replace hx143_2 := pc_ HB.out hx143_2
    replace hx143_3 := pc_ HB.out hx143_3
    replace hx143_4 := pc_ HB.out hx143_4
    have HR143_4 := Aside0.mk hi143_4
    have HC143_4 := Aside0.mk hl143_4
    clear hi143_4 hl143_4
    replace p143 := eq_true p143
    replace q143 := eq_true q143
    have ea_ := Option.some.inj (hx142_4.symm.trans hx143_4)
    injection ea_ with ea_ en_ ec_
    subst ea_
    subst ec_
    clear en_
    have p144 : 0 ≤ (x5_1 : Int) := oa_
    have q144 : x5_1 < (l0.length : Int) := oa_
    obtain ⟨ad144, A144_4, c144_4, e144, hx144_0, hx144_1, hx144_2, hx144_3, hx144_4, hl144_4, hi144_4⟩ := at_T78 HR0.out x5_1 p144 q144
    obtain rfl : ad142 = ad144 := (by injection e144)
    replace hx144_0 := pc_ HB.out hx144_0
    replace hx144_1 := pc_ HB.out hx144_1
    replace hx144_2 := pc_ HB.out hx144_2
    replace hx144_3 := pc_ HB.out hx144_3
    replace hx144_4 := pc_ HB.out hx144_4
    have HR144_4 := Aside0.mk hi144_4
    have HC144_4 := Aside0.mk hl144_4
    clear hi144_4 hl144_4
    replace p144 := eq_true p144
    replace q144 := eq_true q144
    have ea_ := Option.some.inj (hx142_4.symm.trans hx144_4)
    injection ea_ with ea_ en_ ec_
    subst ea_
    subst ec_
    clear en_
    have p145 : 0 ≤ (x5_1 : Int) := oa_
    have q145 : x5_1 < (l0.length : Int) := oa_
    obtain ⟨ad145, A145_4, c145_4, e145, hx145_0, hx145_1, hx145_2, hx145_3, hx145_4, hl145_4, hi145_4⟩ := at_T78 HR0.out x5_1 p145 q145
    obtain rfl : ad142 = ad145 := (by injection e145)
    replace hx145_0 := pc_ HB.out hx145_0
    replace hx145_1 := pc_ HB.out hx145_1
    replace hx145_2 := pc_ HB.out hx145_2
    replace hx145_3 := pc_ HB.out hx145_3
    replace hx145_4 := pc_ HB.out hx145_4
    have HR145_4 := Aside0.mk hi145_4
    have HC145_4 := Aside0.mk hl145_4
    clear hi145_4 hl145_4
    replace p145 := eq_true p145
    replace q145 := eq_true q145
    have ea_ := Option.some.inj (hx142_4.symm.trans hx145_4)
    injection ea_ with ea_ en_ ec_
    subst ea_
    subst ec_
    clear en_
    have p146 : 0 ≤ (x5_1 : Int) := oa_
    have q146 : x5_1 < (l0.length : Int) := oa_
    obtain ⟨ad146, A146_4, c146_4, e146, hx146_0, hx146_1, hx146_2, hx146_3, hx146_4, hl146_4, hi146_4⟩ := at_T78 HR0.out x5_1 p146 q146
    obtain rfl : ad142 = ad146 := (by injection e146)
    replace hx146_0 := pc_ HB.out hx146_0
    replace hx146_1 := pc_ HB.out hx146_1
    replace hx146_2 := pc_ HB.out hx146_2
    replace hx146_3 := pc_ HB.out hx146_3
    replace hx146_4 := pc_ HB.out hx146_4
    have HR146_4 := Aside0.mk hi146_4
    have HC146_4 := Aside0.mk hl146_4
    clear hi146_4 hl146_4
    replace p146 := eq_true p146
    replace q146 := eq_true q146
    have ea_ := Option.some.inj (hx142_4.symm.trans hx146_4)
    injection ea_ with ea_ en_ ec_
    subst ea_
    subst ec_
    clear en_
    go_wp2_with (first | ((with_reducible refine gate_callee (f := 18) rfl ?_); refine gl_ 54 Try.func18 #[.slice A142_4 ((rd_T78 l0 x5_1).f4).length c142_4, .int .i64 (wrap64 ((wrap64 ((wrap64 ((wrap64 (x1_1 + 1)) + 1)) + 1)) + 1))] rfl ma_ ?_; (with_reducible refine (laws_heldStringS.calls k1 _ _ ((rd_T78 l0 x5_1).f4) (wrap64 ((wrap64 ((wrap64 ((wrap64 (x1_1 + 1)) + 1)) + 1)) + 1)) t147 _ ?side1 ?side2 A9.out).mono ?_); (case side1 => exact cs_ ((Kd.C_below HR146_4.out HB.out))); (case side2 => exact HC146_4.out); rintro e w11 ⟨rfl, hb⟩; refine ⟨_, rfl, ?_⟩; replace HB := nb_ hb; (try clear hb); (try clear hb2); (try clear hk); (try clear hi)))
    go_ret
    exact ⟨er_, hb_⟩
   have c10b0 := decide_eq_false c10
   clear c10
   have H' := Aside0.mk H
   clear H
   have p142 : 0 ≤ (x5_1 : Int) := oa_
   have q142 : x5_1 < (l0.length : Int) := oa_
   obtain ⟨ad142, A142_4, c142_4, e142, hx142_0, hx142_1, hx142_2, hx142_3, hx142_4, hl142_4, hi142_4⟩ := at_T78 HR0.out x5_1 p142 q142
   cases e142
   replace hx142_0 := pc_ HB.out hx142_0
   replace hx142_1 := pc_ HB.out hx142_1
   replace hx142_2 := pc_ HB.out hx142_2
   replace hx142_3 := pc_ HB.out hx142_3
   replace hx142_4 := pc_ HB.out hx142_4
   have HR142_4 := Aside0.mk hi142_4
   have HC142_4 := Aside0.mk hl142_4
   clear hi142_4 hl142_4
   replace p142 := eq_true p142
   replace q142 := eq_true q142
   have p143 : 0 ≤ (x5_1 : Int) := oa_
   have q143 : x5_1 < (l0.length : Int) := oa_
   obtain ⟨ad143, A143_4, c143_4, e143, hx143_0, hx143_1, hx143_2, hx143_3, hx143_4, hl143_4, hi143_4⟩ := at_T78 HR0.out x5_1 p143 q143
   obtain rfl : ad142 = ad143 := (by injection e143)
   replace hx143_0 := pc_ HB.out hx143_0
   replace hx143_1 := pc_ HB.out hx143_1
   replace hx143_2 := pc_ HB.out hx143_2
   replace hx143_3 := pc_ HB.out hx143_3
   replace hx143_4 := pc_ HB.out hx143_4
   have HR143_4 := Aside0.mk hi143_4
   have HC143_4 := Aside0.mk hl143_4
   clear hi143_4 hl143_4
   replace p143 := eq_true p143
   replace q143 := eq_true q143
   have ea_ := Option.some.inj (hx142_4.symm.trans hx143_4)
   injection ea_ with ea_ en_ ec_
   subst ea_
   subst ec_
   clear en_
   have p144 : 0 ≤ (x5_1 : Int) := oa_
   have q144 : x5_1 < (l0.length : Int) := oa_
   obtain ⟨ad144, A144_4, c144_4, e144, hx144_0, hx144_1, hx144_2, hx144_3, hx144_4, hl144_4, hi144_4⟩ := at_T78 HR0.out x5_1 p144 q144
   obtain rfl : ad142 = ad144 := (by injection e144)
   replace hx144_0 := pc_ HB.out hx144_0
   replace hx144_1 := pc_ HB.out hx144_1
   replace hx144_2 := pc_ HB.out hx144_2
   replace hx144_3 := pc_ HB.out hx144_3
   replace hx144_4 := pc_ HB.out hx144_4
   have HR144_4 := Aside0.mk hi144_4
   have HC144_4 := Aside0.mk hl144_4
   clear hi144_4 hl144_4
   replace p144 := eq_true p144
   replace q144 := eq_true q144
   have ea_ := Option.some.inj (hx142_4.symm.trans hx144_4)
   injection ea_ with ea_ en_ ec_
   subst ea_
   subst ec_
   clear en_
   have p145 : 0 ≤ (x5_1 : Int) := oa_
   have q145 : x5_1 < (l0.length : Int) := oa_
   obtain ⟨ad145, A145_4, c145_4, e145, hx145_0, hx145_1, hx145_2, hx145_3, hx145_4, hl145_4, hi145_4⟩ := at_T78 HR0.out x5_1 p145 q145
   obtain rfl : ad142 = ad145 := (by injection e145)
   replace hx145_0 := pc_ HB.out hx145_0
   replace hx145_1 := pc_ HB.out hx145_1
   replace hx145_2 := pc_ HB.out hx145_2
   replace hx145_3 := pc_ HB.out hx145_3
   replace hx145_4 := pc_ HB.out hx145_4
   have HR145_4 := Aside0.mk hi145_4
   have HC145_4 := Aside0.mk hl145_4
   clear hi145_4 hl145_4
   replace p145 := eq_true p145
   replace q145 := eq_true q145
   have ea_ := Option.some.inj (hx142_4.symm.trans hx145_4)
   injection ea_ with ea_ en_ ec_
   subst ea_
   subst ec_
   clear en_
   have p146 : 0 ≤ (x5_1 : Int) := oa_
   have q146 : x5_1 < (l0.length : Int) := oa_
   obtain ⟨ad146, A146_4, c146_4, e146, hx146_0, hx146_1, hx146_2, hx146_3, hx146_4, hl146_4, hi146_4⟩ := at_T78 HR0.out x5_1 p146 q146
   obtain rfl : ad142 = ad146 := (by injection e146)
   replace hx146_0 := pc_ HB.out hx146_0
   replace hx146_1 := pc_ HB.out hx146_1
   replace hx146_2 := pc_ HB.out hx146_2
   replace hx146_3 := pc_ HB.out hx146_3
   replace hx146_4 := pc_ HB.out hx146_4
   have HR146_4 := Aside0.mk hi146_4
   have HC146_4 := Aside0.mk hl146_4
   clear hi146_4 hl146_4
   replace p146 := eq_true p146
   replace q146 := eq_true q146
   have ea_ := Option.some.inj (hx142_4.symm.trans hx146_4)
   injection ea_ with ea_ en_ ec_
   subst ea_
   subst ec_
   clear en_
   go_wp2_with (first | ((with_reducible refine gate_callee (f := 18) rfl ?_); refine gl_ 54 Try.func18 #[.slice A142_4 ((rd_T78 l0 x5_1).f4).length c142_4, .int .i64 (wrap64 ((wrap64 ((wrap64 ((wrap64 (x1_1 + 1)) + 1)) + 1)) + 1))] rfl ma_ ?_; (with_reducible refine (laws_heldStringS.calls k1 _ _ ((rd_T78 l0 x5_1).f4) (wrap64 ((wrap64 ((wrap64 ((wrap64 (x1_1 + 1)) + 1)) + 1)) + 1)) t147 _ ?side1 ?side2 A9.out).mono ?_); (case side1 => exact cs_ ((Kd.C_below HR146_4.out HB.out))); (case side2 => exact HC146_4.out); rintro e w12 ⟨rfl, hb⟩; refine ⟨_, rfl, ?_⟩; replace HB := nb_ hb; (try clear hb); (try clear hb2); (try clear hk); (try clear hi)))
   go_roundg k1
   case measure => have := HK1.out; omega
   case rel => exact ⟨(t147), (wrap64 (x5_1 + 1)), sr_, sr_, H', ⟨by have := HK1.out; omega⟩, ⟨hb_⟩⟩

/-! ### laws_heldPart: function 27 -/
def laws_heldPart.f (k : Nat) (l0_0 : List (S81)) (l0_1 : List (S78)) (a0_2 : Int) (a1 : Int) : Option (Int) := (laws_heldProducerS.f k l0_0 a1).bind fun t149 => (if t149 < 0 then (some (-1)) else ((laws_heldBatchS.f k l0_1 t149).bind fun t150 => (if t150 < 0 then (some (-1)) else (some t150))))
theorem laws_heldPart.mono : ∀ a0 a1 a2 a3 k, LeO (laws_heldPart.f k a0 a1 a2 a3) (laws_heldPart.f (k + 1) a0 a1 a2 a3) := by
 intro a0 a1 a2 a3 k
 unfold laws_heldPart.f
 repeat' first
   | (with_reducible first | apply laws_heldBatchS.mono | apply laws_heldProducerS.mono | exact LeO.refl _ | exact LeO.none _ | refine LeO.ite ?_ ?_ | refine LeO.bind ?_ (fun _ => ?_))
set_option maxHeartbeats 8000000 in
set_option maxRecDepth 100000 in
theorem laws_heldPart.calls (k : Nat) (A0_0 : Option Addr) (c0_0 : Nat) (l0_0 : List (S81)) (A0_1 : Option Addr) (c0_1 : Nat) (l0_1 : List (S78)) (a0_2 : Int) (a1 : Int) (r : Int) (w : World) (hr0_0 : Kd.C k81 w A0_0 l0_0.length l0_0) (hc0_0 : l0_0.length ≤ c0_0) (hr0_1 : Kd.C k78 w A0_1 l0_1.length l0_1) (hc0_1 : l0_1.length ≤ c0_1) (h : laws_heldPart.f k l0_0 l0_1 a0_2 a1 = some r) :
  Calls Try.prog 27 #[.agg #[.slice A0_0 l0_0.length c0_0, .slice A0_1 l0_1.length c0_1, .int .i64 a0_2], .int .i64 a1] w fun e w' => e = .returned (.int .i64 r) ∧ Below w.heap.size w w' := by
 have hu33 := Try.underlying33
 have HR0_0 := Aside0.mk hr0_0
 have HC0_0 := Aside0.mk hc0_0
 clear hr0_0 hc0_0
 have HR0_1 := Aside0.mk hr0_1
 have HC0_1 := Aside0.mk hc0_1
 clear hr0_1 hc0_1
 have HB := Aside0.mk (Below.refl w.heap.size w)
 have H : ((laws_heldProducerS.f k l0_0 a1).bind fun t149 => (if t149 < 0 then (some (-1)) else ((laws_heldBatchS.f k l0_1 t149).bind fun t150 => (if t150 < 0 then (some (-1)) else (some t150))))) = some r := h
 clear h
 replace H := bnd_ H
 obtain ⟨t149, A3, H⟩ := H
 replace H := ite_ H
 obtain ⟨c4, H⟩ | ⟨c4, H⟩ := H
 ·have c4b0 := decide_eq_true c4
  clear c4
  obtain rfl := Option.some.inj H
  go_enter Try.func27, Try.ntmps27
  go_wp2_with (first | ((with_reducible refine gate_dst (N := 2) rfl ?_); refine bq_ (N := 2) #[.slice A0_0 l0_0.length c0_0, .slice A0_1 l0_1.length c0_1, .int .i64 a0_2] 33 ?_; intro gb148 hg w5 BK148 hb; have GE148 := ge_ hg; replace HB := nb_ hb; clear hb hg; obtain ⟨hcz6_0, hcz6_1, hcz6_2, hfz6_0, hfz6_1, hfz6_2⟩ := cf3_ BK148.out) | ((with_reducible refine gate_callee (f := 59) rfl ?_); refine gl_ 8 Try.func59 #[.slice A0_0 l0_0.length c0_0, .int .i64 a1] rfl ma_ ?_; (with_reducible refine (laws_heldProducerS.calls k _ _ l0_0 a1 t149 _ ?side1 ?side2 A3.out).mono ?_); (case side1 => exact cs_ ((Kd.C_below HR0_0.out HB.out))); (case side2 => exact HC0_0.out); rintro e w' ⟨rfl, ⟨nd, rfl⟩⟩; refine ⟨_, rfl, ?_⟩))
  go_ret
  exact ⟨er_, hs_ GE148.out⟩
 have c4b0 := decide_eq_false c4
 clear c4
 replace H := bnd_ H
 obtain ⟨t150, A7, H⟩ := H
 replace H := ite_ H
 obtain ⟨c8, H⟩ | ⟨c8, H⟩ := H
 ·have c8b0 := decide_eq_true c8
  clear c8
  obtain rfl := Option.some.inj H
  go_enter Try.func27, Try.ntmps27
  go_wp2_with (first | ((with_reducible refine gate_dst (N := 2) rfl ?_); refine bq_ (N := 2) #[.slice A0_0 l0_0.length c0_0, .slice A0_1 l0_1.length c0_1, .int .i64 a0_2] 33 ?_; intro gb148 hg w9 BK148 hb; have GE148 := ge_ hg; replace HB := nb_ hb; clear hb hg; obtain ⟨hcz10_0, hcz10_1, hcz10_2, hfz10_0, hfz10_1, hfz10_2⟩ := cf3_ BK148.out) | ((with_reducible refine gate_callee (f := 59) rfl ?_); refine gl_ 8 Try.func59 #[.slice A0_0 l0_0.length c0_0, .int .i64 a1] rfl ma_ ?_; (with_reducible refine (laws_heldProducerS.calls k _ _ l0_0 a1 t149 _ ?side1 ?side2 A3.out).mono ?_); (case side1 => exact cs_ ((Kd.C_below HR0_0.out HB.out))); (case side2 => exact HC0_0.out); rintro e w' ⟨rfl, ⟨nd, rfl⟩⟩; refine ⟨_, rfl, ?_⟩) | ((with_reducible refine gate_callee (f := 60) rfl ?_); refine gl_ 14 Try.func60 #[.slice A0_1 l0_1.length c0_1, .int .i64 t149] rfl ma_ ?_; (with_reducible refine (laws_heldBatchS.calls k _ _ l0_1 t149 t150 _ ?side1 ?side2 A7.out).mono ?_); (case side1 => exact cs_ ((Kd.C_below HR0_1.out (hs_ GE148.out)))); (case side2 => exact HC0_1.out); rintro e w11 ⟨rfl, hb⟩; refine ⟨_, rfl, ?_⟩; replace BK148 := bK_ BK148 hb; replace HB := nc_ GE148 hb; (try clear hb); (try clear hb2); (try clear hk); (try clear hi)))
  go_ret
  exact ⟨er_, hs_ GE148.out⟩
 have c8b0 := decide_eq_false c8
 clear c8
 obtain rfl := Option.some.inj H
 go_enter Try.func27, Try.ntmps27
 go_wp2_with (first | ((with_reducible refine gate_dst (N := 2) rfl ?_); refine bq_ (N := 2) #[.slice A0_0 l0_0.length c0_0, .slice A0_1 l0_1.length c0_1, .int .i64 a0_2] 33 ?_; intro gb148 hg w12 BK148 hb; have GE148 := ge_ hg; replace HB := nb_ hb; clear hb hg; obtain ⟨hcz13_0, hcz13_1, hcz13_2, hfz13_0, hfz13_1, hfz13_2⟩ := cf3_ BK148.out) | ((with_reducible refine gate_callee (f := 59) rfl ?_); refine gl_ 8 Try.func59 #[.slice A0_0 l0_0.length c0_0, .int .i64 a1] rfl ma_ ?_; (with_reducible refine (laws_heldProducerS.calls k _ _ l0_0 a1 t149 _ ?side1 ?side2 A3.out).mono ?_); (case side1 => exact cs_ ((Kd.C_below HR0_0.out HB.out))); (case side2 => exact HC0_0.out); rintro e w' ⟨rfl, ⟨nd, rfl⟩⟩; refine ⟨_, rfl, ?_⟩) | ((with_reducible refine gate_callee (f := 60) rfl ?_); refine gl_ 14 Try.func60 #[.slice A0_1 l0_1.length c0_1, .int .i64 t149] rfl ma_ ?_; (with_reducible refine (laws_heldBatchS.calls k _ _ l0_1 t149 t150 _ ?side1 ?side2 A7.out).mono ?_); (case side1 => exact cs_ ((Kd.C_below HR0_1.out (hs_ GE148.out)))); (case side2 => exact HC0_1.out); rintro e w14 ⟨rfl, hb⟩; refine ⟨_, rfl, ?_⟩; replace BK148 := bK_ BK148 hb; replace HB := nc_ GE148 hb; (try clear hb); (try clear hb2); (try clear hk); (try clear hi)))
 go_ret
 exact ⟨er_, hs_ GE148.out⟩

/-! ### spec_l1In: function 82 -/
def spec_l1In.f (a0 : Int) (a1 : Int) (a2 : Int) : Option (Bool) := if a0 ≥ a1 then (some (decide (a0 ≤ a2))) else (some false)
set_option maxHeartbeats 8000000 in
set_option maxRecDepth 100000 in
theorem spec_l1In.calls (a0 : Int) (a1 : Int) (a2 : Int) (r : Bool) (w : World) (h : spec_l1In.f a0 a1 a2 = some r) :
  Calls Try.prog 82 #[.int .i64 a0, .int .i64 a1, .int .i64 a2] w fun e w' => e = .returned (.bool r) ∧ Drawn0 w w' := by
 have H : (if a0 ≥ a1 then (some (decide (a0 ≤ a2))) else (some false)) = some r := h
 clear h
 replace H := ite_ H
 obtain ⟨c4, H⟩ | ⟨c4, H⟩ := H
 rotate_left
 ·have c4b0 := dne_ c4
  clear c4
  obtain rfl := Option.some.inj H
  go_enter Try.func82, Try.ntmps82
  go_wp2
  go_ret
  exact ⟨by first | rfl | (simp; done) | (simp [*]; done), dr_⟩
 have c4b0 := dge_ c4
 clear c4
 obtain rfl := Option.some.inj H
 go_enter Try.func82, Try.ntmps82
 go_wp2
 go_ret
 exact ⟨by first | rfl | (simp; done) | (simp [*]; done), dr_⟩

end Go.Proofs.Ytojdaolclcmalaa.QFnExactNewPart
