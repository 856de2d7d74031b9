/- For each Go function that one statement reaches: a plain function with the same answers, and the proof that the call comes to them. Conditions: those that each contract names. Written by a program of this repository. -/
import Derived.Test.YtpdpipfkllfhmaaVSurvivesIna
import Derived.Test.YtpdpipfkllfhmaaQFnExactSurvivesInx0
import Derived.Test.YtpdpipfkllfhmaaQFnExactSurvivesInx1
namespace Go.Proofs.Ytpdpipfkllfhmaa.QFnExactSurvivesIn
open Go.RowKit Go.Proofs.YtpdpipfkllfhmaaW.PrintWords Go.Proofs.YtpdpipfkllfhmaaW.PrintLast Go.Proofs.YtpdpipfkllfhmaaW.PrintMore
attribute [local go_sem] max2_int min2_int max_two min_two max_three min_three max_four min_four Go.Proofs.YtpdpipfkllfhmaaW.PrintMore2.isSome_setCell   -- for this text's walks alone
set_option linter.unusedVariables false
set_option linter.unusedSimpArgs false

/-! ### spec_l1Sum: function 87 -/
mutual
def spec_l1Sum.l0 : Nat → ByteArray → Int → Int → Option (Int)
 | 0, _, _, _ => none
 | k + 1, x0, x3, x4 => if x4 < (x0.size : Int) then (if 0 ≤ x4 then (spec_l1Sum.l1 k x0 (Go.bits .xor .i64 x3 (wrap64 ((wrap64 (bt x0 x4)) * 256))) x4 0) else (none)) else (some x3)
def spec_l1Sum.l1 : Nat → ByteArray → Int → Int → Int → Option (Int)
 | 0, _, _, _, _ => none
 | k + 1, x0, x3, x4, x5 => if x5 < 8 then (if (wrap64 (x3 * 2)) > 65535 then (spec_l1Sum.l1 k x0 (Go.bits .xor .i64 (Go.bits .and .i64 (wrap64 (x3 * 2)) 65535) 4129) x4 (wrap64 (x5 + 1))) else (spec_l1Sum.l1 k x0 (wrap64 (x3 * 2)) x4 (wrap64 (x5 + 1)))) else (spec_l1Sum.l0 k x0 x3 (wrap64 (x4 + 1)))
end
def spec_l1Sum.f (k : Nat) (a0 : ByteArray) : Option (Int) := spec_l1Sum.l0 k a0 65535 0
theorem spec_l1Sum.mono_l : ∀ k, (∀ y0 y1 y2, LeO (spec_l1Sum.l0 k y0 y1 y2) (spec_l1Sum.l0 (k + 1) y0 y1 y2)) ∧ (∀ y0 y1 y2 y3, LeO (spec_l1Sum.l1 k y0 y1 y2 y3) (spec_l1Sum.l1 (k + 1) y0 y1 y2 y3))
 | 0 => ⟨fun _ _ _ r h => by simp [spec_l1Sum.l0] at h, fun _ _ _ _ r h => by simp [spec_l1Sum.l1] at h⟩
 | k + 1 => by
  obtain ⟨ih0, ih1⟩ := spec_l1Sum.mono_l k
  refine ⟨?_, ?_⟩
  ·intro y0 y1 y2
   unfold spec_l1Sum.l0
   repeat' first
   | (with_reducible exact ih0 _ _ _)
   | (with_reducible exact ih1 _ _ _ _)
   | (with_reducible exact LeO.refl _)
   | (with_reducible exact LeO.none _)
   | (with_reducible refine LeO.ite ?_ ?_)
   | (with_reducible refine LeO.bind ?_ (fun _ => ?_))
   | exact ih0 _ _ _
   | exact ih1 _ _ _ _
   | exact LeO.none _
   | refine LeO.ite ?_ ?_
   | refine LeO.bind ?_ (fun _ => ?_)
  ·intro y0 y1 y2 y3
   unfold spec_l1Sum.l1
   repeat' first
   | (with_reducible exact ih0 _ _ _)
   | (with_reducible exact ih1 _ _ _ _)
   | (with_reducible exact LeO.refl _)
   | (with_reducible exact LeO.none _)
   | (with_reducible refine LeO.ite ?_ ?_)
   | (with_reducible refine LeO.bind ?_ (fun _ => ?_))
   | exact ih0 _ _ _
   | exact ih1 _ _ _ _
   | exact LeO.none _
   | refine LeO.ite ?_ ?_
   | refine LeO.bind ?_ (fun _ => ?_)
theorem spec_l1Sum.mono : ∀ a0 k, LeO (spec_l1Sum.f k a0) (spec_l1Sum.f (k + 1) a0) := by
 intro a0 k
 obtain ⟨ih0, ih1⟩ := spec_l1Sum.mono_l k
 unfold spec_l1Sum.f
 repeat' first
   | (with_reducible exact ih0 _ _ _)
   | (with_reducible exact ih1 _ _ _ _)
   | (with_reducible exact LeO.refl _)
   | (with_reducible exact LeO.none _)
   | (with_reducible refine LeO.ite ?_ ?_)
   | (with_reducible refine LeO.bind ?_ (fun _ => ?_))
   | exact ih0 _ _ _
   | exact ih1 _ _ _ _
   | exact LeO.none _
   | refine LeO.ite ?_ ?_
   | refine LeO.bind ?_ (fun _ => ?_)
set_option maxHeartbeats 8000000 in
set_option maxRecDepth 100000 in
theorem spec_l1Sum.calls (k : Nat) (a0 : ByteArray) (r : Int) (w : World) (h : spec_l1Sum.f k a0 = some r) :
  Calls Try.prog 87 #[.string a0] w fun e w' => e = .returned (.int .i64 r) ∧ Drawn0 w w' := by
 have H : (spec_l1Sum.l0 k a0 65535 0) = some r := h
 clear h
 have H' := Aside0.mk H
 clear H
 go_enter Try.func87, Try.ntmps87
 go_wp2
 go_loopg [3, 4] k (fun kq v3 v4 w' => ∃ (x3_1 : Int) (x4_1 : Int), v3 = .int .i64 x3_1 ∧ v4 = .int .i64 x4_1 ∧ Aside0 (spec_l1Sum.l0 kq a0 x3_1 x4_1 = some r) ∧ Aside0 (kq ≤ k) ∧ Drawn0 w w')
 case atStart => exact ⟨(65535), (0), (by first | rfl | (simp; done) | (simp [*]; done)), (by first | rfl | (simp; done) | (simp [*]; done)), H', ⟨Nat.le_refl _⟩, by repeat (first | exact Drawn0.refl _ | apply Drawn0.step)⟩
 case round =>
  clear H'
  obtain ⟨x3_1, x4_1, rfl, rfl, HA, HK1, ⟨m1, rfl⟩⟩ := hrel
  cases gk with
  | zero => exact absurd HA.out (by simp [spec_l1Sum.l0])
  | succ k1 =>
   have H := HA.out
   clear HA
   simp only [spec_l1Sum.l0] at H
   by_cases c2 : x4_1 < (a0.size : Int)
   ·rw [if_pos c2] at H
    have c2b0 : decide (x4_1 < (a0.size : Int)) = true := decide_eq_true c2
    clear c2
    by_cases c3 : 0 ≤ x4_1
    ·rw [if_pos c3] at H
     have c3b0 : decide (0 ≤ x4_1) = true := decide_eq_true c3
     clear c3
     have H' := Aside0.mk H
     clear H
     have p4 : 0 ≤ (x4_1 : Int) := of_decide_eq_true (by first | (with_reducible assumption) | assumption)
     have q4 : x4_1 < (a0.size : Int) := of_decide_eq_true (by first | (with_reducible assumption) | assumption)
     have hx4 := bt_at a0 x4_1
     replace p4 := eq_true p4
     replace q4 := eq_true q4
     go_wp2
     go_loopg [3, 5] k1 (fun kq v3 v5 w' => ∃ (x3_2 : Int) (x5_2 : Int), v3 = .int .i64 x3_2 ∧ v5 = .int .i64 x5_2 ∧ Aside0 (spec_l1Sum.l1 kq a0 x3_2 x4_1 x5_2 = some r) ∧ Aside0 (kq ≤ k1) ∧ Drawn0 w w')
     case atStart => exact ⟨(Go.bits .xor .i64 x3_1 (wrap64 ((wrap64 (bt a0 x4_1)) * 256))), (0), (by first | rfl | (simp; done) | (simp [*]; done)), (by first | rfl | (simp; done) | (simp [*]; done)), H', ⟨Nat.le_refl _⟩, by repeat (first | exact Drawn0.refl _ | apply Drawn0.step)⟩
     case round =>
      clear H'
      try clear c2
      try clear c2b0
      try clear p2
      try clear c3
      try clear c3b0
      try clear p4
      try clear q4
      try clear hx4
      try clear p4
      try clear q4
      obtain ⟨x3_2, x5_2, rfl, rfl, HA, HK2, ⟨m2, rfl⟩⟩ := hrel
      cases gk with
      | zero => exact absurd HA.out (by simp [spec_l1Sum.l1])
      | succ k2 =>
       have H := HA.out
       clear HA
       simp only [spec_l1Sum.l1] at H
       by_cases c5 : x5_2 < 8
       ·rw [if_pos c5] at H
        have c5b0 : decide (x5_2 < 8) = true := decide_eq_true c5
        clear c5
        by_cases c6 : (wrap64 (x3_2 * 2)) > 65535
        ·rw [if_pos c6] at H
         have c6b0 : decide (65535 < (wrap64 (x3_2 * 2))) = true := decide_eq_true c6
         clear c6
         have H' := Aside0.mk H
         clear H
         go_wp2
         go_roundg k2
         case measure => have := HK1.out; have := HK2.out; omega
         case rel => exact ⟨(Go.bits .xor .i64 (Go.bits .and .i64 (wrap64 (x3_2 * 2)) 65535) 4129), (wrap64 (x5_2 + 1)), (by first | rfl | (simp; done) | (simp [*]; done)), (by first | rfl | (simp; done) | (simp [*]; done)), H', ⟨by have := HK1.out; have := HK2.out; omega⟩, by repeat (first | exact Drawn0.refl _ | apply Drawn0.step)⟩
        ·rw [if_neg c6] at H
         have c6b0 : decide (65535 < (wrap64 (x3_2 * 2))) = false := decide_eq_false c6
         clear c6
         have H' := Aside0.mk H
         clear H
         go_wp2
         go_roundg k2
         case measure => have := HK1.out; have := HK2.out; omega
         case rel => exact ⟨(wrap64 (x3_2 * 2)), (wrap64 (x5_2 + 1)), (by first | rfl | (simp; done) | (simp [*]; done)), (by first | rfl | (simp; done) | (simp [*]; done)), H', ⟨by have := HK1.out; have := HK2.out; omega⟩, by repeat (first | exact Drawn0.refl _ | apply Drawn0.step)⟩
       ·rw [if_neg c5] at H
        have c5b0 : decide (x5_2 < 8) = false := decide_eq_false c5
        clear c5
        have H' := Aside0.mk H
        clear H
        go_wp2
        go_roundg k2
        case measure => have := HK1.out; have := HK2.out; omega
        case rel => exact ⟨(x3_2), (wrap64 (x4_1 + 1)), (by first | rfl | (simp; done) | (simp [*]; done)), (by first | rfl | (simp; done) | (simp [*]; done)), H', ⟨by have := HK1.out; have := HK2.out; omega⟩, by repeat (first | exact Drawn0.refl _ | apply Drawn0.step)⟩
    ·rw [if_neg c3] at H
     exact absurd H (by simp)
   ·rw [if_neg c2] at H
    have c2b0 : decide (x4_1 < (a0.size : Int)) = false := decide_eq_false c2
    clear c2
    obtain rfl := Option.some.inj H
    go_wp2
    go_ret
    exact ⟨by first | rfl | (simp; done) | (simp [*]; done), by repeat (first | exact Drawn0.refl _ | apply Drawn0.step)⟩

/-! ### spec_l1Batch: function 61 -/
def spec_l1Batch.l0 : Nat → ByteArray → List ByteArray → Int → Int → Option (ByteArray)
 | 0, _, _, _, _ => none
 | k + 1, x3, x27, x28, x29 => if x29 < x28 then (if 0 ≤ x29 then (if x29 < (x27.length : Int) then ((spec_l1Bytes.f k ((rdOf ByteArray.empty x27 x29).size : Int) 1).bind fun t132 => (if t132.size + (rdOf ByteArray.empty x27 x29).size ≤ 9223372036854775807 then (if x3.size + (t132 ++ (rdOf ByteArray.empty x27 x29)).size ≤ 9223372036854775807 then (spec_l1Batch.l0 k (x3 ++ (t132 ++ (rdOf ByteArray.empty x27 x29))) x27 x28 (wrap64 (x29 + 1))) else (none)) else (none))) else (none)) else (none)) else ((spec_l1Bytes.f k (wrap64 ((x3.size : Int) + 2)) 2).bind fun t133 => (if t133.size + x3.size ≤ 9223372036854775807 then ((spec_l1Sum.f k (t133 ++ x3)).bind fun t134 => ((spec_l1Bytes.f k t134 2).bind fun t135 => (if (t133 ++ x3).size + t135.size ≤ 9223372036854775807 then (some ((t133 ++ x3) ++ t135)) else (none)))) else (none)))
def spec_l1Batch.f (k : Nat) (a0_0 : Int) (a0_1 : Int) (a0_2 : Int) (a0_3 : Int) (l0_4 : List ByteArray) : Option (ByteArray) := (spec_l1Bytes.f k a0_0 3).bind fun t126 => ((spec_l1Bytes.f k a0_1 2).bind fun t127 => (if t126.size + t127.size ≤ 9223372036854775807 then ((spec_l1Bytes.f k a0_2 2).bind fun t128 => (if (t126 ++ t127).size + t128.size ≤ 9223372036854775807 then ((spec_l1Bytes.f k a0_3 2).bind fun t129 => (if ((t126 ++ t127) ++ t128).size + t129.size ≤ 9223372036854775807 then ((spec_l1Bytes.f k (l0_4.length : Int) 1).bind fun t130 => (if (((t126 ++ t127) ++ t128) ++ t129).size + t130.size ≤ 9223372036854775807 then (spec_l1Batch.l0 k ((((t126 ++ t127) ++ t128) ++ t129) ++ t130) l0_4 (l0_4.length : Int) 0) else (none))) else (none))) else (none))) else (none)))
theorem spec_l1Batch.mono_l : ∀ k, (∀ y0 y1 y2 y3, LeO (spec_l1Batch.l0 k y0 y1 y2 y3) (spec_l1Batch.l0 (k + 1) y0 y1 y2 y3))
 | 0 => fun _ _ _ _ r h => by simp [spec_l1Batch.l0] at h
 | k + 1 => by
  have ih0 := spec_l1Batch.mono_l k
  ·intro y0 y1 y2 y3
   unfold spec_l1Batch.l0
   repeat' first
   | (with_reducible exact ih0 _ _ _ _)
   | (with_reducible exact spec_l1Bytes.mono _ _ _)
   | (with_reducible exact spec_l1Sum.mono _ _)
   | (with_reducible exact LeO.refl _)
   | (with_reducible exact LeO.none _)
   | (with_reducible refine LeO.ite ?_ ?_)
   | (with_reducible refine LeO.bind ?_ (fun _ => ?_))
   | exact ih0 _ _ _ _
   | exact spec_l1Bytes.mono _ _ _
   | exact spec_l1Sum.mono _ _
   | exact LeO.none _
   | refine LeO.ite ?_ ?_
   | refine LeO.bind ?_ (fun _ => ?_)
theorem spec_l1Batch.mono : ∀ a0 a1 a2 a3 a4 k, LeO (spec_l1Batch.f k a0 a1 a2 a3 a4) (spec_l1Batch.f (k + 1) a0 a1 a2 a3 a4) := by
 intro a0 a1 a2 a3 a4 k
 have ih0 := spec_l1Batch.mono_l k
 unfold spec_l1Batch.f
 repeat' first
   | (with_reducible exact ih0 _ _ _ _)
   | (with_reducible exact spec_l1Bytes.mono _ _ _)
   | (with_reducible exact spec_l1Sum.mono _ _)
   | (with_reducible exact LeO.refl _)
   | (with_reducible exact LeO.none _)
   | (with_reducible refine LeO.ite ?_ ?_)
   | (with_reducible refine LeO.bind ?_ (fun _ => ?_))
   | exact ih0 _ _ _ _
   | exact spec_l1Bytes.mono _ _ _
   | exact spec_l1Sum.mono _ _
   | exact LeO.none _
   | refine LeO.ite ?_ ?_
   | refine LeO.bind ?_ (fun _ => ?_)
def spec_l1Batch.T1 : Bool × List (List Nat × List Nat) := (true, [([], []), ([0], [0]), ([1], [1]), ([], []), ([3], [3]), ([4, 2], [4]), ([2, 5], [2, 5]), ([], []), ([7], [7]), ([8, 5], [8]), ([6, 9], [6, 9]), ([], []), ([11], [11]), ([12, 9], [12]), ([10, 13], [10, 13]), ([], []), ([15], [15]), ([16], [16]), ([17, 13], [17]), ([14, 18], [14, 18]), ([19, 18, 0, 1, 2, 3, 4, 5, 6, 7, 8, 9, 10, 11, 12, 13, 14, 15, 16, 17, 18, 19], [19])])
def spec_l1Batch.B1 : List Nat := [0, 1, 3, 0, 8, 31, 63, 0, 128, 447, 1023, 0, 2048, 7103, 16383, 0, 32768, 98304, 244671, 524287, 1048575]
theorem spec_l1Batch.tab1 : rtab .any (opsOf Try.f61 1) = spec_l1Batch.T1 := by kernel_rfl
theorem spec_l1Batch.bits1 : waitsOk spec_l1Batch.T1.2 spec_l1Batch.B1 = true := by kernel_rfl
set_option maxHeartbeats 8000000 in
set_option maxRecDepth 100000 in
theorem spec_l1Batch.calls (k : Nat) (a0_0 : Int) (a0_1 : Int) (a0_2 : Int) (a0_3 : Int) (A0_4 : Option Addr) (c0_4 : Nat) (l0_4 : List ByteArray) (r : ByteArray) (w : World) (hr0_4 : Kd.C Kd.string w A0_4 l0_4.length l0_4) (hc0_4 : l0_4.length ≤ c0_4) (h : spec_l1Batch.f k a0_0 a0_1 a0_2 a0_3 l0_4 = some r) :
  Calls Try.prog 61 #[.agg #[.int .i64 a0_0, .int .i64 a0_1, .int .i64 a0_2, .int .i64 a0_3, .slice A0_4 l0_4.length c0_4]] w fun e w' => e = .returned (.string r) ∧ Below w.heap.size w w' := by
 have hu44 := Try.underlying44
 have HR0_4 := Aside0.mk hr0_4
 have HC0_4 := Aside0.mk hc0_4
 clear hr0_4 hc0_4
 have HB := Aside0.mk (Below.refl w.heap.size w)
 have H : ((spec_l1Bytes.f k a0_0 3).bind fun t126 => ((spec_l1Bytes.f k a0_1 2).bind fun t127 => (if t126.size + t127.size ≤ 9223372036854775807 then ((spec_l1Bytes.f k a0_2 2).bind fun t128 => (if (t126 ++ t127).size + t128.size ≤ 9223372036854775807 then ((spec_l1Bytes.f k a0_3 2).bind fun t129 => (if ((t126 ++ t127) ++ t128).size + t129.size ≤ 9223372036854775807 then ((spec_l1Bytes.f k (l0_4.length : Int) 1).bind fun t130 => (if (((t126 ++ t127) ++ t128) ++ t129).size + t130.size ≤ 9223372036854775807 then (spec_l1Batch.l0 k ((((t126 ++ t127) ++ t128) ++ t129) ++ t130) l0_4 (l0_4.length : Int) 0) else (none))) else (none))) else (none))) else (none)))) = some r := h
 clear h
 replace H := Option.bind_eq_some_iff.mp H
 obtain ⟨t126, A20, H⟩ := H
 replace H : ((spec_l1Bytes.f k a0_1 2).bind fun t127 => (if t126.size + t127.size ≤ 9223372036854775807 then ((spec_l1Bytes.f k a0_2 2).bind fun t128 => (if (t126 ++ t127).size + t128.size ≤ 9223372036854775807 then ((spec_l1Bytes.f k a0_3 2).bind fun t129 => (if ((t126 ++ t127) ++ t128).size + t129.size ≤ 9223372036854775807 then ((spec_l1Bytes.f k (l0_4.length : Int) 1).bind fun t130 => (if (((t126 ++ t127) ++ t128) ++ t129).size + t130.size ≤ 9223372036854775807 then (spec_l1Batch.l0 k ((((t126 ++ t127) ++ t128) ++ t129) ++ t130) l0_4 (l0_4.length : Int) 0) else (none))) else (none))) else (none))) else (none))) = some r := H
 have A2 := Aside0.mk A20
 clear A20
 replace H := Option.bind_eq_some_iff.mp H
 obtain ⟨t127, A30, H⟩ := H
 replace H : (if t126.size + t127.size ≤ 9223372036854775807 then ((spec_l1Bytes.f k a0_2 2).bind fun t128 => (if (t126 ++ t127).size + t128.size ≤ 9223372036854775807 then ((spec_l1Bytes.f k a0_3 2).bind fun t129 => (if ((t126 ++ t127) ++ t128).size + t129.size ≤ 9223372036854775807 then ((spec_l1Bytes.f k (l0_4.length : Int) 1).bind fun t130 => (if (((t126 ++ t127) ++ t128) ++ t129).size + t130.size ≤ 9223372036854775807 then (spec_l1Batch.l0 k ((((t126 ++ t127) ++ t128) ++ t129) ++ t130) l0_4 (l0_4.length : Int) 0) else (none))) else (none))) else (none))) else (none)) = some r := H
 have A3 := Aside0.mk A30
 clear A30
 by_cases c4 : t126.size + t127.size ≤ 9223372036854775807
 ·rw [if_pos c4] at H
  have c4b0 := eq_true c4
  have c4b1 : decide (t126.size + t127.size ≤ 9223372036854775807) = true := decide_eq_true c4
  try have c4b2 : (9223372036854775807 < t126.size + t127.size) = False := eq_false (Nat.not_lt.2 c4)
  try have c4w : wrap64 ((t126.size : Int) + (t127.size : Int)) = (t126.size : Int) + (t127.size : Int) := by (unfold wrap64; omega)
  (try rw [c4w] at c0b0)
  (try rw [c4w] at c1b0)
  (try rw [c4w] at c2b0)
  (try rw [c4w] at c3b0)
  replace H := Option.bind_eq_some_iff.mp H
  obtain ⟨t128, A50, H⟩ := H
  replace H : (if (t126 ++ t127).size + t128.size ≤ 9223372036854775807 then ((spec_l1Bytes.f k a0_3 2).bind fun t129 => (if ((t126 ++ t127) ++ t128).size + t129.size ≤ 9223372036854775807 then ((spec_l1Bytes.f k (l0_4.length : Int) 1).bind fun t130 => (if (((t126 ++ t127) ++ t128) ++ t129).size + t130.size ≤ 9223372036854775807 then (spec_l1Batch.l0 k ((((t126 ++ t127) ++ t128) ++ t129) ++ t130) l0_4 (l0_4.length : Int) 0) else (none))) else (none))) else (none)) = some r := H
  have A5 := Aside0.mk A50
  clear A50
  by_cases c6 : (t126 ++ t127).size + t128.size ≤ 9223372036854775807
  ·rw [if_pos c6] at H
   have c6b0 := eq_true c6
   have c6b1 : decide ((t126 ++ t127).size + t128.size ≤ 9223372036854775807) = true := decide_eq_true c6
   try have c6b2 : (9223372036854775807 < (t126 ++ t127).size + t128.size) = False := eq_false (Nat.not_lt.2 c6)
   try have c6b3 : t126.size + t127.size + t128.size ≤ 9223372036854775807 := by (have h_ := c6; simp only [ByteArray.size_append] at h_; exact h_)
   try have c6b4 : (9223372036854775807 < t126.size + t127.size + t128.size) = False := eq_false (Nat.not_lt.2 c6b3)
   try have c6w : wrap64 (((t126 ++ t127).size : Int) + (t128.size : Int)) = ((t126 ++ t127).size : Int) + (t128.size : Int) := by (unfold wrap64; omega)
   (try rw [c6w] at c0b0)
   (try rw [c6w] at c1b0)
   (try rw [c6w] at c2b0)
   (try rw [c6w] at c3b0)
   (try rw [c6w] at c4b0)
   (try rw [c6w] at c5b0)
   replace H := Option.bind_eq_some_iff.mp H
   obtain ⟨t129, A70, H⟩ := H
   replace H : (if ((t126 ++ t127) ++ t128).size + t129.size ≤ 9223372036854775807 then ((spec_l1Bytes.f k (l0_4.length : Int) 1).bind fun t130 => (if (((t126 ++ t127) ++ t128) ++ t129).size + t130.size ≤ 9223372036854775807 then (spec_l1Batch.l0 k ((((t126 ++ t127) ++ t128) ++ t129) ++ t130) l0_4 (l0_4.length : Int) 0) else (none))) else (none)) = some r := H
   have A7 := Aside0.mk A70
   clear A70
   by_cases c8 : ((t126 ++ t127) ++ t128).size + t129.size ≤ 9223372036854775807
   ·rw [if_pos c8] at H
    have c8b0 := eq_true c8
    have c8b1 : decide (((t126 ++ t127) ++ t128).size + t129.size ≤ 9223372036854775807) = true := decide_eq_true c8
    try have c8b2 : (9223372036854775807 < ((t126 ++ t127) ++ t128).size + t129.size) = False := eq_false (Nat.not_lt.2 c8)
    try have c8b3 : t126.size + t127.size + t128.size + t129.size ≤ 9223372036854775807 := by (have h_ := c8; simp only [ByteArray.size_append] at h_; exact h_)
    try have c8b4 : (9223372036854775807 < t126.size + t127.size + t128.size + t129.size) = False := eq_false (Nat.not_lt.2 c8b3)
    try have c8w : wrap64 ((((t126 ++ t127) ++ t128).size : Int) + (t129.size : Int)) = (((t126 ++ t127) ++ t128).size : Int) + (t129.size : Int) := by (unfold wrap64; omega)
    (try rw [c8w] at c0b0)
    (try rw [c8w] at c1b0)
    (try rw [c8w] at c2b0)
    (try rw [c8w] at c3b0)
    (try rw [c8w] at c4b0)
    (try rw [c8w] at c5b0)
    (try rw [c8w] at c6b0)
    (try rw [c8w] at c7b0)
    replace H := Option.bind_eq_some_iff.mp H
    obtain ⟨t130, A90, H⟩ := H
    replace H : (if (((t126 ++ t127) ++ t128) ++ t129).size + t130.size ≤ 9223372036854775807 then (spec_l1Batch.l0 k ((((t126 ++ t127) ++ t128) ++ t129) ++ t130) l0_4 (l0_4.length : Int) 0) else (none)) = some r := H
    have A9 := Aside0.mk A90
    clear A90
    by_cases c10 : (((t126 ++ t127) ++ t128) ++ t129).size + t130.size ≤ 9223372036854775807
    ·rw [if_pos c10] at H
     have c10b0 := eq_true c10
     have c10b1 : decide ((((t126 ++ t127) ++ t128) ++ t129).size + t130.size ≤ 9223372036854775807) = true := decide_eq_true c10
     try have c10b2 : (9223372036854775807 < (((t126 ++ t127) ++ t128) ++ t129).size + t130.size) = False := eq_false (Nat.not_lt.2 c10)
     try have c10b3 : t126.size + t127.size + t128.size + t129.size + t130.size ≤ 9223372036854775807 := by (have h_ := c10; simp only [ByteArray.size_append] at h_; exact h_)
     try have c10b4 : (9223372036854775807 < t126.size + t127.size + t128.size + t129.size + t130.size) = False := eq_false (Nat.not_lt.2 c10b3)
     try have c10w : wrap64 (((((t126 ++ t127) ++ t128) ++ t129).size : Int) + (t130.size : Int)) = ((((t126 ++ t127) ++ t128) ++ t129).size : Int) + (t130.size : Int) := by (unfold wrap64; omega)
     (try rw [c10w] at c0b0)
     (try rw [c10w] at c1b0)
     (try rw [c10w] at c2b0)
     (try rw [c10w] at c3b0)
     (try rw [c10w] at c4b0)
     (try rw [c10w] at c5b0)
     (try rw [c10w] at c6b0)
     (try rw [c10w] at c7b0)
     (try rw [c10w] at c8b0)
     (try rw [c10w] at c9b0)
     have H' := Aside0.mk H
     clear H
     go_enter Try.func61, Try.ntmps61
     try go_wp2_with (first | ((with_reducible refine gate_dst (N := 1) rfl ?_); refine box_event ?hg (N := 1) ?hd (cs := #[.int .i64 a0_0, .int .i64 a0_1, .int .i64 a0_2, .int .i64 a0_3, .slice A0_4 l0_4.length c0_4]) (t := 44) ?hr ?_; (case hd => rfl); (case hg => rfl); (case hr => first | (go_simp; done) | (go_simp; rfl)); intro gb125 hg w11 hbox hb; have n0_ := Aside0.mk (below_step (hb_) hb); have n1_ := Aside0.mk (hbox); have n2_ := Aside0.mk ((by rw [hg]; exact (below_size (hb_)) : w.heap.size ≤ gb125)); have n3_ := Aside0.mk ((by rw [hg]; exact (below_size (hb_)) : w.heap.size ≤ gb125)); clear HB; have HB := n0_; have BK125 := n1_; have GW125 := n2_; have GE125 := n3_; clear n0_ n1_ n2_ n3_; clear hb hbox hg))
     have n0_ := Aside0.mk (blk_drew BK125.out)
     have n1_ := Aside0.mk (below_drew1 HB.out)
     clear BK125
     clear HB
     have BK125 := n0_
     have HB := n1_
     clear n0_ n1_
     refine start_ (n := 21) (S := fun w' => w'.cell? ⟨gb125, 0, none⟩ = some (.int .i64 a0_0) ∧ w'.cell? ⟨gb125, 1, none⟩ = some (.int .i64 a0_1) ∧ w'.cell? ⟨gb125, 2, none⟩ = some (.int .i64 a0_2) ∧ w'.cell? ⟨gb125, 3, none⟩ = some (.int .i64 a0_3) ∧ w'.cell? ⟨gb125, 4, none⟩ = some (.slice A0_4 l0_4.length c0_4)) (ds := []) #[false, false, false, false, false, false, false, false, false, false, false, false, false, false, false, false, false, false, false, false, false] (by kernel_rfl) rfl rfl ⟨(blk_cell BK125.out 0).trans rfl, (blk_cell BK125.out 1).trans rfl, (blk_cell BK125.out 2).trans rfl, (blk_cell BK125.out 3).trans rfl, (blk_cell BK125.out 4).trans rfl⟩ (fun hHeld => ?_); refine with_tabW spec_l1Batch.tab1 spec_l1Batch.bits1 (fun HT_ HW_ => ?_)
     generalize w11.drew = w12 at BK125 HB hHeld ⊢
     refine pu_ (i := 0) (N := some 6) #[true, false, false, false, false, false, false, false, false, false, false, false, false, false, false, false, false, false, false, false, false] (any_of HT_.out (by kernel_rfl)) ?_
     refine pu_ (i := 3) (N := some 9) #[true, false, false, true, false, false, false, false, false, false, false, false, false, false, false, false, false, false, false, false, false] (any_of HT_.out (by kernel_rfl)) ?_
     refine pu_ (i := 7) (N := some 13) #[true, false, false, true, false, false, false, true, false, false, false, false, false, false, false, false, false, false, false, false, false] (any_of HT_.out (by kernel_rfl)) ?_
     refine pu_ (i := 11) (N := some 17) #[true, false, false, true, false, false, false, true, false, false, false, true, false, false, false, false, false, false, false, false, false] (any_of HT_.out (by kernel_rfl)) ?_
     refine pu_ (i := 15) (N := some 21) #[true, false, false, true, false, false, false, true, false, false, false, true, false, false, false, true, false, false, false, false, false] (any_of HT_.out (by kernel_rfl)) ?_
     refine take_ (i := 1) (N := some 7) (v := ?_) (a' := ?_) #[true, true, false, true, false, false, false, true, false, false, false, true, false, false, false, true, false, false, false, false, false] rfl rfl (take_ofW HT_.out HW_.out (by kernel_rfl)) (fun _ _ _ h => h) (Or.inl ⟨by rfl, ?_⟩) hHeld ?_ ?_
     rotate_left
     ·rintro w' ⟨s0, s1, s2, s3, s4⟩
      go_simp
      with_reducible rfl
     rotate_left
     ·simp only [Act.put, List.setIfInBounds_toArray, List.set_cons_zero, List.set_cons_succ, i64_w, i32_w]
      rfl
     refine take_ (i := 4) (N := some 10) (v := ?_) (a' := ?_) #[true, true, false, true, true, false, false, true, false, false, false, true, false, false, false, true, false, false, false, false, false] rfl rfl (take_ofW HT_.out HW_.out (by kernel_rfl)) (fun _ _ _ h => h) (Or.inl ⟨by rfl, ?_⟩) hHeld ?_ ?_
     rotate_left
     ·rintro w' ⟨s0, s1, s2, s3, s4⟩
      go_simp
      with_reducible rfl
     rotate_left
     ·simp only [Act.put, List.setIfInBounds_toArray, List.set_cons_zero, List.set_cons_succ, i64_w, i32_w]
      rfl
     refine take_ (i := 8) (N := some 14) (v := ?_) (a' := ?_) #[true, true, false, true, true, false, false, true, true, false, false, true, false, false, false, true, false, false, false, false, false] rfl rfl (take_ofW HT_.out HW_.out (by kernel_rfl)) (fun _ _ _ h => h) (Or.inl ⟨by rfl, ?_⟩) hHeld ?_ ?_
     rotate_left
     ·rintro w' ⟨s0, s1, s2, s3, s4⟩
      go_simp
      with_reducible rfl
     rotate_left
     ·simp only [Act.put, List.setIfInBounds_toArray, List.set_cons_zero, List.set_cons_succ, i64_w, i32_w]
      rfl
     refine take_ (i := 12) (N := some 18) (v := ?_) (a' := ?_) #[true, true, false, true, true, false, false, true, true, false, false, true, true, false, false, true, false, false, false, false, false] rfl rfl (take_ofW HT_.out HW_.out (by kernel_rfl)) (fun _ _ _ h => h) (Or.inl ⟨by rfl, ?_⟩) hHeld ?_ ?_
     rotate_left
     ·rintro w' ⟨s0, s1, s2, s3, s4⟩
      go_simp
      with_reducible rfl
     rotate_left
     ·simp only [Act.put, List.setIfInBounds_toArray, List.set_cons_zero, List.set_cons_succ, i64_w, i32_w]
      rfl
     refine take_ (i := 16) (N := some 22) (v := ?_) (a' := ?_) #[true, true, false, true, true, false, false, true, true, false, false, true, true, false, false, true, true, false, false, false, false] rfl rfl (take_ofW HT_.out HW_.out (by kernel_rfl)) (fun _ _ _ h => h) (Or.inl ⟨by rfl, ?_⟩) hHeld ?_ ?_
     rotate_left
     ·rintro w' ⟨s0, s1, s2, s3, s4⟩
      go_simp
      with_reducible rfl
     rotate_left
     ·simp only [Act.put, List.setIfInBounds_toArray, List.set_cons_zero, List.set_cons_succ, i64_w, i32_w]
      rfl
     refine pu_ (i := 17) (N := some 23) #[true, true, false, true, true, false, false, true, true, false, false, true, true, false, false, true, true, true, false, false, false] (any_of HT_.out (by kernel_rfl)) ?_
     refine one_ (i := 2) (N := some 8) #[true, true, true, true, true, false, false, true, true, false, false, true, true, false, false, true, true, true, false, false, false] rfl rfl (one_of HT_.out (by kernel_rfl)) (by decide) (fun K hK => ?_)
     refine goes_ Try.func86 (by kernel_rfl) rfl #[.int .i64 a0_0, .int .i64 3] (by rfl) rfl rfl (by (try simp only [List.map_toArray, List.map_cons, List.map_nil]); first | done | rfl | (simp only [List.length_drop, List.length_take]; rfl)) ?_
     with_reducible refine (spec_l1Bytes.calls k a0_0 3 t126 _ A2.out).mono ?_
     rintro e w13 ⟨rfl, hb⟩
     refine ⟨_, rfl, ?_⟩
     have n0_ := Aside0.mk (blk_below (g := gb125) (o := .cells #[.int .i64 a0_0, .int .i64 a0_1, .int .i64 a0_2, .int .i64 a0_3, .slice A0_4 l0_4.length c0_4] 44 (0, 0)) (kb_ BK125.out) hb)
     have n1_ := Aside0.mk (below_step (hs_ GE125.out) hb)
     clear BK125
     clear HB
     have BK125 := n0_
     have HB := n1_
     clear n0_ n1_
     (try clear hb)
     (try clear hb2)
     (try clear hk)
     (try clear hi)
     refine hK.out _ _ ⟨(blk_cell BK125.out 0).trans rfl, (blk_cell BK125.out 1).trans rfl, (blk_cell BK125.out 2).trans rfl, (blk_cell BK125.out 3).trans rfl, (blk_cell BK125.out 4).trans rfl⟩ (fun hHeld => ?_)
     clear hK K
     refine no_ ?_
     refine one_ (i := 5) (N := some 11) #[true, true, true, true, true, true, false, true, true, false, false, true, true, false, false, true, true, true, false, false, false] rfl rfl (one_of HT_.out (by kernel_rfl)) (by decide) (fun K hK => ?_)
     refine goes_ Try.func86 (by kernel_rfl) rfl #[.int .i64 a0_1, .int .i64 2] (by rfl) rfl rfl (by (try simp only [List.map_toArray, List.map_cons, List.map_nil]); first | done | rfl | (simp only [List.length_drop, List.length_take]; rfl)) ?_
     with_reducible refine (spec_l1Bytes.calls k a0_1 2 t127 _ A3.out).mono ?_
     rintro e w14 ⟨rfl, hb⟩
     refine ⟨_, rfl, ?_⟩
     have n0_ := Aside0.mk (blk_below (g := gb125) (o := .cells #[.int .i64 a0_0, .int .i64 a0_1, .int .i64 a0_2, .int .i64 a0_3, .slice A0_4 l0_4.length c0_4] 44 (0, 0)) (kb_ BK125.out) hb)
     have n1_ := Aside0.mk (below_step (hs_ GE125.out) hb)
     clear BK125
     clear HB
     have BK125 := n0_
     have HB := n1_
     clear n0_ n1_
     (try clear hb)
     (try clear hb2)
     (try clear hk)
     (try clear hi)
     refine hK.out _ _ ⟨(blk_cell BK125.out 0).trans rfl, (blk_cell BK125.out 1).trans rfl, (blk_cell BK125.out 2).trans rfl, (blk_cell BK125.out 3).trans rfl, (blk_cell BK125.out 4).trans rfl⟩ (fun hHeld => ?_)
     clear hK K
     refine no_ ?_
     refine pu_ (i := 6) (N := some 12) #[true, true, true, true, true, true, true, true, true, false, false, true, true, false, false, true, true, true, false, false, false] (any_of HT_.out (by kernel_rfl)) ?_
     refine one_ (i := 9) (N := some 15) #[true, true, true, true, true, true, true, true, true, true, false, true, true, false, false, true, true, true, false, false, false] rfl rfl (one_of HT_.out (by kernel_rfl)) (by decide) (fun K hK => ?_)
     refine goes_ Try.func86 (by kernel_rfl) rfl #[.int .i64 a0_2, .int .i64 2] (by rfl) rfl rfl (by (try simp only [List.map_toArray, List.map_cons, List.map_nil]); first | done | rfl | (simp only [List.length_drop, List.length_take]; rfl)) ?_
     with_reducible refine (spec_l1Bytes.calls k a0_2 2 t128 _ A5.out).mono ?_
     rintro e w15 ⟨rfl, hb⟩
     refine ⟨_, rfl, ?_⟩
     have n0_ := Aside0.mk (blk_below (g := gb125) (o := .cells #[.int .i64 a0_0, .int .i64 a0_1, .int .i64 a0_2, .int .i64 a0_3, .slice A0_4 l0_4.length c0_4] 44 (0, 0)) (kb_ BK125.out) hb)
     have n1_ := Aside0.mk (below_step (hs_ GE125.out) hb)
     clear BK125
     clear HB
     have BK125 := n0_
     have HB := n1_
     clear n0_ n1_
     (try clear hb)
     (try clear hb2)
     (try clear hk)
     (try clear hi)
     refine hK.out _ _ ⟨(blk_cell BK125.out 0).trans rfl, (blk_cell BK125.out 1).trans rfl, (blk_cell BK125.out 2).trans rfl, (blk_cell BK125.out 3).trans rfl, (blk_cell BK125.out 4).trans rfl⟩ (fun hHeld => ?_)
     clear hK K
     refine no_ ?_
     refine pu_ (i := 10) (N := some 16) #[true, true, true, true, true, true, true, true, true, true, true, true, true, false, false, true, true, true, false, false, false] (any_of HT_.out (by kernel_rfl)) ?_
     refine one_ (i := 13) (N := some 19) #[true, true, true, true, true, true, true, true, true, true, true, true, true, true, false, true, true, true, false, false, false] rfl rfl (one_of HT_.out (by kernel_rfl)) (by decide) (fun K hK => ?_)
     refine goes_ Try.func86 (by kernel_rfl) rfl #[.int .i64 a0_3, .int .i64 2] (by rfl) rfl rfl (by (try simp only [List.map_toArray, List.map_cons, List.map_nil]); first | done | rfl | (simp only [List.length_drop, List.length_take]; rfl)) ?_
     with_reducible refine (spec_l1Bytes.calls k a0_3 2 t129 _ A7.out).mono ?_
     rintro e w16 ⟨rfl, hb⟩
     refine ⟨_, rfl, ?_⟩
     have n0_ := Aside0.mk (blk_below (g := gb125) (o := .cells #[.int .i64 a0_0, .int .i64 a0_1, .int .i64 a0_2, .int .i64 a0_3, .slice A0_4 l0_4.length c0_4] 44 (0, 0)) (kb_ BK125.out) hb)
     have n1_ := Aside0.mk (below_step (hs_ GE125.out) hb)
     clear BK125
     clear HB
     have BK125 := n0_
     have HB := n1_
     clear n0_ n1_
     (try clear hb)
     (try clear hb2)
     (try clear hk)
     (try clear hi)
     refine hK.out _ _ ⟨(blk_cell BK125.out 0).trans rfl, (blk_cell BK125.out 1).trans rfl, (blk_cell BK125.out 2).trans rfl, (blk_cell BK125.out 3).trans rfl, (blk_cell BK125.out 4).trans rfl⟩ (fun hHeld => ?_)
     clear hK K
     refine no_ ?_
     refine pu_ (i := 14) (N := some 20) #[true, true, true, true, true, true, true, true, true, true, true, true, true, true, true, true, true, true, false, false, false] (any_of HT_.out (by kernel_rfl)) ?_
     refine one_ (i := 18) (N := some 24) #[true, true, true, true, true, true, true, true, true, true, true, true, true, true, true, true, true, true, true, false, false] rfl rfl (one_of HT_.out (by kernel_rfl)) (by decide) (fun K hK => ?_)
     refine goes_ Try.func86 (by kernel_rfl) rfl #[.int .i64 (l0_4.length : Int), .int .i64 1] (by rfl) rfl rfl (by (try simp only [List.map_toArray, List.map_cons, List.map_nil]); first | done | rfl | (simp only [List.length_drop, List.length_take]; rfl)) ?_
     with_reducible refine (spec_l1Bytes.calls k (l0_4.length : Int) 1 t130 _ A9.out).mono ?_
     rintro e w17 ⟨rfl, hb⟩
     refine ⟨_, rfl, ?_⟩
     have n0_ := Aside0.mk (blk_below (g := gb125) (o := .cells #[.int .i64 a0_0, .int .i64 a0_1, .int .i64 a0_2, .int .i64 a0_3, .slice A0_4 l0_4.length c0_4] 44 (0, 0)) (kb_ BK125.out) hb)
     have n1_ := Aside0.mk (below_step (hs_ GE125.out) hb)
     clear BK125
     clear HB
     have BK125 := n0_
     have HB := n1_
     clear n0_ n1_
     (try clear hb)
     (try clear hb2)
     (try clear hk)
     (try clear hi)
     refine hK.out _ _ ⟨(blk_cell BK125.out 0).trans rfl, (blk_cell BK125.out 1).trans rfl, (blk_cell BK125.out 2).trans rfl, (blk_cell BK125.out 3).trans rfl, (blk_cell BK125.out 4).trans rfl⟩ (fun hHeld => ?_)
     clear hK K
     refine no_ ?_
     refine pu_ (i := 19) (N := some 25) #[true, true, true, true, true, true, true, true, true, true, true, true, true, true, true, true, true, true, true, true, false] (any_of HT_.out (by kernel_rfl)) ?_
     refine pu_ (i := 20) (N := some 3) #[true, true, true, true, true, true, true, true, true, true, true, true, true, true, true, true, true, true, true, true, true] (any_of HT_.out (by kernel_rfl)) ?_
     refine done_ (done_of HT_.out (by kernel_rfl)) ?_
     have hcz18_0 : w17.cell? ⟨gb125, 0, none⟩ = some (.int .i64 a0_0) := (blk_cell BK125.out 0).trans rfl
     have hcz18_1 : w17.cell? ⟨gb125, 1, none⟩ = some (.int .i64 a0_1) := (blk_cell BK125.out 1).trans rfl
     have hcz18_2 : w17.cell? ⟨gb125, 2, none⟩ = some (.int .i64 a0_2) := (blk_cell BK125.out 2).trans rfl
     have hcz18_3 : w17.cell? ⟨gb125, 3, none⟩ = some (.int .i64 a0_3) := (blk_cell BK125.out 3).trans rfl
     have hcz18_4 : w17.cell? ⟨gb125, 4, none⟩ = some (.slice A0_4 l0_4.length c0_4) := (blk_cell BK125.out 4).trans rfl
     have hfz18_0 := blk_frozen BK125.out 0
     have hfz18_1 := blk_frozen BK125.out 1
     have hfz18_2 := blk_frozen BK125.out 2
     have hfz18_3 := blk_frozen BK125.out 3
     have hfz18_4 := blk_frozen BK125.out 4
     try go_wp2
     go_loopg [3, 29] k (fun kq v3 v29 w' => ∃ (x3_1 : ByteArray) (x29_1 : Int), v3 = .string x3_1 ∧ v29 = .int .i64 x29_1 ∧ Aside0 (spec_l1Batch.l0 kq x3_1 l0_4 (l0_4.length : Int) x29_1 = some r) ∧ Aside0 (kq ≤ k) ∧ Aside0 (w'.heap[gb125]? = some (.cells #[.int .i64 a0_0, .int .i64 a0_1, .int .i64 a0_2, .int .i64 a0_3, (.slice A0_4 l0_4.length c0_4)] 44 (0, 0))) ∧ Aside0 (Below w.heap.size w w'))
     case atStart => exact ⟨((((t126 ++ t127) ++ t128) ++ t129) ++ t130), (0), (by first | rfl | (simp; done) | (simp [*]; done)), (by first | rfl | (simp; done) | (simp [*]; done)), H', ⟨Nat.le_refl _⟩, ⟨kb_ BK125.out⟩, ⟨hs_ GE125.out⟩⟩
     case round =>
      clear H'
      try clear c1
      try clear c1b0
      try clear c2
      try clear c2b0
      try clear p2
      try clear c3
      try clear c3b0
      try clear c4
      try clear c4b0
      try clear c4b1
      try clear c4b2
      try clear c5
      try clear c5b0
      try clear c6
      try clear c6b0
      try clear c6b1
      try clear c6b2
      try clear p6
      try clear c7
      try clear c7b0
      try clear c8
      try clear c8b0
      try clear c8b1
      try clear c8b2
      try clear c9
      try clear c9b0
      try clear c10
      try clear c10b0
      try clear c10b1
      try clear c10b2
      try clear hcz18_0
      try clear hcz18_1
      try clear hcz18_2
      try clear hcz18_3
      try clear hcz18_4
      try clear hfz18_0
      try clear hfz18_1
      try clear hfz18_2
      try clear hfz18_3
      try clear hfz18_4
      obtain ⟨x3_1, x29_1, rfl, rfl, HA, HK1, BK125, HB⟩ := hrel
      cases gk with
      | zero => exact absurd HA.out (by simp [spec_l1Batch.l0])
      | succ k1 =>
       have H := HA.out
       clear HA
       simp only [spec_l1Batch.l0] at H
       by_cases c19 : x29_1 < (l0_4.length : Int)
       ·rw [if_pos c19] at H
        have c19b0 : decide (x29_1 < (l0_4.length : Int)) = true := decide_eq_true c19
        clear c19
        by_cases c20 : 0 ≤ x29_1
        ·rw [if_pos c20] at H
         have c20b0 : decide (0 ≤ x29_1) = true := decide_eq_true c20
         clear c20
         by_cases c21 : x29_1 < (l0_4.length : Int)
         ·rw [if_pos c21] at H
          have c21b0 : decide (x29_1 < (l0_4.length : Int)) = true := decide_eq_true c21
          clear c21
          replace H := Option.bind_eq_some_iff.mp H
          obtain ⟨t132, A220, H⟩ := H
          replace H : (if t132.size + (rdOf ByteArray.empty l0_4 x29_1).size ≤ 9223372036854775807 then (if x3_1.size + (t132 ++ (rdOf ByteArray.empty l0_4 x29_1)).size ≤ 9223372036854775807 then (spec_l1Batch.l0 k1 (x3_1 ++ (t132 ++ (rdOf ByteArray.empty l0_4 x29_1))) l0_4 (l0_4.length : Int) (wrap64 (x29_1 + 1))) else (none)) else (none)) = some r := H
          have A22 := Aside0.mk A220
          clear A220
          by_cases c23 : t132.size + (rdOf ByteArray.empty l0_4 x29_1).size ≤ 9223372036854775807
          ·rw [if_pos c23] at H
           have c23b0 := eq_true c23
           have c23b1 : decide (t132.size + (rdOf ByteArray.empty l0_4 x29_1).size ≤ 9223372036854775807) = true := decide_eq_true c23
           try have c23b2 : (9223372036854775807 < t132.size + (rdOf ByteArray.empty l0_4 x29_1).size) = False := eq_false (Nat.not_lt.2 c23)
           try have c23w : wrap64 ((t132.size : Int) + ((rdOf ByteArray.empty l0_4 x29_1).size : Int)) = (t132.size : Int) + ((rdOf ByteArray.empty l0_4 x29_1).size : Int) := by (unfold wrap64; omega)
           (try rw [c23w] at c0b0)
           (try rw [c23w] at c1b0)
           (try rw [c23w] at c2b0)
           (try rw [c23w] at c3b0)
           (try rw [c23w] at c4b0)
           (try rw [c23w] at c5b0)
           (try rw [c23w] at c6b0)
           (try rw [c23w] at c7b0)
           (try rw [c23w] at c8b0)
           (try rw [c23w] at c9b0)
           (try rw [c23w] at c10b0)
           (try rw [c23w] at c11b0)
           (try rw [c23w] at c12b0)
           (try rw [c23w] at c13b0)
           (try rw [c23w] at c14b0)
           (try rw [c23w] at c15b0)
           (try rw [c23w] at c16b0)
           (try rw [c23w] at c17b0)
           (try rw [c23w] at c18b0)
           (try rw [c23w] at c19b0)
           (try rw [c23w] at c20b0)
           (try rw [c23w] at c21b0)
           (try rw [c23w] at c22b0)
           by_cases c24 : x3_1.size + (t132 ++ (rdOf ByteArray.empty l0_4 x29_1)).size ≤ 9223372036854775807
           ·rw [if_pos c24] at H
            have c24b0 := eq_true c24
            have c24b1 : decide (x3_1.size + (t132 ++ (rdOf ByteArray.empty l0_4 x29_1)).size ≤ 9223372036854775807) = true := decide_eq_true c24
            try have c24b2 : (9223372036854775807 < x3_1.size + (t132 ++ (rdOf ByteArray.empty l0_4 x29_1)).size) = False := eq_false (Nat.not_lt.2 c24)
            try have c24b3 : x3_1.size + (t132.size + (rdOf ByteArray.empty l0_4 x29_1).size) ≤ 9223372036854775807 := by (have h_ := c24; simp only [ByteArray.size_append] at h_; exact h_)
            try have c24b4 : (9223372036854775807 < x3_1.size + (t132.size + (rdOf ByteArray.empty l0_4 x29_1).size)) = False := eq_false (Nat.not_lt.2 c24b3)
            try have c24w : wrap64 ((x3_1.size : Int) + ((t132 ++ (rdOf ByteArray.empty l0_4 x29_1)).size : Int)) = (x3_1.size : Int) + ((t132 ++ (rdOf ByteArray.empty l0_4 x29_1)).size : Int) := by (unfold wrap64; omega)
            (try rw [c24w] at c0b0)
            (try rw [c24w] at c1b0)
            (try rw [c24w] at c2b0)
            (try rw [c24w] at c3b0)
            (try rw [c24w] at c4b0)
            (try rw [c24w] at c5b0)
            (try rw [c24w] at c6b0)
            (try rw [c24w] at c7b0)
            (try rw [c24w] at c8b0)
            (try rw [c24w] at c9b0)
            (try rw [c24w] at c10b0)
            (try rw [c24w] at c11b0)
            (try rw [c24w] at c12b0)
            (try rw [c24w] at c13b0)
            (try rw [c24w] at c14b0)
            (try rw [c24w] at c15b0)
            (try rw [c24w] at c16b0)
            (try rw [c24w] at c17b0)
            (try rw [c24w] at c18b0)
            (try rw [c24w] at c19b0)
            (try rw [c24w] at c20b0)
            (try rw [c24w] at c21b0)
            (try rw [c24w] at c22b0)
            (try rw [c24w] at c23b0)
            have H' := Aside0.mk H
            clear H
            have p131 : 0 ≤ (x29_1 : Int) := of_decide_eq_true (by first | (with_reducible assumption) | assumption)
            have q131 : x29_1 < (l0_4.length : Int) := of_decide_eq_true (by first | (with_reducible assumption) | assumption)
            obtain ⟨ad131, e131, hx131_0⟩ := Kd.at_string HR0_4.out x29_1 p131 q131
            cases e131
            replace hx131_0 := (HB.out.cell (World.block_lt_of_cell? w _ hx131_0)).trans hx131_0
            replace p131 := eq_true p131
            replace q131 := eq_true q131
            go_wp2_with (first | ((with_reducible refine gate_callee (f := 86) rfl ?_); refine goesL_ (some 36) rfl rfl Try.func86 (by kernel_rfl) rfl #[.int .i64 ((rdOf ByteArray.empty l0_4 x29_1).size : Int), .int .i64 1] rfl (by (try simp only [List.map_toArray, List.map_cons, List.map_nil]); first | done | rfl | (simp only [List.length_drop, List.length_take]; rfl)) ?_; (with_reducible refine (spec_l1Bytes.calls k1 ((rdOf ByteArray.empty l0_4 x29_1).size : Int) 1 t132 _ A22.out).mono ?_); rintro e w25 ⟨rfl, hb⟩; refine ⟨_, rfl, ?_⟩; have n0_ := Aside0.mk (blk_below (g := gb125) (o := .cells #[.int .i64 a0_0, .int .i64 a0_1, .int .i64 a0_2, .int .i64 a0_3, .slice (some ad131) l0_4.length c0_4] 44 (0, 0)) (kb_ BK125.out) hb); have n1_ := Aside0.mk (below_step (hs_ GE125.out) hb); clear BK125; clear HB; have BK125 := n0_; have HB := n1_; clear n0_ n1_; (try clear hb); (try clear hb2); (try clear hk); (try clear hi)))
            go_roundg k1
            case measure => have := HK1.out; omega
            case rel => exact ⟨(x3_1 ++ (t132 ++ (rdOf ByteArray.empty l0_4 x29_1))), (wrap64 (x29_1 + 1)), (by first | rfl | (simp; done) | (simp [*]; done)), (by first | rfl | (simp; done) | (simp [*]; done)), H', ⟨by have := HK1.out; omega⟩, ⟨kb_ BK125.out⟩, ⟨hs_ GE125.out⟩⟩
           ·rw [if_neg c24] at H
            exact absurd H (by simp)
          ·rw [if_neg c23] at H
           exact absurd H (by simp)
         ·rw [if_neg c21] at H
          exact absurd H (by simp)
        ·rw [if_neg c20] at H
         exact absurd H (by simp)
       ·rw [if_neg c19] at H
        have c19b0 : decide (x29_1 < (l0_4.length : Int)) = false := decide_eq_false c19
        clear c19
        replace H := Option.bind_eq_some_iff.mp H
        obtain ⟨t133, A260, H⟩ := H
        replace H : (if t133.size + x3_1.size ≤ 9223372036854775807 then ((spec_l1Sum.f k1 (t133 ++ x3_1)).bind fun t134 => ((spec_l1Bytes.f k1 t134 2).bind fun t135 => (if (t133 ++ x3_1).size + t135.size ≤ 9223372036854775807 then (some ((t133 ++ x3_1) ++ t135)) else (none)))) else (none)) = some r := H
        have A26 := Aside0.mk A260
        clear A260
        by_cases c27 : t133.size + x3_1.size ≤ 9223372036854775807
        ·rw [if_pos c27] at H
         have c27b0 := eq_true c27
         have c27b1 : decide (t133.size + x3_1.size ≤ 9223372036854775807) = true := decide_eq_true c27
         try have c27b2 : (9223372036854775807 < t133.size + x3_1.size) = False := eq_false (Nat.not_lt.2 c27)
         try have c27w : wrap64 ((t133.size : Int) + (x3_1.size : Int)) = (t133.size : Int) + (x3_1.size : Int) := by (unfold wrap64; omega)
         (try rw [c27w] at c0b0)
         (try rw [c27w] at c1b0)
         (try rw [c27w] at c2b0)
         (try rw [c27w] at c3b0)
         (try rw [c27w] at c4b0)
         (try rw [c27w] at c5b0)
         (try rw [c27w] at c6b0)
         (try rw [c27w] at c7b0)
         (try rw [c27w] at c8b0)
         (try rw [c27w] at c9b0)
         (try rw [c27w] at c10b0)
         (try rw [c27w] at c11b0)
         (try rw [c27w] at c12b0)
         (try rw [c27w] at c13b0)
         (try rw [c27w] at c14b0)
         (try rw [c27w] at c15b0)
         (try rw [c27w] at c16b0)
         (try rw [c27w] at c17b0)
         (try rw [c27w] at c18b0)
         (try rw [c27w] at c19b0)
         (try rw [c27w] at c20b0)
         (try rw [c27w] at c21b0)
         (try rw [c27w] at c22b0)
         (try rw [c27w] at c23b0)
         (try rw [c27w] at c24b0)
         (try rw [c27w] at c25b0)
         (try rw [c27w] at c26b0)
         replace H := Option.bind_eq_some_iff.mp H
         obtain ⟨t134, A280, H⟩ := H
         replace H : ((spec_l1Bytes.f k1 t134 2).bind fun t135 => (if (t133 ++ x3_1).size + t135.size ≤ 9223372036854775807 then (some ((t133 ++ x3_1) ++ t135)) else (none))) = some r := H
         have A28 := Aside0.mk A280
         clear A280
         replace H := Option.bind_eq_some_iff.mp H
         obtain ⟨t135, A290, H⟩ := H
         replace H : (if (t133 ++ x3_1).size + t135.size ≤ 9223372036854775807 then (some ((t133 ++ x3_1) ++ t135)) else (none)) = some r := H
         have A29 := Aside0.mk A290
         clear A290
         by_cases c30 : (t133 ++ x3_1).size + t135.size ≤ 9223372036854775807
         ·rw [if_pos c30] at H
          have c30b0 := eq_true c30
          have c30b1 : decide ((t133 ++ x3_1).size + t135.size ≤ 9223372036854775807) = true := decide_eq_true c30
          try have c30b2 : (9223372036854775807 < (t133 ++ x3_1).size + t135.size) = False := eq_false (Nat.not_lt.2 c30)
          try have c30b3 : t133.size + x3_1.size + t135.size ≤ 9223372036854775807 := by (have h_ := c30; simp only [ByteArray.size_append] at h_; exact h_)
          try have c30b4 : (9223372036854775807 < t133.size + x3_1.size + t135.size) = False := eq_false (Nat.not_lt.2 c30b3)
          try have c30w : wrap64 (((t133 ++ x3_1).size : Int) + (t135.size : Int)) = ((t133 ++ x3_1).size : Int) + (t135.size : Int) := by (unfold wrap64; omega)
          (try rw [c30w] at c0b0)
          (try rw [c30w] at c1b0)
          (try rw [c30w] at c2b0)
          (try rw [c30w] at c3b0)
          (try rw [c30w] at c4b0)
          (try rw [c30w] at c5b0)
          (try rw [c30w] at c6b0)
          (try rw [c30w] at c7b0)
          (try rw [c30w] at c8b0)
          (try rw [c30w] at c9b0)
          (try rw [c30w] at c10b0)
          (try rw [c30w] at c11b0)
          (try rw [c30w] at c12b0)
          (try rw [c30w] at c13b0)
          (try rw [c30w] at c14b0)
          (try rw [c30w] at c15b0)
          (try rw [c30w] at c16b0)
          (try rw [c30w] at c17b0)
          (try rw [c30w] at c18b0)
          (try rw [c30w] at c19b0)
          (try rw [c30w] at c20b0)
          (try rw [c30w] at c21b0)
          (try rw [c30w] at c22b0)
          (try rw [c30w] at c23b0)
          (try rw [c30w] at c24b0)
          (try rw [c30w] at c25b0)
          (try rw [c30w] at c26b0)
          (try rw [c30w] at c27b0)
          (try rw [c30w] at c28b0)
          (try rw [c30w] at c29b0)
          obtain rfl := Option.some.inj H
          go_wp2_with (first | ((with_reducible refine gate_callee (f := 86) rfl ?_); refine goesL_ (some 44) rfl rfl Try.func86 (by kernel_rfl) rfl #[.int .i64 (wrap64 ((x3_1.size : Int) + 2)), .int .i64 2] rfl (by (try simp only [List.map_toArray, List.map_cons, List.map_nil]); first | done | rfl | (simp only [List.length_drop, List.length_take]; rfl)) ?_; (with_reducible refine (spec_l1Bytes.calls k1 (wrap64 ((x3_1.size : Int) + 2)) 2 t133 _ A26.out).mono ?_); rintro e w31 ⟨rfl, hb⟩; refine ⟨_, rfl, ?_⟩; have n0_ := Aside0.mk (blk_below (g := gb125) (o := .cells #[.int .i64 a0_0, .int .i64 a0_1, .int .i64 a0_2, .int .i64 a0_3, .slice A0_4 l0_4.length c0_4] 44 (0, 0)) (kb_ BK125.out) hb); have n1_ := Aside0.mk (below_step (hs_ GE125.out) hb); clear BK125; clear HB; have BK125 := n0_; have HB := n1_; clear n0_ n1_; (try clear hb); (try clear hb2); (try clear hk); (try clear hi)) | ((with_reducible refine gate_callee (f := 87) rfl ?_); refine goesL_ (some 49) rfl rfl Try.func87 (by kernel_rfl) rfl #[.string (t133 ++ x3_1)] rfl (by (try simp only [List.map_toArray, List.map_cons, List.map_nil]); first | done | rfl | (simp only [List.length_drop, List.length_take]; rfl)) ?_; (with_reducible refine (spec_l1Sum.calls k1 (t133 ++ x3_1) t134 _ A28.out).mono ?_); rintro e w' ⟨rfl, ⟨nd, rfl⟩⟩; refine ⟨_, rfl, ?_⟩) | ((with_reducible refine gate_callee (f := 86) rfl ?_); refine goesL_ (some 50) rfl rfl Try.func86 (by kernel_rfl) rfl #[.int .i64 t134, .int .i64 2] rfl (by (try simp only [List.map_toArray, List.map_cons, List.map_nil]); first | done | rfl | (simp only [List.length_drop, List.length_take]; rfl)) ?_; (with_reducible refine (spec_l1Bytes.calls k1 t134 2 t135 _ A29.out).mono ?_); rintro e w32 ⟨rfl, hb⟩; refine ⟨_, rfl, ?_⟩; have n0_ := Aside0.mk (blk_below (g := gb125) (o := .cells #[.int .i64 a0_0, .int .i64 a0_1, .int .i64 a0_2, .int .i64 a0_3, .slice A0_4 l0_4.length c0_4] 44 (0, 0)) (kb_ BK125.out) hb); have n1_ := Aside0.mk (below_step (hs_ GE125.out) hb); clear BK125; clear HB; have BK125 := n0_; have HB := n1_; clear n0_ n1_; (try clear hb); (try clear hb2); (try clear hk); (try clear hi)))
          go_ret
          exact ⟨by first | rfl | (simp [errW_none, errW_some] <;> rfl) | (simp [*, errW_none, errW_some] <;> rfl), hs_ GE125.out⟩
         ·rw [if_neg c30] at H
          exact absurd H (by simp)
        ·rw [if_neg c27] at H
         exact absurd H (by simp)
    ·rw [if_neg c10] at H
     exact absurd H (by simp)
   ·rw [if_neg c8] at H
    exact absurd H (by simp)
  ·rw [if_neg c6] at H
   exact absurd H (by simp)
 ·rw [if_neg c4] at H
  exact absurd H (by simp)

end Go.Proofs.Ytpdpipfkllfhmaa.QFnExactSurvivesIn
