/- Functions that one statement reaches: of each a plain function, and the proof that calls come to it. Conditions: those that each contract names. Written by a program of this repository. -/
import Derived.Test.YtffpeklekkpbjaaVReadFroma
import Derived.Test.YtffpeklekkpbjaaQFnExactReadFromx2
import Derived.Test.YtffpeklekkpbjaaQFnExactReadFromx6
namespace Go.Proofs.Ytffpeklekkpbjaa.QFnExactReadFrom
open Go.RowKit Go.Proofs.YtffpeklekkpbjaaW.PrintWords Go.Proofs.YtffpeklekkpbjaaW.PrintLast Go.Proofs.YtffpeklekkpbjaaW.PrintMore
attribute [local go_sem] max2_int min2_int max_two min_two max_three min_three max_four min_four Go.Proofs.YtffpeklekkpbjaaW.PrintMore2.isSome_setCell   -- for this text's walks alone
set_option linter.unusedVariables false
set_option linter.unusedSimpArgs false

/-! ### spec_GoodBatch: function 81 -/
def spec_GoodBatch.l0 : Nat → List ByteArray → Int → Int → Int → Int → Int → Int → List ByteArray → Option (Bool)
 | 0, _, _, _, _, _, _, _, _ => none
 | k + 1, x6, x7, x8, x177000, x177001, x177002, x177003, x177004 => if x8 < x7 then (if 0 ≤ x8 then (if x8 < (x6.length : Int) then (if ((rdOf ByteArray.empty x6 x8).size : Int) > 20 then (some false) else (spec_GoodBatch.l0 k x6 x7 (wrap64 (x8 + 1)) x177000 x177001 x177002 x177003 x177004)) else (none)) else (none)) else ((spec_l1In.f x177000 0 100000).bind fun t178 => (if t178 = true then ((spec_l1In.f x177001 0 1000).bind fun t179 => (if t179 = true then ((spec_l1In.f x177002 0 65535).bind fun t180 => (if t180 = true then ((spec_l1In.f x177003 0 65535).bind fun t181 => (if t181 = true then ((spec_l1In.f (x177004.length : Int) 1 8).bind fun t182 => (some t182)) else (some false))) else (some false))) else (some false))) else (some false)))
def spec_GoodBatch.f (k : Nat) (a0_0 : Int) (a0_1 : Int) (a0_2 : Int) (a0_3 : Int) (l0_4 : List ByteArray) : Option (Bool) := spec_GoodBatch.l0 k l0_4 (l0_4.length : Int) 0 a0_0 a0_1 a0_2 a0_3 l0_4
theorem spec_GoodBatch.mono_l : ∀ k, (∀ y0 y1 y2 y3 y4 y5 y6 y7, LeO (spec_GoodBatch.l0 k y0 y1 y2 y3 y4 y5 y6 y7) (spec_GoodBatch.l0 (k + 1) y0 y1 y2 y3 y4 y5 y6 y7))
 | 0 => fun _ _ _ _ _ _ _ _ r h => by simp [spec_GoodBatch.l0] at h
 | k + 1 => by
  have ih0 := spec_GoodBatch.mono_l k
  ·intro y0 y1 y2 y3 y4 y5 y6 y7
   unfold spec_GoodBatch.l0
   repeat' first
   | (with_reducible first | apply ih0 | exact LeO.refl _ | exact LeO.none _ | refine LeO.ite ?_ ?_ | refine LeO.bind ?_ (fun _ => ?_))
theorem spec_GoodBatch.mono : ∀ a0 a1 a2 a3 a4 k, LeO (spec_GoodBatch.f k a0 a1 a2 a3 a4) (spec_GoodBatch.f (k + 1) a0 a1 a2 a3 a4) := by
 intro a0 a1 a2 a3 a4 k
 have ih0 := spec_GoodBatch.mono_l k
 unfold spec_GoodBatch.f
 repeat' first
   | (with_reducible first | apply ih0 | exact LeO.refl _ | exact LeO.none _ | refine LeO.ite ?_ ?_ | refine LeO.bind ?_ (fun _ => ?_))
set_option maxHeartbeats 8000000 in
set_option maxRecDepth 100000 in
theorem spec_GoodBatch.calls (k : Nat) (a0_0 : Int) (a0_1 : Int) (a0_2 : Int) (a0_3 : Int) (A0_4 : Option Addr) (c0_4 : Nat) (l0_4 : List ByteArray) (r : Bool) (w : World) (hr0_4 : Kd.C Kd.string w A0_4 l0_4.length l0_4) (hc0_4 : l0_4.length ≤ c0_4) (h : spec_GoodBatch.f k a0_0 a0_1 a0_2 a0_3 l0_4 = some r) :
  Calls Try.prog 81 #[.agg #[.int .i64 a0_0, .int .i64 a0_1, .int .i64 a0_2, .int .i64 a0_3, .slice A0_4 l0_4.length c0_4]] w fun e w' => e = .returned (.bool r) ∧ Below w.heap.size w w' := by
 have hu43 := Try.underlying43
 have HR0_4 := Aside0.mk hr0_4
 have HC0_4 := Aside0.mk hc0_4
 clear hr0_4 hc0_4
 have HB := Aside0.mk (Below.refl w.heap.size w)
 have H : (spec_GoodBatch.l0 k l0_4 (l0_4.length : Int) 0 a0_0 a0_1 a0_2 a0_3 l0_4) = some r := h
 clear h
 have H' := Aside0.mk H
 clear H
 go_enter Try.func81, Try.ntmps81
 go_wp2_with (first | ((with_reducible refine gate_dst (N := 1) rfl ?_); (try (refine gate_guard (by rfl) ?_; dsimp only)); refine bq_ (N := 1) #[.int .i64 a0_0, .int .i64 a0_1, .int .i64 a0_2, .int .i64 a0_3, .slice A0_4 l0_4.length c0_4] 43 ?_; intro gb176 hg w2 BK176 hb; have GE176 := ge_ hg; replace HB := nb_ hb; clear hb hg; obtain ⟨hcz3_0, hcz3_1, hcz3_2, hcz3_3, hcz3_4, hfz3_0, hfz3_1, hfz3_2, hfz3_3, hfz3_4⟩ := cf5_ BK176.out))
 go_loopg [8] k (fun kq v8 w' => ∃ (x8_1 : Int), v8 = .int .i64 x8_1 ∧ Aside0 (spec_GoodBatch.l0 kq l0_4 (l0_4.length : Int) x8_1 a0_0 a0_1 a0_2 a0_3 l0_4 = some r) ∧ Aside0 (kq ≤ k) ∧ Aside0 (w'.heap[gb176]? = some (.cells #[.int .i64 a0_0, .int .i64 a0_1, .int .i64 a0_2, .int .i64 a0_3, (.slice A0_4 l0_4.length c0_4)] 43 (0, 0))) ∧ Aside0 (Below w.heap.size w w'))
 case atStart => exact ⟨(0), sr_, H', ⟨Nat.le_refl _⟩, ⟨kb_ BK176.out⟩, ⟨hs_ GE176.out⟩⟩
 case round =>
  clear H'
  try clear hcz3_0
  try clear hcz3_1
  try clear hcz3_2
  try clear hcz3_3
  try clear hcz3_4
  try clear hfz3_0
  try clear hfz3_1
  try clear hfz3_2
  try clear hfz3_3
  try clear hfz3_4
  obtain ⟨x8_1, rfl, HA, HK1, BK176, HB⟩ := hrel
  cases gk with
  | zero => exact absurd HA.out (by simp [spec_GoodBatch.l0])
  | succ k1 =>
   have H := HA.out
   clear HA
   simp only [spec_GoodBatch.l0] at H
   replace H := ite_ H
   obtain ⟨c4, H⟩ | ⟨c4, H⟩ := H
   ·have c4b0 := decide_eq_true c4
    clear c4
    replace H := ifs_ H
    obtain ⟨c5, H⟩ := H
    have c5b0 := decide_eq_true c5
    clear c5
    replace H := ifs_ H
    obtain ⟨c6, H⟩ := H
    have c6b0 := decide_eq_true c6
    clear c6
    replace H := ite_ H
    obtain ⟨c7, H⟩ | ⟨c7, H⟩ := H
    ·have c7b0 := dgt_ c7
     have c7b1 : decide (20 < (rdOf ByteArray.empty l0_4 x8_1).size) = true := decide_eq_true (by omega)
     clear c7
     obtain rfl := Option.some.inj H
     have p177 : 0 ≤ (x8_1 : Int) := oa_
     have q177 : x8_1 < (l0_4.length : Int) := oa_
     obtain ⟨ad177, e177, hx177_0⟩ := Kd.at_string HR0_4.out x8_1 p177 q177
     cases e177
     replace hx177_0 := pc_ HB.out hx177_0
     replace p177 := eq_true p177
     replace q177 := eq_true q177
     go_wp2
     go_ret
     exact ⟨er_, hs_ GE176.out⟩
    have c7b0 := dgf_ c7
    have c7b1 : decide (20 < (rdOf ByteArray.empty l0_4 x8_1).size) = false := decide_eq_false (by omega)
    clear c7
    have H' := Aside0.mk H
    clear H
    have p177 : 0 ≤ (x8_1 : Int) := oa_
    have q177 : x8_1 < (l0_4.length : Int) := oa_
    obtain ⟨ad177, e177, hx177_0⟩ := Kd.at_string HR0_4.out x8_1 p177 q177
    cases e177
    replace hx177_0 := pc_ HB.out hx177_0
    replace p177 := eq_true p177
    replace q177 := eq_true q177
    go_wp2
    go_roundg k1
    case measure => have := HK1.out; omega
    case rel => exact ⟨(wrap64 (x8_1 + 1)), sr_, H', ⟨by have := HK1.out; omega⟩, ⟨kb_ BK176.out⟩, ⟨hs_ GE176.out⟩⟩
   have c4b0 := decide_eq_false c4
   clear c4
   replace H := bnd_ H
   obtain ⟨t178, A8, H⟩ := H
   replace H := ifb_ H
   obtain ⟨rfl, H⟩ | ⟨rfl, H⟩ := H
   rotate_left
   ·obtain rfl := Option.some.inj H
    obtain ⟨hcz21_0, hcz21_1, hcz21_2, hcz21_3, hcz21_4, hfz21_0, hfz21_1, hfz21_2, hfz21_3, hfz21_4⟩ := cf5_ BK176.out
    go_wp2_with (first | ((with_reducible refine gate_callee (f := 57) rfl ?_); refine gl_ 18 Try.func57 #[.int .i64 a0_0, .int .i64 0, .int .i64 100000] rfl ma_ ?_; (with_reducible refine (spec_l1In.calls a0_0 0 100000 false _ A8.out).mono ?_); rintro e w' ⟨rfl, ⟨nd, rfl⟩⟩; refine ⟨_, rfl, ?_⟩))
    go_ret
    exact ⟨er_, hs_ GE176.out⟩
   replace H := bnd_ H
   obtain ⟨t179, A10, H⟩ := H
   replace H := ifb_ H
   obtain ⟨rfl, H⟩ | ⟨rfl, H⟩ := H
   rotate_left
   ·obtain rfl := Option.some.inj H
    obtain ⟨hcz20_0, hcz20_1, hcz20_2, hcz20_3, hcz20_4, hfz20_0, hfz20_1, hfz20_2, hfz20_3, hfz20_4⟩ := cf5_ BK176.out
    go_wp2_with (first | ((with_reducible refine gate_callee (f := 57) rfl ?_); refine gl_ 18 Try.func57 #[.int .i64 a0_0, .int .i64 0, .int .i64 100000] rfl ma_ ?_; (with_reducible refine (spec_l1In.calls a0_0 0 100000 true _ A8.out).mono ?_); rintro e w' ⟨rfl, ⟨nd, rfl⟩⟩; refine ⟨_, rfl, ?_⟩) | (go_at_call 57; (with_reducible refine (spec_l1In.calls a0_1 0 1000 false _ A10.out).mono ?_); rintro e w' ⟨rfl, ⟨nd, rfl⟩⟩))
    go_ret
    exact ⟨er_, hs_ GE176.out⟩
   replace H := bnd_ H
   obtain ⟨t180, A12, H⟩ := H
   replace H := ifb_ H
   obtain ⟨rfl, H⟩ | ⟨rfl, H⟩ := H
   rotate_left
   ·obtain rfl := Option.some.inj H
    obtain ⟨hcz19_0, hcz19_1, hcz19_2, hcz19_3, hcz19_4, hfz19_0, hfz19_1, hfz19_2, hfz19_3, hfz19_4⟩ := cf5_ BK176.out
    go_wp2_with (first | ((with_reducible refine gate_callee (f := 57) rfl ?_); refine gl_ 18 Try.func57 #[.int .i64 a0_0, .int .i64 0, .int .i64 100000] rfl ma_ ?_; (with_reducible refine (spec_l1In.calls a0_0 0 100000 true _ A8.out).mono ?_); rintro e w' ⟨rfl, ⟨nd, rfl⟩⟩; refine ⟨_, rfl, ?_⟩) | (go_at_call 57; (with_reducible refine (spec_l1In.calls a0_1 0 1000 true _ A10.out).mono ?_); rintro e w' ⟨rfl, ⟨nd, rfl⟩⟩) | (go_at_call 57; (with_reducible refine (spec_l1In.calls a0_2 0 65535 false _ A12.out).mono ?_); rintro e w' ⟨rfl, ⟨nd, rfl⟩⟩))
    go_ret
    exact ⟨er_, hs_ GE176.out⟩
   replace H := bnd_ H
   obtain ⟨t181, A14, H⟩ := H
   replace H := ifb_ H
   obtain ⟨rfl, H⟩ | ⟨rfl, H⟩ := H
   rotate_left
   ·obtain rfl := Option.some.inj H
    obtain ⟨hcz18_0, hcz18_1, hcz18_2, hcz18_3, hcz18_4, hfz18_0, hfz18_1, hfz18_2, hfz18_3, hfz18_4⟩ := cf5_ BK176.out
    go_wp2_with (first | ((with_reducible refine gate_callee (f := 57) rfl ?_); refine gl_ 18 Try.func57 #[.int .i64 a0_0, .int .i64 0, .int .i64 100000] rfl ma_ ?_; (with_reducible refine (spec_l1In.calls a0_0 0 100000 true _ A8.out).mono ?_); rintro e w' ⟨rfl, ⟨nd, rfl⟩⟩; refine ⟨_, rfl, ?_⟩) | (go_at_call 57; (with_reducible refine (spec_l1In.calls a0_1 0 1000 true _ A10.out).mono ?_); rintro e w' ⟨rfl, ⟨nd, rfl⟩⟩) | (go_at_call 57; (with_reducible refine (spec_l1In.calls a0_2 0 65535 true _ A12.out).mono ?_); rintro e w' ⟨rfl, ⟨nd, rfl⟩⟩) | (go_at_call 57; (with_reducible refine (spec_l1In.calls a0_3 0 65535 false _ A14.out).mono ?_); rintro e w' ⟨rfl, ⟨nd, rfl⟩⟩))
    go_ret
    exact ⟨er_, hs_ GE176.out⟩
   replace H := bnd_ H
   obtain ⟨t182, A16, H⟩ := H
   obtain rfl := Option.some.inj H
   obtain ⟨hcz17_0, hcz17_1, hcz17_2, hcz17_3, hcz17_4, hfz17_0, hfz17_1, hfz17_2, hfz17_3, hfz17_4⟩ := cf5_ BK176.out
   go_wp2_with (first | ((with_reducible refine gate_callee (f := 57) rfl ?_); refine gl_ 18 Try.func57 #[.int .i64 a0_0, .int .i64 0, .int .i64 100000] rfl ma_ ?_; (with_reducible refine (spec_l1In.calls a0_0 0 100000 true _ A8.out).mono ?_); rintro e w' ⟨rfl, ⟨nd, rfl⟩⟩; refine ⟨_, rfl, ?_⟩) | (go_at_call 57; (with_reducible refine (spec_l1In.calls a0_1 0 1000 true _ A10.out).mono ?_); rintro e w' ⟨rfl, ⟨nd, rfl⟩⟩) | (go_at_call 57; (with_reducible refine (spec_l1In.calls a0_2 0 65535 true _ A12.out).mono ?_); rintro e w' ⟨rfl, ⟨nd, rfl⟩⟩) | (go_at_call 57; (with_reducible refine (spec_l1In.calls a0_3 0 65535 true _ A14.out).mono ?_); rintro e w' ⟨rfl, ⟨nd, rfl⟩⟩) | (go_at_call 57; (with_reducible refine (spec_l1In.calls (l0_4.length : Int) 1 8 t182 _ A16.out).mono ?_); rintro e w' ⟨rfl, ⟨nd, rfl⟩⟩))
   go_ret
   exact ⟨er_, hs_ GE176.out⟩

/-! ### spec_l1Bytes: function 108 -/
def spec_l1Bytes.l0 : Nat → Int → List Int → Int → Option (ByteArray)
 | 0, _, _, _ => none
 | k + 1, x0, x5, x6 => if x6 ≥ 0 then (if 0 ≤ x6 then (if x6 < (x5.length : Int) then (spec_l1Bytes.l0 k (x0 / 256) (x5.set (x6 : Int).toNat ((x0) % 256)) (wrap64 (x6 - 1))) else (none)) else (none)) else (some (strOfNums x5))
def spec_l1Bytes.f (k : Nat) (a0 : Int) (a1 : Int) : Option (ByteArray) := if 0 ≤ a1 then (if (a1 : Int).toNat ≤ 281474976710656 then (spec_l1Bytes.l0 k a0 (List.replicate (a1 : Int).toNat 0) (wrap64 (a1 - 1))) else (none)) else (none)
theorem spec_l1Bytes.mono_l : ∀ k, (∀ y0 y1 y2, LeO (spec_l1Bytes.l0 k y0 y1 y2) (spec_l1Bytes.l0 (k + 1) y0 y1 y2))
 | 0 => fun _ _ _ r h => by simp [spec_l1Bytes.l0] at h
 | k + 1 => by
  have ih0 := spec_l1Bytes.mono_l k
  ·intro y0 y1 y2
   unfold spec_l1Bytes.l0
   repeat' first
   | (with_reducible first | apply ih0 | exact LeO.refl _ | exact LeO.none _ | refine LeO.ite ?_ ?_ | refine LeO.bind ?_ (fun _ => ?_))
theorem spec_l1Bytes.mono : ∀ a0 a1 k, LeO (spec_l1Bytes.f k a0 a1) (spec_l1Bytes.f (k + 1) a0 a1) := by
 intro a0 a1 k
 have ih0 := spec_l1Bytes.mono_l k
 unfold spec_l1Bytes.f
 repeat' first
   | (with_reducible first | apply ih0 | exact LeO.refl _ | exact LeO.none _ | refine LeO.ite ?_ ?_ | refine LeO.bind ?_ (fun _ => ?_))
set_option maxHeartbeats 8000000 in
set_option maxRecDepth 100000 in
theorem spec_l1Bytes.calls (k : Nat) (a0 : Int) (a1 : Int) (r : ByteArray) (w : World) (h : spec_l1Bytes.f k a0 a1 = some r) :
  Calls Try.prog 108 #[.int .i64 a0, .int .i64 a1] w fun e w' => e = .returned (.string r) ∧ Below w.heap.size w w' := by
 have HB := Aside0.mk (Below.refl w.heap.size w)
 have H : (if 0 ≤ a1 then (if (a1 : Int).toNat ≤ 281474976710656 then (spec_l1Bytes.l0 k a0 (List.replicate (a1 : Int).toNat 0) (wrap64 (a1 - 1))) else (none)) else (none)) = some r := h
 clear h
 replace H := ifs_ H
 obtain ⟨c3, H⟩ := H
 have c3b0 := eq_true c3
 have c3b1 := decide_eq_true c3
 clear c3
 replace H := ifs_ H
 obtain ⟨c4, H⟩ := H
 have c4b0 := eq_true c4
 have c4b1 := decide_eq_true c4
 clear c4
 obtain ⟨y183, hy183⟩ : ∃ y_ : List Int, y_ = (List.replicate (a1 : Int).toNat 0) := ⟨_, rfl⟩
 replace H : (spec_l1Bytes.l0 k a0 y183 (wrap64 (a1 - 1))) = some r := by first | (rw [hy183]; with_reducible exact H) | (have H2_ := (Option.bind_some _ _).symm.trans H; rw [hy183]; with_reducible exact H2_) | (have H2_ := (Option.bind_some _ _).symm.trans H; with_reducible exact H2_) | with_reducible exact H | (rw [hy183]; exact H) | exact H
 have Ny183 := Aside0.mk hy183
 clear hy183
 have H' := Aside0.mk H
 clear H
 go_enter Try.func108, Try.ntmps108
 go_wp2_with (first | ((with_reducible refine gate_dst (N := 8) rfl ?_); refine Kd.R_make (Kd.int .u8) _ 5 rfl (N := 8) rfl 60 _ _ rfl a1 rfl rfl Try.underlying60 (.int .u8 0) 1 info5 rfl (by decide) (by omega) 0 (ok := fun _ => True) (okp := fun _ => True) rfl (fun _ hk => hk) trivial (oa_) (Nat.le_trans (Nat.mul_le_mul_right _ (oa_ : a1.toNat ≤ 281474976710656)) (by omega)) (Below.refl _ _) (Nat.le_refl _) ?_; intro v184 w5 ho6 hb hg_ hnew_; clear hg_ hnew_; (first | rw [← Ny183.out] at ho6 | (simp only [Int.reduceToNat] at ho6; rw [← Ny183.out] at ho6)); have HO185 := Aside0.mk (Kd.R_lower ho6 (below_size (hb_))); replace HB := nb_ hb; clear hb ho6))
 go_loopg [0, 6] k (fun kq v0 v6 w' => ∃ (x0_1 : Int) (x5_1 : List Int) (x6_1 : Int), v0 = .int .i64 x0_1 ∧ v6 = .int .i64 x6_1 ∧ Aside0 (spec_l1Bytes.l0 kq x0_1 x5_1 x6_1 = some r) ∧ Aside0 (kq ≤ k) ∧ Aside0 (Kd.R (Kd.int .u8) 5 w' w.heap.size (fun _ => True) v184 x5_1) ∧ Aside0 (Below w.heap.size w w'))
 case atStart => exact ⟨(a0), (y183), (wrap64 (a1 - 1)), sr_, sr_, H', ⟨Nat.le_refl _⟩, ⟨kr_ HO185.out⟩, ⟨hb_⟩⟩
 case round =>
  clear H'
  try clear c3
  try clear c3b0
  try clear c3b1
  try clear c4
  try clear c4b0
  try clear c4b1
  obtain ⟨x0_1, x5_1, x6_1, rfl, rfl, HA, HK1, HO_5, HB⟩ := hrel
  cases gk with
  | zero => exact absurd HA.out (by simp [spec_l1Bytes.l0])
  | succ k1 =>
   have H := HA.out
   clear HA
   simp only [spec_l1Bytes.l0] at H
   replace H := ite_ H
   obtain ⟨c7, H⟩ | ⟨c7, H⟩ := H
   rotate_left
   ·have c7b0 := dne_ c7
    clear c7
    obtain rfl := Option.some.inj H
    have hcv13 := own_string (P := Try.prog) Try.underlying60 Try.underlying5 Try.underlying9 (Kd.own_of_R HO_5.out)
    go_wp2
    go_ret
    exact ⟨er_, hb_⟩
   have c7b0 := dge_ c7
   clear c7
   replace H := ifs_ H
   obtain ⟨c8, H⟩ := H
   have c8b0 := decide_eq_true c8
   clear c8
   replace H := ifs_ H
   obtain ⟨c9, H⟩ := H
   have c9b0 := decide_eq_true c9
   clear c9
   obtain ⟨y186, hy186⟩ : ∃ y_ : List Int, y_ = (x5_1.set (x6_1 : Int).toNat ((x0_1) % 256)) := ⟨_, rfl⟩
   replace H : (spec_l1Bytes.l0 k1 (x0_1 / 256) y186 (wrap64 (x6_1 - 1))) = some r := by first | (rw [hy186]; with_reducible exact H) | (have H2_ := (Option.bind_some _ _).symm.trans H; rw [hy186]; with_reducible exact H2_) | (have H2_ := (Option.bind_some _ _).symm.trans H; with_reducible exact H2_) | with_reducible exact H | (rw [hy186]; exact H) | exact H
   have Ny186 := Aside0.mk hy186
   clear hy186
   have H' := Aside0.mk H
   clear H
   have p10 : 0 ≤ (x6_1 : Int) := oa_
   have q10 : (x6_1 : Int) < ((x5_1.length : Int) : Int) := oa_
   obtain ⟨go10, co10, eo10, gb10, gl10, cl10, HG10⟩ := Kd.R_form HO_5.out (by omega)
   (first | cases eo10 | (injection eo10 with ea_ en_ ec_; (first | subst ea_ | (injection ea_ with ea_; subst ea_)); subst ec_; clear en_))
   have GB10 := Aside0.mk gb10
   have GG10 := Aside0.mk HG10
   clear gb10 gl10 HG10
   obtain ⟨hx10_0, hf10_0⟩ := Kd.R_celln 0 HO_5.out (x6_1 : Int) p10 q10
   replace p10 := eq_true p10
   replace q10 := eq_true q10
   have HP11 := Kd.R_putg HO_5.out (x6_1 : Int) ((x0_1) % 256)
   go_wp2_with (first | ((with_reducible refine gate_store (t := 5) (p := 19) rfl ?_); refine store_event (t := 5) (p := 19) (v := ?vo_w12) (w1 := (wr.setCell ⟨go10, (x6_1 : Int).toNat, none⟩ (.int .u8 ((x0_1) % 256)))) ?hg ?ho ?hn ?hr ?_; (case ho => rfl); (case hg => rfl); (case hn => rfl); (case hr => first | (go_simp; done) | (go_simp; rfl)); intro w12 hw; have hg : wr.grownBy w12 (some go10) := (by rw [hw]; exact HP11.2); have hp_ : Kd.R (Kd.int .u8) 5 w12 w.heap.size (fun _ => True) (.slice (some ⟨go10, 0, none⟩) x5_1.length co10) y186 := (by rw [hw, Ny186.out]; exact HP11.1); clear HP11; replace HO_5 := Aside0.mk (hp_); replace HB := Aside0.mk ((by rw [hw]; exact below_set (HB.out) GB10.out : Below w.heap.size w w12)); clear hg hw hp_))
   go_roundg k1
   case measure => have := HK1.out; omega
   case rel => exact ⟨(x0_1 / 256), (y186), (wrap64 (x6_1 - 1)), sr_, sr_, H', ⟨by have := HK1.out; omega⟩, ⟨kr_ HO_5.out⟩, ⟨hb_⟩⟩

/-! ### spec_l1Sum: function 109 -/
mutual
def spec_l1Sum.l0 : Nat → ByteArray → Int → Int → Option (Int)
 | 0, _, _, _ => none
 | k + 1, x0, x3, x4 => if x4 < (x0.size : Int) then (if 0 ≤ x4 then (spec_l1Sum.l1 k x0 (Go.bits .xor .i64 x3 (wrap64 ((wrap64 (bt x0 x4)) * 256))) x4 0) else (none)) else (some x3)
def spec_l1Sum.l1 : Nat → ByteArray → Int → Int → Int → Option (Int)
 | 0, _, _, _, _ => none
 | k + 1, x0, x3, x4, x5 => if x5 < 8 then (if (wrap64 (x3 * 2)) > 65535 then (spec_l1Sum.l1 k x0 (Go.bits .xor .i64 (Go.bits .and .i64 (wrap64 (x3 * 2)) 65535) 4129) x4 (wrap64 (x5 + 1))) else (spec_l1Sum.l1 k x0 (wrap64 (x3 * 2)) x4 (wrap64 (x5 + 1)))) else (spec_l1Sum.l0 k x0 x3 (wrap64 (x4 + 1)))
end
def spec_l1Sum.f (k : Nat) (a0 : ByteArray) : Option (Int) := spec_l1Sum.l0 k a0 65535 0
theorem spec_l1Sum.mono_l : ∀ k, (∀ y0 y1 y2, LeO (spec_l1Sum.l0 k y0 y1 y2) (spec_l1Sum.l0 (k + 1) y0 y1 y2)) ∧ (∀ y0 y1 y2 y3, LeO (spec_l1Sum.l1 k y0 y1 y2 y3) (spec_l1Sum.l1 (k + 1) y0 y1 y2 y3))
 | 0 => ⟨fun _ _ _ r h => by simp [spec_l1Sum.l0] at h, fun _ _ _ _ r h => by simp [spec_l1Sum.l1] at h⟩
 | k + 1 => by
  obtain ⟨ih0, ih1⟩ := spec_l1Sum.mono_l k
  refine ⟨?_, ?_⟩
  all_goals intros; first | unfold spec_l1Sum.l0 | unfold spec_l1Sum.l1
  all_goals repeat' first | (with_reducible first | apply ih0 | apply ih1 | exact LeO.refl _ | exact LeO.none _ | refine LeO.ite ?_ ?_ | refine LeO.bind ?_ (fun _ => ?_))
theorem spec_l1Sum.mono : ∀ a0 k, LeO (spec_l1Sum.f k a0) (spec_l1Sum.f (k + 1) a0) := by
 intro a0 k
 obtain ⟨ih0, ih1⟩ := spec_l1Sum.mono_l k
 unfold spec_l1Sum.f
 repeat' first
   | (with_reducible first | apply ih0 | apply ih1 | exact LeO.refl _ | exact LeO.none _ | refine LeO.ite ?_ ?_ | refine LeO.bind ?_ (fun _ => ?_))
set_option maxHeartbeats 8000000 in
set_option maxRecDepth 100000 in
theorem spec_l1Sum.calls (k : Nat) (a0 : ByteArray) (r : Int) (w : World) (h : spec_l1Sum.f k a0 = some r) :
  Calls Try.prog 109 #[.string a0] w fun e w' => e = .returned (.int .i64 r) ∧ Drawn0 w w' := by
 have H : (spec_l1Sum.l0 k a0 65535 0) = some r := h
 clear h
 have H' := Aside0.mk H
 clear H
 go_enter Try.func109, Try.ntmps109
 go_wp2
 go_loopg [3, 4] k (fun kq v3 v4 w' => ∃ (x3_1 : Int) (x4_1 : Int), v3 = .int .i64 x3_1 ∧ v4 = .int .i64 x4_1 ∧ Aside0 (spec_l1Sum.l0 kq a0 x3_1 x4_1 = some r) ∧ Aside0 (kq ≤ k) ∧ Drawn0 w w')
 case atStart => exact ⟨(65535), (0), sr_, sr_, H', ⟨Nat.le_refl _⟩, dr_⟩
 case round =>
  clear H'
  obtain ⟨x3_1, x4_1, rfl, rfl, HA, HK1, ⟨m1, rfl⟩⟩ := hrel
  cases gk with
  | zero => exact absurd HA.out (by simp [spec_l1Sum.l0])
  | succ k1 =>
   have H := HA.out
   clear HA
   simp only [spec_l1Sum.l0] at H
   replace H := ite_ H
   obtain ⟨c2, H⟩ | ⟨c2, H⟩ := H
   rotate_left
   ·have c2b0 := decide_eq_false c2
    clear c2
    obtain rfl := Option.some.inj H
    go_wp2
    go_ret
    exact ⟨by first | rfl | (simp; done) | (simp [*]; done), dr_⟩
   have c2b0 := decide_eq_true c2
   clear c2
   replace H := ifs_ H
   obtain ⟨c3, H⟩ := H
   have c3b0 := decide_eq_true c3
   clear c3
   have H' := Aside0.mk H
   clear H
   have p4 : 0 ≤ (x4_1 : Int) := oa_
   have q4 : x4_1 < (a0.size : Int) := oa_
   have hx4 := bt_at a0 x4_1
   replace p4 := eq_true p4
   replace q4 := eq_true q4
   go_wp2
   go_loopg [3, 5] k1 (fun kq v3 v5 w' => ∃ (x3_2 : Int) (x5_2 : Int), v3 = .int .i64 x3_2 ∧ v5 = .int .i64 x5_2 ∧ Aside0 (spec_l1Sum.l1 kq a0 x3_2 x4_1 x5_2 = some r) ∧ Aside0 (kq ≤ k1) ∧ Drawn0 w w')
   case atStart => exact ⟨(Go.bits .xor .i64 x3_1 (wrap64 ((wrap64 (bt a0 x4_1)) * 256))), (0), sr_, sr_, H', ⟨Nat.le_refl _⟩, dr_⟩
   case round =>
    clear H'
    try clear c2
    try clear c2b0
    try clear c3
    try clear c3b0
    try clear p4
    try clear q4
    try clear hx4
    try clear p4
    try clear q4
    obtain ⟨x3_2, x5_2, rfl, rfl, HA, HK2, ⟨m2, rfl⟩⟩ := hrel
    cases gk with
    | zero => exact absurd HA.out (by simp [spec_l1Sum.l1])
    | succ k2 =>
     have H := HA.out
     clear HA
     simp only [spec_l1Sum.l1] at H
     replace H := ite_ H
     obtain ⟨c5, H⟩ | ⟨c5, H⟩ := H
     rotate_left
     ·have c5b0 := decide_eq_false c5
      clear c5
      have H' := Aside0.mk H
      clear H
      go_wp2
      go_roundg k2
      case measure => have := HK1.out; have := HK2.out; omega
      case rel => exact ⟨(x3_2), (wrap64 (x4_1 + 1)), sr_, sr_, H', ⟨by have := HK1.out; have := HK2.out; omega⟩, dr_⟩
     have c5b0 := decide_eq_true c5
     clear c5
     replace H := ite_ H
     obtain ⟨c6, H⟩ | ⟨c6, H⟩ := H
     rotate_left
     ·have c6b0 := dgf_ c6
      clear c6
      have H' := Aside0.mk H
      clear H
      go_wp2
      go_roundg k2
      case measure => have := HK1.out; have := HK2.out; omega
      case rel => exact ⟨(wrap64 (x3_2 * 2)), (wrap64 (x5_2 + 1)), sr_, sr_, H', ⟨by have := HK1.out; have := HK2.out; omega⟩, dr_⟩
     have c6b0 := dgt_ c6
     clear c6
     have H' := Aside0.mk H
     clear H
     go_wp2
     go_roundg k2
     case measure => have := HK1.out; have := HK2.out; omega
     case rel => exact ⟨(Go.bits .xor .i64 (Go.bits .and .i64 (wrap64 (x3_2 * 2)) 65535) 4129), (wrap64 (x5_2 + 1)), sr_, sr_, H', ⟨by have := HK1.out; have := HK2.out; omega⟩, dr_⟩
/-! ### spec_l1Batch: function 82 -/
def spec_l1Batch.l0 : Nat → ByteArray → List ByteArray → Int → Int → Option (ByteArray)
 | 0, _, _, _, _ => none
 | k + 1, x3, x27, x28, x29 => if x29 < x28 then (if 0 ≤ x29 then (if x29 < (x27.length : Int) then ((spec_l1Bytes.f k ((rdOf ByteArray.empty x27 x29).size : Int) 1).bind fun t194 => (if t194.size + (rdOf ByteArray.empty x27 x29).size ≤ 9223372036854775807 then (if x3.size + (t194 ++ (rdOf ByteArray.empty x27 x29)).size ≤ 9223372036854775807 then (spec_l1Batch.l0 k (x3 ++ (t194 ++ (rdOf ByteArray.empty x27 x29))) x27 x28 (wrap64 (x29 + 1))) else (none)) else (none))) else (none)) else (none)) else ((spec_l1Bytes.f k (wrap64 ((x3.size : Int) + 2)) 2).bind fun t195 => (if t195.size + x3.size ≤ 9223372036854775807 then ((spec_l1Sum.f k (t195 ++ x3)).bind fun t196 => ((spec_l1Bytes.f k t196 2).bind fun t197 => (if (t195 ++ x3).size + t197.size ≤ 9223372036854775807 then (some ((t195 ++ x3) ++ t197)) else (none)))) else (none)))
def spec_l1Batch.f (k : Nat) (a0_0 : Int) (a0_1 : Int) (a0_2 : Int) (a0_3 : Int) (l0_4 : List ByteArray) : Option (ByteArray) := (spec_l1Bytes.f k a0_0 3).bind fun t188 => ((spec_l1Bytes.f k a0_1 2).bind fun t189 => (if t188.size + t189.size ≤ 9223372036854775807 then ((spec_l1Bytes.f k a0_2 2).bind fun t190 => (if (t188 ++ t189).size + t190.size ≤ 9223372036854775807 then ((spec_l1Bytes.f k a0_3 2).bind fun t191 => (if ((t188 ++ t189) ++ t190).size + t191.size ≤ 9223372036854775807 then ((spec_l1Bytes.f k (l0_4.length : Int) 1).bind fun t192 => (if (((t188 ++ t189) ++ t190) ++ t191).size + t192.size ≤ 9223372036854775807 then (spec_l1Batch.l0 k ((((t188 ++ t189) ++ t190) ++ t191) ++ t192) l0_4 (l0_4.length : Int) 0) else (none))) else (none))) else (none))) else (none)))
theorem spec_l1Batch.mono_l : ∀ k, (∀ y0 y1 y2 y3, LeO (spec_l1Batch.l0 k y0 y1 y2 y3) (spec_l1Batch.l0 (k + 1) y0 y1 y2 y3))
 | 0 => fun _ _ _ _ r h => by simp [spec_l1Batch.l0] at h
 | k + 1 => by
  have ih0 := spec_l1Batch.mono_l k
  ·intro y0 y1 y2 y3
   unfold spec_l1Batch.l0
   repeat' first
   | (with_reducible first | apply ih0 | apply spec_l1Bytes.mono | apply spec_l1Sum.mono | exact LeO.refl _ | exact LeO.none _ | refine LeO.ite ?_ ?_ | refine LeO.bind ?_ (fun _ => ?_))
theorem spec_l1Batch.mono : ∀ a0 a1 a2 a3 a4 k, LeO (spec_l1Batch.f k a0 a1 a2 a3 a4) (spec_l1Batch.f (k + 1) a0 a1 a2 a3 a4) := by
 intro a0 a1 a2 a3 a4 k
 have ih0 := spec_l1Batch.mono_l k
 unfold spec_l1Batch.f
 repeat' first
   | (with_reducible first | apply ih0 | apply spec_l1Bytes.mono | apply spec_l1Sum.mono | exact LeO.refl _ | exact LeO.none _ | refine LeO.ite ?_ ?_ | refine LeO.bind ?_ (fun _ => ?_))
def spec_l1Batch.T1 : Bool × List (List Nat × List Nat) := (true, [([], []), ([0], [0]), ([1], [1]), ([], []), ([3], [3]), ([4, 2], [4]), ([2, 5], [2, 5]), ([], []), ([7], [7]), ([8, 5], [8]), ([6, 9], [6, 9]), ([], []), ([11], [11]), ([12, 9], [12]), ([10, 13], [10, 13]), ([], []), ([15], [15]), ([16], [16]), ([17, 13], [17]), ([14, 18], [14, 18]), ([19, 18, 0, 1, 2, 3, 4, 5, 6, 7, 8, 9, 10, 11, 12, 13, 14, 15, 16, 17, 18, 19], [19])])
def spec_l1Batch.B1 : List Nat := [0, 1, 3, 0, 8, 31, 63, 0, 128, 447, 1023, 0, 2048, 7103, 16383, 0, 32768, 98304, 244671, 524287, 1048575]
theorem spec_l1Batch.tab1 : rtab .any (opsOf Try.f82 1) = spec_l1Batch.T1 := by kernel_rfl
theorem spec_l1Batch.bits1 : waitsOk spec_l1Batch.T1.2 spec_l1Batch.B1 = true := by kernel_rfl
set_option maxHeartbeats 8000000 in
set_option maxRecDepth 100000 in
theorem spec_l1Batch.calls (k : Nat) (a0_0 : Int) (a0_1 : Int) (a0_2 : Int) (a0_3 : Int) (A0_4 : Option Addr) (c0_4 : Nat) (l0_4 : List ByteArray) (r : ByteArray) (w : World) (hr0_4 : Kd.C Kd.string w A0_4 l0_4.length l0_4) (hc0_4 : l0_4.length ≤ c0_4) (h : spec_l1Batch.f k a0_0 a0_1 a0_2 a0_3 l0_4 = some r) :
  Calls Try.prog 82 #[.agg #[.int .i64 a0_0, .int .i64 a0_1, .int .i64 a0_2, .int .i64 a0_3, .slice A0_4 l0_4.length c0_4]] w fun e w' => e = .returned (.string r) ∧ Below w.heap.size w w' := by
 have hu43 := Try.underlying43
 have HR0_4 := Aside0.mk hr0_4
 have HC0_4 := Aside0.mk hc0_4
 clear hr0_4 hc0_4
 have HB := Aside0.mk (Below.refl w.heap.size w)
 have H : ((spec_l1Bytes.f k a0_0 3).bind fun t188 => ((spec_l1Bytes.f k a0_1 2).bind fun t189 => (if t188.size + t189.size ≤ 9223372036854775807 then ((spec_l1Bytes.f k a0_2 2).bind fun t190 => (if (t188 ++ t189).size + t190.size ≤ 9223372036854775807 then ((spec_l1Bytes.f k a0_3 2).bind fun t191 => (if ((t188 ++ t189) ++ t190).size + t191.size ≤ 9223372036854775807 then ((spec_l1Bytes.f k (l0_4.length : Int) 1).bind fun t192 => (if (((t188 ++ t189) ++ t190) ++ t191).size + t192.size ≤ 9223372036854775807 then (spec_l1Batch.l0 k ((((t188 ++ t189) ++ t190) ++ t191) ++ t192) l0_4 (l0_4.length : Int) 0) else (none))) else (none))) else (none))) else (none)))) = some r := h
 clear h
 replace H := bnd_ H
 obtain ⟨t188, A2, H⟩ := H
 replace H := bnd_ H
 obtain ⟨t189, A3, H⟩ := H
 replace H := ifs_ H
 obtain ⟨c4, H⟩ := H
 have c4b0 := eq_true c4
 have c4b1 := decide_eq_true c4
 try have c4b2 : (9223372036854775807 < t188.size + t189.size) = False := eq_false (Nat.not_lt.2 c4)
 try have c4w := cw_ c4
 replace H := bnd_ H
 obtain ⟨t190, A5, H⟩ := H
 replace H := ifs_ H
 obtain ⟨c6, H⟩ := H
 have c6b0 := eq_true c6
 have c6b1 := decide_eq_true c6
 try have c6b2 : (9223372036854775807 < (t188 ++ t189).size + t190.size) = False := eq_false (Nat.not_lt.2 c6)
 try have c6b3 : t188.size + t189.size + t190.size ≤ 9223372036854775807 := by (have h_ := c6; simp only [ByteArray.size_append] at h_; exact h_)
 try have c6b4 : (9223372036854775807 < t188.size + t189.size + t190.size) = False := eq_false (Nat.not_lt.2 c6b3)
 try have c6w := cw_ c6
 (try rw [c6w] at c4b0)
 replace H := bnd_ H
 obtain ⟨t191, A7, H⟩ := H
 replace H := ifs_ H
 obtain ⟨c8, H⟩ := H
 have c8b0 := eq_true c8
 have c8b1 := decide_eq_true c8
 try have c8b2 : (9223372036854775807 < ((t188 ++ t189) ++ t190).size + t191.size) = False := eq_false (Nat.not_lt.2 c8)
 try have c8b3 : t188.size + t189.size + t190.size + t191.size ≤ 9223372036854775807 := by (have h_ := c8; simp only [ByteArray.size_append] at h_; exact h_)
 try have c8b4 : (9223372036854775807 < t188.size + t189.size + t190.size + t191.size) = False := eq_false (Nat.not_lt.2 c8b3)
 try have c8w := cw_ c8
 (try rw [c8w] at c4b0)
 (try rw [c8w] at c6b0)
 replace H := bnd_ H
 obtain ⟨t192, A9, H⟩ := H
 replace H := ifs_ H
 obtain ⟨c10, H⟩ := H
 have c10b0 := eq_true c10
 have c10b1 := decide_eq_true c10
 try have c10b2 : (9223372036854775807 < (((t188 ++ t189) ++ t190) ++ t191).size + t192.size) = False := eq_false (Nat.not_lt.2 c10)
 try have c10b3 : t188.size + t189.size + t190.size + t191.size + t192.size ≤ 9223372036854775807 := by (have h_ := c10; simp only [ByteArray.size_append] at h_; exact h_)
 try have c10b4 : (9223372036854775807 < t188.size + t189.size + t190.size + t191.size + t192.size) = False := eq_false (Nat.not_lt.2 c10b3)
 try have c10w := cw_ c10
 (try rw [c10w] at c4b0)
 (try rw [c10w] at c6b0)
 (try rw [c10w] at c8b0)
 have H' := Aside0.mk H
 clear H
 go_enter Try.func82, Try.ntmps82
 try go_wp2_with (first | ((with_reducible refine gate_dst (N := 1) rfl ?_); refine bq_ (N := 1) #[.int .i64 a0_0, .int .i64 a0_1, .int .i64 a0_2, .int .i64 a0_3, .slice A0_4 l0_4.length c0_4] 43 ?_; intro gb187 hg w11 BK187 hb; have GE187 := ge_ hg; replace HB := nb_ hb; clear hb hg))
 replace BK187 := qK_ BK187
 replace HB := qH_ HB
 refine start_ (n := 21) (S := fun w' => w'.cell? ⟨gb187, 0, none⟩ = some (.int .i64 a0_0) ∧ w'.cell? ⟨gb187, 1, none⟩ = some (.int .i64 a0_1) ∧ w'.cell? ⟨gb187, 2, none⟩ = some (.int .i64 a0_2) ∧ w'.cell? ⟨gb187, 3, none⟩ = some (.int .i64 a0_3) ∧ w'.cell? ⟨gb187, 4, none⟩ = some (.slice A0_4 l0_4.length c0_4)) (ds := []) (List.replicate 21 false).toArray (by kernel_rfl) rfl rfl ⟨bt_ BK187 0, bt_ BK187 1, bt_ BK187 2, bt_ BK187 3, bt_ BK187 4⟩ (fun hHeld => ?_); refine with_tabW spec_l1Batch.tab1 spec_l1Batch.bits1 (fun HT_ HW_ => ?_)
 generalize w11.drew = w12 at BK187 HB hHeld ⊢
 refine pv_ 0 6 ?_
 refine pv_ 3 9 ?_
 refine pv_ 7 13 ?_
 refine pv_ 11 17 ?_
 refine pv_ 15 21 ?_
 refine tk_ 1 7 ?_
 refine tk_ 4 10 ?_
 refine tk_ 8 14 ?_
 refine tk_ 12 18 ?_
 refine tk_ 16 22 ?_
 refine pv_ 17 23 ?_
 refine on_ 2 8 (fun K hK => ?_)
 refine gs_ Try.func108 #[.int .i64 a0_0, .int .i64 3] rfl ma_ ?_
 with_reducible refine (spec_l1Bytes.calls k a0_0 3 t188 _ A2.out).mono ?_
 rintro e w13 ⟨rfl, hb⟩
 refine ⟨_, rfl, ?_⟩
 replace BK187 := bK_ BK187 hb
 replace HB := nc_ GE187 hb
 (try clear hb)
 (try clear hb2)
 (try clear hk)
 (try clear hi)
 refine hK.out _ _ ⟨bt_ BK187 0, bt_ BK187 1, bt_ BK187 2, bt_ BK187 3, bt_ BK187 4⟩ (fun hHeld => ?_)
 clear hK K
 refine no_ ?_
 refine on_ 5 11 (fun K hK => ?_)
 refine gs_ Try.func108 #[.int .i64 a0_1, .int .i64 2] rfl ma_ ?_
 with_reducible refine (spec_l1Bytes.calls k a0_1 2 t189 _ A3.out).mono ?_
 rintro e w14 ⟨rfl, hb⟩
 refine ⟨_, rfl, ?_⟩
 replace BK187 := bK_ BK187 hb
 replace HB := nc_ GE187 hb
 (try clear hb)
 (try clear hb2)
 (try clear hk)
 (try clear hi)
 refine hK.out _ _ ⟨bt_ BK187 0, bt_ BK187 1, bt_ BK187 2, bt_ BK187 3, bt_ BK187 4⟩ (fun hHeld => ?_)
 clear hK K
 refine no_ ?_
 refine pv_ 6 12 ?_
 refine on_ 9 15 (fun K hK => ?_)
 refine gs_ Try.func108 #[.int .i64 a0_2, .int .i64 2] rfl ma_ ?_
 with_reducible refine (spec_l1Bytes.calls k a0_2 2 t190 _ A5.out).mono ?_
 rintro e w15 ⟨rfl, hb⟩
 refine ⟨_, rfl, ?_⟩
 replace BK187 := bK_ BK187 hb
 replace HB := nc_ GE187 hb
 (try clear hb)
 (try clear hb2)
 (try clear hk)
 (try clear hi)
 refine hK.out _ _ ⟨bt_ BK187 0, bt_ BK187 1, bt_ BK187 2, bt_ BK187 3, bt_ BK187 4⟩ (fun hHeld => ?_)
 clear hK K
 refine no_ ?_
 refine pv_ 10 16 ?_
 refine on_ 13 19 (fun K hK => ?_)
 refine gs_ Try.func108 #[.int .i64 a0_3, .int .i64 2] rfl ma_ ?_
 with_reducible refine (spec_l1Bytes.calls k a0_3 2 t191 _ A7.out).mono ?_
 rintro e w16 ⟨rfl, hb⟩
 refine ⟨_, rfl, ?_⟩
 replace BK187 := bK_ BK187 hb
 replace HB := nc_ GE187 hb
 (try clear hb)
 (try clear hb2)
 (try clear hk)
 (try clear hi)
 refine hK.out _ _ ⟨bt_ BK187 0, bt_ BK187 1, bt_ BK187 2, bt_ BK187 3, bt_ BK187 4⟩ (fun hHeld => ?_)
 clear hK K
 refine no_ ?_
 refine pv_ 14 20 ?_
 refine on_ 18 24 (fun K hK => ?_)
 refine gs_ Try.func108 #[.int .i64 (l0_4.length : Int), .int .i64 1] rfl ma_ ?_
 with_reducible refine (spec_l1Bytes.calls k (l0_4.length : Int) 1 t192 _ A9.out).mono ?_
 rintro e w17 ⟨rfl, hb⟩
 refine ⟨_, rfl, ?_⟩
 replace BK187 := bK_ BK187 hb
 replace HB := nc_ GE187 hb
 (try clear hb)
 (try clear hb2)
 (try clear hk)
 (try clear hi)
 refine hK.out _ _ ⟨bt_ BK187 0, bt_ BK187 1, bt_ BK187 2, bt_ BK187 3, bt_ BK187 4⟩ (fun hHeld => ?_)
 clear hK K
 refine no_ ?_
 refine pv_ 19 25 ?_
 refine pv_ 20 3 ?_
 refine done_ (done_of HT_.out (by kernel_rfl)) ?_
 obtain ⟨hcz18_0, hcz18_1, hcz18_2, hcz18_3, hcz18_4, hfz18_0, hfz18_1, hfz18_2, hfz18_3, hfz18_4⟩ := cf5_ BK187.out
 try go_wp2
 go_loopg [3, 29] k (fun kq v3 v29 w' => ∃ (x3_1 : ByteArray) (x29_1 : Int), v3 = .string x3_1 ∧ v29 = .int .i64 x29_1 ∧ Aside0 (spec_l1Batch.l0 kq x3_1 l0_4 (l0_4.length : Int) x29_1 = some r) ∧ Aside0 (kq ≤ k) ∧ Aside0 (w'.heap[gb187]? = some (.cells #[.int .i64 a0_0, .int .i64 a0_1, .int .i64 a0_2, .int .i64 a0_3, (.slice A0_4 l0_4.length c0_4)] 43 (0, 0))) ∧ Aside0 (Below w.heap.size w w'))
 case atStart => exact ⟨((((t188 ++ t189) ++ t190) ++ t191) ++ t192), (0), sr_, sr_, H', ⟨Nat.le_refl _⟩, ⟨kb_ BK187.out⟩, ⟨hs_ GE187.out⟩⟩
 case round =>
  clear H'
  try clear c4
  try clear c4b0
  try clear c4b1
  try clear c4b2
  try clear c6
  try clear c6b0
  try clear c6b1
  try clear c6b2
  try clear c8
  try clear c8b0
  try clear c8b1
  try clear c8b2
  try clear c10
  try clear c10b0
  try clear c10b1
  try clear c10b2
  try clear hcz18_0
  try clear hcz18_1
  try clear hcz18_2
  try clear hcz18_3
  try clear hcz18_4
  try clear hfz18_0
  try clear hfz18_1
  try clear hfz18_2
  try clear hfz18_3
  try clear hfz18_4
  obtain ⟨x3_1, x29_1, rfl, rfl, HA, HK1, BK187, HB⟩ := hrel
  cases gk with
  | zero => exact absurd HA.out (by simp [spec_l1Batch.l0])
  | succ k1 =>
   have H := HA.out
   clear HA
   simp only [spec_l1Batch.l0] at H
   replace H := ite_ H
   obtain ⟨c19, H⟩ | ⟨c19, H⟩ := H
   ·have c19b0 := decide_eq_true c19
    clear c19
    replace H := ifs_ H
    obtain ⟨c20, H⟩ := H
    have c20b0 := decide_eq_true c20
    clear c20
    replace H := ifs_ H
    obtain ⟨c21, H⟩ := H
    have c21b0 := decide_eq_true c21
    clear c21
    replace H := bnd_ H
    obtain ⟨t194, A22, H⟩ := H
    replace H := ifs_ H
    obtain ⟨c23, H⟩ := H
    have c23b0 := eq_true c23
    have c23b1 := decide_eq_true c23
    try have c23b2 : (9223372036854775807 < t194.size + (rdOf ByteArray.empty l0_4 x29_1).size) = False := eq_false (Nat.not_lt.2 c23)
    try have c23w := cw_ c23
    (try rw [c23w] at c4b0)
    (try rw [c23w] at c6b0)
    (try rw [c23w] at c8b0)
    (try rw [c23w] at c10b0)
    (try rw [c23w] at c19b0)
    (try rw [c23w] at c20b0)
    (try rw [c23w] at c21b0)
    replace H := ifs_ H
    obtain ⟨c24, H⟩ := H
    have c24b0 := eq_true c24
    have c24b1 := decide_eq_true c24
    try have c24b2 : (9223372036854775807 < x3_1.size + (t194 ++ (rdOf ByteArray.empty l0_4 x29_1)).size) = False := eq_false (Nat.not_lt.2 c24)
    try have c24b3 : x3_1.size + (t194.size + (rdOf ByteArray.empty l0_4 x29_1).size) ≤ 9223372036854775807 := by (have h_ := c24; simp only [ByteArray.size_append] at h_; exact h_)
    try have c24b4 : (9223372036854775807 < x3_1.size + (t194.size + (rdOf ByteArray.empty l0_4 x29_1).size)) = False := eq_false (Nat.not_lt.2 c24b3)
    try have c24w := cw_ c24
    (try rw [c24w] at c4b0)
    (try rw [c24w] at c6b0)
    (try rw [c24w] at c8b0)
    (try rw [c24w] at c10b0)
    (try rw [c24w] at c19b0)
    (try rw [c24w] at c20b0)
    (try rw [c24w] at c21b0)
    (try rw [c24w] at c23b0)
    have H' := Aside0.mk H
    clear H
    have p193 : 0 ≤ (x29_1 : Int) := oa_
    have q193 : x29_1 < (l0_4.length : Int) := oa_
    obtain ⟨ad193, e193, hx193_0⟩ := Kd.at_string HR0_4.out x29_1 p193 q193
    cases e193
    replace hx193_0 := pc_ HB.out hx193_0
    replace p193 := eq_true p193
    replace q193 := eq_true q193
    go_wp2_with (first | ((with_reducible refine gate_callee (f := 108) rfl ?_); refine gl_ 36 Try.func108 #[.int .i64 ((rdOf ByteArray.empty l0_4 x29_1).size : Int), .int .i64 1] rfl ma_ ?_; (with_reducible refine (spec_l1Bytes.calls k1 ((rdOf ByteArray.empty l0_4 x29_1).size : Int) 1 t194 _ A22.out).mono ?_); rintro e w25 ⟨rfl, hb⟩; refine ⟨_, rfl, ?_⟩; replace BK187 := bK_ BK187 hb; replace HB := nc_ GE187 hb; (try clear hb); (try clear hb2); (try clear hk); (try clear hi)))
    go_roundg k1
    case measure => have := HK1.out; omega
    case rel => exact ⟨(x3_1 ++ (t194 ++ (rdOf ByteArray.empty l0_4 x29_1))), (wrap64 (x29_1 + 1)), sr_, sr_, H', ⟨by have := HK1.out; omega⟩, ⟨kb_ BK187.out⟩, ⟨hs_ GE187.out⟩⟩
   have c19b0 := decide_eq_false c19
   clear c19
   replace H := bnd_ H
   obtain ⟨t195, A26, H⟩ := H
   replace H := ifs_ H
   obtain ⟨c27, H⟩ := H
   have c27b0 := eq_true c27
   have c27b1 := decide_eq_true c27
   try have c27b2 : (9223372036854775807 < t195.size + x3_1.size) = False := eq_false (Nat.not_lt.2 c27)
   try have c27w := cw_ c27
   (try rw [c27w] at c4b0)
   (try rw [c27w] at c6b0)
   (try rw [c27w] at c8b0)
   (try rw [c27w] at c10b0)
   (try rw [c27w] at c19b0)
   (try rw [c27w] at c20b0)
   (try rw [c27w] at c21b0)
   (try rw [c27w] at c23b0)
   (try rw [c27w] at c24b0)
   replace H := bnd_ H
   obtain ⟨t196, A28, H⟩ := H
   replace H := bnd_ H
   obtain ⟨t197, A29, H⟩ := H
   replace H := ifs_ H
   obtain ⟨c30, H⟩ := H
   have c30b0 := eq_true c30
   have c30b1 := decide_eq_true c30
   try have c30b2 : (9223372036854775807 < (t195 ++ x3_1).size + t197.size) = False := eq_false (Nat.not_lt.2 c30)
   try have c30b3 : t195.size + x3_1.size + t197.size ≤ 9223372036854775807 := by (have h_ := c30; simp only [ByteArray.size_append] at h_; exact h_)
   try have c30b4 : (9223372036854775807 < t195.size + x3_1.size + t197.size) = False := eq_false (Nat.not_lt.2 c30b3)
   try have c30w := cw_ c30
   (try rw [c30w] at c4b0)
   (try rw [c30w] at c6b0)
   (try rw [c30w] at c8b0)
   (try rw [c30w] at c10b0)
   (try rw [c30w] at c19b0)
   (try rw [c30w] at c20b0)
   (try rw [c30w] at c21b0)
   (try rw [c30w] at c23b0)
   (try rw [c30w] at c24b0)
   (try rw [c30w] at c27b0)
   obtain rfl := Option.some.inj H
   go_wp2_with (first | ((with_reducible refine gate_callee (f := 108) rfl ?_); refine gl_ 44 Try.func108 #[.int .i64 (wrap64 ((x3_1.size : Int) + 2)), .int .i64 2] rfl ma_ ?_; (with_reducible refine (spec_l1Bytes.calls k1 (wrap64 ((x3_1.size : Int) + 2)) 2 t195 _ A26.out).mono ?_); rintro e w31 ⟨rfl, hb⟩; refine ⟨_, rfl, ?_⟩; replace BK187 := bK_ BK187 hb; replace HB := nc_ GE187 hb; (try clear hb); (try clear hb2); (try clear hk); (try clear hi)) | ((with_reducible refine gate_callee (f := 109) rfl ?_); refine gl_ 49 Try.func109 #[.string (t195 ++ x3_1)] rfl ma_ ?_; (with_reducible refine (spec_l1Sum.calls k1 (t195 ++ x3_1) t196 _ A28.out).mono ?_); rintro e w' ⟨rfl, ⟨nd, rfl⟩⟩; refine ⟨_, rfl, ?_⟩) | ((with_reducible refine gate_callee (f := 108) rfl ?_); refine gl_ 50 Try.func108 #[.int .i64 t196, .int .i64 2] rfl ma_ ?_; (with_reducible refine (spec_l1Bytes.calls k1 t196 2 t197 _ A29.out).mono ?_); rintro e w32 ⟨rfl, hb⟩; refine ⟨_, rfl, ?_⟩; replace BK187 := bK_ BK187 hb; replace HB := nc_ GE187 hb; (try clear hb); (try clear hb2); (try clear hk); (try clear hi)))
   go_ret
   exact ⟨er_, hs_ GE187.out⟩

/-! ### spec_l1Value: function 122 -/
def spec_l1Value.l0 : Nat → ByteArray → Int → Int → Option (Int)
 | 0, _, _, _ => none
 | k + 1, x0, x3, x4 => if x4 < (x0.size : Int) then (if 0 ≤ x4 then (spec_l1Value.l0 k x0 (Go.bits .or .i64 (wrap64 (x3 * 256)) (wrap64 (bt x0 x4))) (wrap64 (x4 + 1))) else (none)) else (some x3)
def spec_l1Value.f (k : Nat) (a0 : ByteArray) : Option (Int) := spec_l1Value.l0 k a0 0 0
theorem spec_l1Value.mono_l : ∀ k, (∀ y0 y1 y2, LeO (spec_l1Value.l0 k y0 y1 y2) (spec_l1Value.l0 (k + 1) y0 y1 y2))
 | 0 => fun _ _ _ r h => by simp [spec_l1Value.l0] at h
 | k + 1 => by
  have ih0 := spec_l1Value.mono_l k
  ·intro y0 y1 y2
   unfold spec_l1Value.l0
   repeat' first
   | (with_reducible first | apply ih0 | exact LeO.refl _ | exact LeO.none _ | refine LeO.ite ?_ ?_ | refine LeO.bind ?_ (fun _ => ?_))
theorem spec_l1Value.mono : ∀ a0 k, LeO (spec_l1Value.f k a0) (spec_l1Value.f (k + 1) a0) := by
 intro a0 k
 have ih0 := spec_l1Value.mono_l k
 unfold spec_l1Value.f
 repeat' first
   | (with_reducible first | apply ih0 | exact LeO.refl _ | exact LeO.none _ | refine LeO.ite ?_ ?_ | refine LeO.bind ?_ (fun _ => ?_))
set_option maxHeartbeats 8000000 in
set_option maxRecDepth 100000 in
theorem spec_l1Value.calls (k : Nat) (a0 : ByteArray) (r : Int) (w : World) (h : spec_l1Value.f k a0 = some r) :
  Calls Try.prog 122 #[.string a0] w fun e w' => e = .returned (.int .i64 r) ∧ Drawn0 w w' := by
 have H : (spec_l1Value.l0 k a0 0 0) = some r := h
 clear h
 have H' := Aside0.mk H
 clear H
 go_enter Try.func122, Try.ntmps122
 go_wp2
 go_loopg [3, 4] k (fun kq v3 v4 w' => ∃ (x3_1 : Int) (x4_1 : Int), v3 = .int .i64 x3_1 ∧ v4 = .int .i64 x4_1 ∧ Aside0 (spec_l1Value.l0 kq a0 x3_1 x4_1 = some r) ∧ Aside0 (kq ≤ k) ∧ Drawn0 w w')
 case atStart => exact ⟨(0), (0), sr_, sr_, H', ⟨Nat.le_refl _⟩, dr_⟩
 case round =>
  clear H'
  obtain ⟨x3_1, x4_1, rfl, rfl, HA, HK1, ⟨m1, rfl⟩⟩ := hrel
  cases gk with
  | zero => exact absurd HA.out (by simp [spec_l1Value.l0])
  | succ k1 =>
   have H := HA.out
   clear HA
   simp only [spec_l1Value.l0] at H
   replace H := ite_ H
   obtain ⟨c2, H⟩ | ⟨c2, H⟩ := H
   rotate_left
   ·have c2b0 := decide_eq_false c2
    clear c2
    obtain rfl := Option.some.inj H
    go_wp2
    go_ret
    exact ⟨by first | rfl | (simp; done) | (simp [*]; done), dr_⟩
   have c2b0 := decide_eq_true c2
   clear c2
   replace H := ifs_ H
   obtain ⟨c3, H⟩ := H
   have c3b0 := decide_eq_true c3
   clear c3
   have H' := Aside0.mk H
   clear H
   have p4 : 0 ≤ (x4_1 : Int) := oa_
   have q4 : x4_1 < (a0.size : Int) := oa_
   have hx4 := bt_at a0 x4_1
   replace p4 := eq_true p4
   replace q4 := eq_true q4
   go_wp2
   go_roundg k1
   case measure => have := HK1.out; omega
   case rel => exact ⟨(Go.bits .or .i64 (wrap64 (x3_1 * 256)) (wrap64 (bt a0 x4_1))), (wrap64 (x4_1 + 1)), sr_, sr_, H', ⟨by have := HK1.out; omega⟩, dr_⟩
end Go.Proofs.Ytffpeklekkpbjaa.QFnExactReadFrom
