/- Functions that one statement reaches: of each a plain function, and the proof that calls come to it. Conditions: those that each contract names. Written by a program of this repository. -/
import Derived.Test.YtojdaolclcmalaaVRebuildFroma
import Derived.Test.YtojdaolclcmalaaQFnExactRebuildFromx0
import Derived.Test.YtojdaolclcmalaaQFnExactRebuildFromx6
namespace Go.Proofs.Ytojdaolclcmalaa.QFnExactRebuildFrom
open Go.RowKit Go.Proofs.YtojdaolclcmalaaW.PrintWords Go.Proofs.YtojdaolclcmalaaW.PrintLast Go.Proofs.YtojdaolclcmalaaW.PrintMore
attribute [local go_sem] max2_int min2_int max_two min_two max_three min_three max_four min_four Go.Proofs.YtojdaolclcmalaaW.PrintMore2.isSome_setCell   -- for this text's walks alone
set_option linter.unusedVariables false
set_option linter.unusedSimpArgs false

/-! ### spec_GoodBatch: function 55 -/
def spec_GoodBatch.l0 : Nat → List ByteArray → Int → Int → Int → Int → Int → Int → List ByteArray → Option (Bool)
 | 0, _, _, _, _, _, _, _, _ => none
 | k + 1, x6, x7, x8, x182000, x182001, x182002, x182003, x182004 => if x8 < x7 then (if 0 ≤ x8 then (if x8 < (x6.length : Int) then (if ((rdOf ByteArray.empty x6 x8).size : Int) > 20 then (some false) else (spec_GoodBatch.l0 k x6 x7 (wrap64 (x8 + 1)) x182000 x182001 x182002 x182003 x182004)) else (none)) else (none)) else ((spec_l1In.f x182000 0 100000).bind fun t183 => (if t183 = true then ((spec_l1In.f x182001 0 1000).bind fun t184 => (if t184 = true then ((spec_l1In.f x182002 0 65535).bind fun t185 => (if t185 = true then ((spec_l1In.f x182003 0 65535).bind fun t186 => (if t186 = true then ((spec_l1In.f (x182004.length : Int) 1 8).bind fun t187 => (some t187)) else (some false))) else (some false))) else (some false))) else (some false)))
def spec_GoodBatch.f (k : Nat) (a0_0 : Int) (a0_1 : Int) (a0_2 : Int) (a0_3 : Int) (l0_4 : List ByteArray) : Option (Bool) := spec_GoodBatch.l0 k l0_4 (l0_4.length : Int) 0 a0_0 a0_1 a0_2 a0_3 l0_4
theorem spec_GoodBatch.mono_l : ∀ k, (∀ y0 y1 y2 y3 y4 y5 y6 y7, LeO (spec_GoodBatch.l0 k y0 y1 y2 y3 y4 y5 y6 y7) (spec_GoodBatch.l0 (k + 1) y0 y1 y2 y3 y4 y5 y6 y7))
 | 0 => fun _ _ _ _ _ _ _ _ r h => by simp [spec_GoodBatch.l0] at h
 | k + 1 => by
  have ih0 := spec_GoodBatch.mono_l k
  ·intro y0 y1 y2 y3 y4 y5 y6 y7
   unfold spec_GoodBatch.l0
   repeat' first
   | (with_reducible first | apply ih0 | exact LeO.refl _ | exact LeO.none _ | refine LeO.ite ?_ ?_ | refine LeO.bind ?_ (fun _ => ?_))
theorem spec_GoodBatch.mono : ∀ a0 a1 a2 a3 a4 k, LeO (spec_GoodBatch.f k a0 a1 a2 a3 a4) (spec_GoodBatch.f (k + 1) a0 a1 a2 a3 a4) := by
 intro a0 a1 a2 a3 a4 k
 have ih0 := spec_GoodBatch.mono_l k
 unfold spec_GoodBatch.f
 repeat' first
   | (with_reducible first | apply ih0 | exact LeO.refl _ | exact LeO.none _ | refine LeO.ite ?_ ?_ | refine LeO.bind ?_ (fun _ => ?_))
set_option maxHeartbeats 8000000 in
set_option maxRecDepth 100000 in
theorem spec_GoodBatch.calls (k : Nat) (a0_0 : Int) (a0_1 : Int) (a0_2 : Int) (a0_3 : Int) (A0_4 : Option Addr) (c0_4 : Nat) (l0_4 : List ByteArray) (r : Bool) (w : World) (hr0_4 : Kd.C Kd.string w A0_4 l0_4.length l0_4) (hc0_4 : l0_4.length ≤ c0_4) (h : spec_GoodBatch.f k a0_0 a0_1 a0_2 a0_3 l0_4 = some r) :
  Calls Try.prog 55 #[.agg #[.int .i64 a0_0, .int .i64 a0_1, .int .i64 a0_2, .int .i64 a0_3, .slice A0_4 l0_4.length c0_4]] w fun e w' => e = .returned (.bool r) ∧ Below w.heap.size w w' := by
 have hu78 := Try.underlying78
 have HR0_4 := Aside0.mk hr0_4
 have HC0_4 := Aside0.mk hc0_4
 clear hr0_4 hc0_4
 have HB := Aside0.mk (Below.refl w.heap.size w)
 have H : (spec_GoodBatch.l0 k l0_4 (l0_4.length : Int) 0 a0_0 a0_1 a0_2 a0_3 l0_4) = some r := h
 clear h
 have H' := Aside0.mk H
 clear H
 go_enter Try.func55, Try.ntmps55
 go_wp2_with (first | ((with_reducible refine gate_dst (N := 1) rfl ?_); (try (refine gate_guard (by rfl) ?_; dsimp only)); refine bq_ (N := 1) #[.int .i64 a0_0, .int .i64 a0_1, .int .i64 a0_2, .int .i64 a0_3, .slice A0_4 l0_4.length c0_4] 78 ?_; intro gb181 hg w2 BK181 hb; have GE181 := ge_ hg; replace HB := nb_ hb; clear hb hg; obtain ⟨hcz3_0, hcz3_1, hcz3_2, hcz3_3, hcz3_4, hfz3_0, hfz3_1, hfz3_2, hfz3_3, hfz3_4⟩ := cf5_ BK181.out))
 go_loopg [8] k (fun kq v8 w' => ∃ (x8_1 : Int), v8 = .int .i64 x8_1 ∧ Aside0 (spec_GoodBatch.l0 kq l0_4 (l0_4.length : Int) x8_1 a0_0 a0_1 a0_2 a0_3 l0_4 = some r) ∧ Aside0 (kq ≤ k) ∧ Aside0 (w'.heap[gb181]? = some (.cells #[.int .i64 a0_0, .int .i64 a0_1, .int .i64 a0_2, .int .i64 a0_3, (.slice A0_4 l0_4.length c0_4)] 78 (0, 0))) ∧ Aside0 (Below w.heap.size w w'))
 case atStart => exact ⟨(0), sr_, H', ⟨Nat.le_refl _⟩, ⟨kb_ BK181.out⟩, ⟨hs_ GE181.out⟩⟩
 case round =>
  clear H'
  try clear hcz3_0
  try clear hcz3_1
  try clear hcz3_2
  try clear hcz3_3
  try clear hcz3_4
  try clear hfz3_0
  try clear hfz3_1
  try clear hfz3_2
  try clear hfz3_3
  try clear hfz3_4
  obtain ⟨x8_1, rfl, HA, HK1, BK181, HB⟩ := hrel
  cases gk with
  | zero => exact absurd HA.out (by simp [spec_GoodBatch.l0])
  | succ k1 =>
   have H := HA.out
   clear HA
   simp only [spec_GoodBatch.l0] at H
   replace H := ite_ H
   obtain ⟨c4, H⟩ | ⟨c4, H⟩ := H
   ·have c4b0 := decide_eq_true c4
    clear c4
    replace H := ifs_ H
    obtain ⟨c5, H⟩ := H
    have c5b0 := decide_eq_true c5
    clear c5
    replace H := ifs_ H
    obtain ⟨c6, H⟩ := H
    have c6b0 := decide_eq_true c6
    clear c6
    replace H := ite_ H
    obtain ⟨c7, H⟩ | ⟨c7, H⟩ := H
    ·have c7b0 := dgt_ c7
     have c7b1 : decide (20 < (rdOf ByteArray.empty l0_4 x8_1).size) = true := decide_eq_true (by omega)
     clear c7
     obtain rfl := Option.some.inj H
     have p182 : 0 ≤ (x8_1 : Int) := oa_
     have q182 : x8_1 < (l0_4.length : Int) := oa_
     obtain ⟨ad182, e182, hx182_0⟩ := Kd.at_string HR0_4.out x8_1 p182 q182
     cases e182
     replace hx182_0 := pc_ HB.out hx182_0
     replace p182 := eq_true p182
     replace q182 := eq_true q182
     go_wp2
     go_ret
     exact ⟨er_, hs_ GE181.out⟩
    have c7b0 := dgf_ c7
    have c7b1 : decide (20 < (rdOf ByteArray.empty l0_4 x8_1).size) = false := decide_eq_false (by omega)
    clear c7
    have H' := Aside0.mk H
    clear H
    have p182 : 0 ≤ (x8_1 : Int) := oa_
    have q182 : x8_1 < (l0_4.length : Int) := oa_
    obtain ⟨ad182, e182, hx182_0⟩ := Kd.at_string HR0_4.out x8_1 p182 q182
    cases e182
    replace hx182_0 := pc_ HB.out hx182_0
    replace p182 := eq_true p182
    replace q182 := eq_true q182
    go_wp2
    go_roundg k1
    case measure => have := HK1.out; omega
    case rel => exact ⟨(wrap64 (x8_1 + 1)), sr_, H', ⟨by have := HK1.out; omega⟩, ⟨kb_ BK181.out⟩, ⟨hs_ GE181.out⟩⟩
   have c4b0 := decide_eq_false c4
   clear c4
   replace H := bnd_ H
   obtain ⟨t183, A8, H⟩ := H
   replace H := ifb_ H
   obtain ⟨rfl, H⟩ | ⟨rfl, H⟩ := H
   rotate_left
   ·obtain rfl := Option.some.inj H
    obtain ⟨hcz21_0, hcz21_1, hcz21_2, hcz21_3, hcz21_4, hfz21_0, hfz21_1, hfz21_2, hfz21_3, hfz21_4⟩ := cf5_ BK181.out
    go_wp2_with (first | ((with_reducible refine gate_callee (f := 82) rfl ?_); refine gl_ 18 Try.func82 #[.int .i64 a0_0, .int .i64 0, .int .i64 100000] rfl ma_ ?_; (with_reducible refine (spec_l1In.calls a0_0 0 100000 false _ A8.out).mono ?_); rintro e w' ⟨rfl, ⟨nd, rfl⟩⟩; refine ⟨_, rfl, ?_⟩))
    go_ret
    exact ⟨er_, hs_ GE181.out⟩
   replace H := bnd_ H
   obtain ⟨t184, A10, H⟩ := H
   replace H := ifb_ H
   obtain ⟨rfl, H⟩ | ⟨rfl, H⟩ := H
   rotate_left
   ·obtain rfl := Option.some.inj H
    obtain ⟨hcz20_0, hcz20_1, hcz20_2, hcz20_3, hcz20_4, hfz20_0, hfz20_1, hfz20_2, hfz20_3, hfz20_4⟩ := cf5_ BK181.out
    go_wp2_with (first | ((with_reducible refine gate_callee (f := 82) rfl ?_); refine gl_ 18 Try.func82 #[.int .i64 a0_0, .int .i64 0, .int .i64 100000] rfl ma_ ?_; (with_reducible refine (spec_l1In.calls a0_0 0 100000 true _ A8.out).mono ?_); rintro e w' ⟨rfl, ⟨nd, rfl⟩⟩; refine ⟨_, rfl, ?_⟩) | (go_at_call 82; (with_reducible refine (spec_l1In.calls a0_1 0 1000 false _ A10.out).mono ?_); rintro e w' ⟨rfl, ⟨nd, rfl⟩⟩))
    go_ret
    exact ⟨er_, hs_ GE181.out⟩
   replace H := bnd_ H
   obtain ⟨t185, A12, H⟩ := H
   replace H := ifb_ H
   obtain ⟨rfl, H⟩ | ⟨rfl, H⟩ := H
   rotate_left
   ·obtain rfl := Option.some.inj H
    obtain ⟨hcz19_0, hcz19_1, hcz19_2, hcz19_3, hcz19_4, hfz19_0, hfz19_1, hfz19_2, hfz19_3, hfz19_4⟩ := cf5_ BK181.out
    go_wp2_with (first | ((with_reducible refine gate_callee (f := 82) rfl ?_); refine gl_ 18 Try.func82 #[.int .i64 a0_0, .int .i64 0, .int .i64 100000] rfl ma_ ?_; (with_reducible refine (spec_l1In.calls a0_0 0 100000 true _ A8.out).mono ?_); rintro e w' ⟨rfl, ⟨nd, rfl⟩⟩; refine ⟨_, rfl, ?_⟩) | (go_at_call 82; (with_reducible refine (spec_l1In.calls a0_1 0 1000 true _ A10.out).mono ?_); rintro e w' ⟨rfl, ⟨nd, rfl⟩⟩) | (go_at_call 82; (with_reducible refine (spec_l1In.calls a0_2 0 65535 false _ A12.out).mono ?_); rintro e w' ⟨rfl, ⟨nd, rfl⟩⟩))
    go_ret
    exact ⟨er_, hs_ GE181.out⟩
   replace H := bnd_ H
   obtain ⟨t186, A14, H⟩ := H
   replace H := ifb_ H
   obtain ⟨rfl, H⟩ | ⟨rfl, H⟩ := H
   rotate_left
   ·obtain rfl := Option.some.inj H
    obtain ⟨hcz18_0, hcz18_1, hcz18_2, hcz18_3, hcz18_4, hfz18_0, hfz18_1, hfz18_2, hfz18_3, hfz18_4⟩ := cf5_ BK181.out
    go_wp2_with (first | ((with_reducible refine gate_callee (f := 82) rfl ?_); refine gl_ 18 Try.func82 #[.int .i64 a0_0, .int .i64 0, .int .i64 100000] rfl ma_ ?_; (with_reducible refine (spec_l1In.calls a0_0 0 100000 true _ A8.out).mono ?_); rintro e w' ⟨rfl, ⟨nd, rfl⟩⟩; refine ⟨_, rfl, ?_⟩) | (go_at_call 82; (with_reducible refine (spec_l1In.calls a0_1 0 1000 true _ A10.out).mono ?_); rintro e w' ⟨rfl, ⟨nd, rfl⟩⟩) | (go_at_call 82; (with_reducible refine (spec_l1In.calls a0_2 0 65535 true _ A12.out).mono ?_); rintro e w' ⟨rfl, ⟨nd, rfl⟩⟩) | (go_at_call 82; (with_reducible refine (spec_l1In.calls a0_3 0 65535 false _ A14.out).mono ?_); rintro e w' ⟨rfl, ⟨nd, rfl⟩⟩))
    go_ret
    exact ⟨er_, hs_ GE181.out⟩
   replace H := bnd_ H
   obtain ⟨t187, A16, H⟩ := H
   obtain rfl := Option.some.inj H
   obtain ⟨hcz17_0, hcz17_1, hcz17_2, hcz17_3, hcz17_4, hfz17_0, hfz17_1, hfz17_2, hfz17_3, hfz17_4⟩ := cf5_ BK181.out
   go_wp2_with (first | ((with_reducible refine gate_callee (f := 82) rfl ?_); refine gl_ 18 Try.func82 #[.int .i64 a0_0, .int .i64 0, .int .i64 100000] rfl ma_ ?_; (with_reducible refine (spec_l1In.calls a0_0 0 100000 true _ A8.out).mono ?_); rintro e w' ⟨rfl, ⟨nd, rfl⟩⟩; refine ⟨_, rfl, ?_⟩) | (go_at_call 82; (with_reducible refine (spec_l1In.calls a0_1 0 1000 true _ A10.out).mono ?_); rintro e w' ⟨rfl, ⟨nd, rfl⟩⟩) | (go_at_call 82; (with_reducible refine (spec_l1In.calls a0_2 0 65535 true _ A12.out).mono ?_); rintro e w' ⟨rfl, ⟨nd, rfl⟩⟩) | (go_at_call 82; (with_reducible refine (spec_l1In.calls a0_3 0 65535 true _ A14.out).mono ?_); rintro e w' ⟨rfl, ⟨nd, rfl⟩⟩) | (go_at_call 82; (with_reducible refine (spec_l1In.calls (l0_4.length : Int) 1 8 t187 _ A16.out).mono ?_); rintro e w' ⟨rfl, ⟨nd, rfl⟩⟩))
   go_ret
   exact ⟨er_, hs_ GE181.out⟩

/-! ### spec_l5Batch: function 56 -/
def spec_l5Batch.f (a0_0 : Int) (a0_1 : Int) (a0_2 : Int) (a0_3 : Int) (l0_4 : List ByteArray) (a1_0 : Int) (a1_1 : Int) (a1_2 : Int) (l1_3 : List ByteArray) : Option (Int × Int × Int × Int × List ByteArray) := (some (([] : List ByteArray) : List ByteArray)).bind fun y191 => (if y191.length + l1_3.length < 8796093022208 then (some (a0_0, a1_1, a1_0, a1_2, (y191 ++ l1_3))) else (none))
set_option maxHeartbeats 8000000 in
set_option maxRecDepth 100000 in
theorem spec_l5Batch.calls (a0_0 : Int) (a0_1 : Int) (a0_2 : Int) (a0_3 : Int) (A0_4 : Option Addr) (c0_4 : Nat) (l0_4 : List ByteArray) (a1_0 : Int) (a1_1 : Int) (a1_2 : Int) (A1_3 : Option Addr) (c1_3 : Nat) (l1_3 : List ByteArray) (r1 : Int) (r2 : Int) (r3 : Int) (r4 : Int) (r5 : List ByteArray) (w : World) (hr0_4 : Kd.C Kd.string w A0_4 l0_4.length l0_4) (hc0_4 : l0_4.length ≤ c0_4) (hr1_3 : Kd.C Kd.string w A1_3 l1_3.length l1_3) (hc1_3 : l1_3.length ≤ c1_3) (h : spec_l5Batch.f a0_0 a0_1 a0_2 a0_3 l0_4 a1_0 a1_1 a1_2 l1_3 = some (r1, r2, r3, r4, r5)) :
  Calls Try.prog 56 #[.agg #[.int .i64 a0_0, .int .i64 a0_1, .int .i64 a0_2, .int .i64 a0_3, .slice A0_4 l0_4.length c0_4], .agg #[.int .i64 a1_0, .int .i64 a1_1, .int .i64 a1_2, .slice A1_3 l1_3.length c1_3]] w fun e w' => ∃ v4_ : Value, e = .returned (.agg #[.int .i64 r1, .int .i64 r2, .int .i64 r3, .int .i64 r4, v4_]) ∧ Kd.R Kd.string 9 w' w.heap.size (fun _ => True) v4_ r5 ∧ Below w.heap.size w w' := by
 have hu78 := Try.underlying78
 have hu57 := Try.underlying57
 have HR0_4 := Aside0.mk hr0_4
 have HC0_4 := Aside0.mk hc0_4
 clear hr0_4 hc0_4
 have HR1_3 := Aside0.mk hr1_3
 have HC1_3 := Aside0.mk hc1_3
 clear hr1_3 hc1_3
 have HB := Aside0.mk (Below.refl w.heap.size w)
 have H : ((some (([] : List ByteArray) : List ByteArray)).bind fun y191 => (if y191.length + l1_3.length < 8796093022208 then (some (a0_0, a1_1, a1_0, a1_2, (y191 ++ l1_3))) else (none))) = some (r1, r2, r3, r4, r5) := h
 clear h
 obtain ⟨y191, hy191⟩ : ∃ y_ : List ByteArray, y_ = (([] : List ByteArray)) := ⟨_, rfl⟩
 replace H : (if y191.length + l1_3.length < 8796093022208 then (some (a0_0, a1_1, a1_0, a1_2, (y191 ++ l1_3))) else (none)) = some (r1, r2, r3, r4, r5) := by first | (rw [hy191]; with_reducible exact H) | (have H2_ := (Option.bind_some _ _).symm.trans H; rw [hy191]; with_reducible exact H2_) | (have H2_ := (Option.bind_some _ _).symm.trans H; with_reducible exact H2_) | with_reducible exact H | (rw [hy191]; exact H) | exact H
 have Ny191 := Aside0.mk hy191
 clear hy191
 replace H := ifs_ H
 obtain ⟨c3, H⟩ := H
 have LMc3 := Aside0.mk c3
 clear c3
 obtain ⟨y194, hy194⟩ : ∃ y_ : List ByteArray, y_ = (y191 ++ l1_3) := ⟨_, rfl⟩
 replace H : (some (a0_0, a1_1, a1_0, a1_2, y194)) = some (r1, r2, r3, r4, r5) := by first | (rw [hy194]; with_reducible exact H) | (have H2_ := (Option.bind_some _ _).symm.trans H; rw [hy194]; with_reducible exact H2_) | (have H2_ := (Option.bind_some _ _).symm.trans H; with_reducible exact H2_) | with_reducible exact H | (rw [hy194]; exact H) | exact H
 have Ny194 := Aside0.mk hy194
 clear hy194
 simp only [Option.some.injEq, Prod.mk.injEq] at H
 obtain ⟨rfl, rfl, rfl, rfl, rfl⟩ := H
 go_enter Try.func56, Try.ntmps56
 go_wp2_with (first | ((with_reducible refine gate_dst (N := 2) rfl ?_); refine bq_ (N := 2) #[.int .i64 a0_0, .int .i64 a0_1, .int .i64 a0_2, .int .i64 a0_3, .slice A0_4 l0_4.length c0_4] 78 ?_; intro gb188 hg w4 BK188 hb; have GE188 := ge_ hg; replace HB := nb_ hb; clear hb hg) | ((with_reducible refine gate_dst (N := 3) rfl ?_); refine bq_ (N := 3) #[.int .i64 a1_0, .int .i64 a1_1, .int .i64 a1_2, .slice A1_3 l1_3.length c1_3] 57 ?_; intro gb189 hg w5 BK189 hb; have GE189 := ge1_ hg GE188; replace HB := nc_ GE188 hb; have NB188_189 := nl_ BK188 hg; have NB189_188 := ng_ BK188 hg; replace BK188 := bK_ BK188 hb; clear hb hg) | ((with_reducible refine gate_dst (N := 4) rfl ?_); refine bq_ (N := 4) #[.int .i64 0, .int .i64 0, .int .i64 0, .int .i64 0, .slice none 0 0] 78 ?_; intro gb190 hg w6 BK190 hb; have GE190 := ge2_ hg GE188 GE189; replace HB := nc2_ GE188 GE189 hb; have NB188_190 := nl_ BK188 hg; have NB190_188 := ng_ BK188 hg; replace BK188 := bK_ BK188 hb; have NB189_190 := nl_ BK189 hg; have NB190_189 := ng_ BK189 hg; replace BK189 := bK_ BK189 hb; clear hb hg; have hnb7 := NB189_188.out; have hnc7 := NB188_189.out; have hnb8 := NB189_190.out; have hnc8 := NB190_189.out; obtain ⟨hcz9_0, hcz9_1, hcz9_2, hcz9_3, hfz9_0, hfz9_1, hfz9_2, hfz9_3⟩ := cf4_ BK189.out; have hnb10 := NB188_190.out; have hnc10 := NB190_188.out; obtain ⟨hcz11_0, hcz11_1, hcz11_2, hcz11_3, hcz11_4, hfz11_0, hfz11_1, hfz11_2, hfz11_3, hfz11_4⟩ := cf5_ BK188.out) | ((with_reducible refine gate_dst (N := 14) rfl ?_); refine Kd.R_lit Kd.string _ 9 ?hg (N := 14) ?hd (xs := ([] : List ByteArray)) (inner := []) (ok := fun _ => True) (okp := fun _ => True) ?hr ?hp (fun _ hk => hk) trivial (Below.refl _ _) (Nat.le_refl _) (by simp) ?_; (case hd => rfl); (case hg => rfl); (case hr => first | (go_simp; done) | (go_simp; rfl)); (case hp => exact (Reps.none _ _)); intro v192 w12 ho13 hb hg_ hnew_; clear hg_ hnew_; (first | rw [← Ny191.out] at ho13 | (simp only [Int.reduceToNat] at ho13; rw [← Ny191.out] at ho13)); have HO193 := Aside0.mk (Kd.R_lower ho13 (below_size (hs3_ GE188.out GE189.out GE190.out))); replace BK188 := Aside0.mk (blk_below (g := gb188) (o := .cells #[.int .i64 a0_0, .int .i64 a1_1, .int .i64 a1_0, .int .i64 a1_2, .slice A0_4 l0_4.length c0_4] 78 (0, 0)) (up_ BK188) hb); replace BK189 := Aside0.mk (blk_below (g := gb189) (o := .cells #[.int .i64 a1_0, .int .i64 a1_1, .int .i64 a1_2, .slice A1_3 l1_3.length c1_3] 57 (0, 0)) (uf_ BK189 NB189_188.out) hb); replace BK190 := Aside0.mk (blk_below (g := gb190) (o := .cells #[.int .i64 0, .int .i64 0, .int .i64 0, .int .i64 0, .slice none 0 0] 78 (0, 0)) (uf_ BK190 NB190_188.out) hb); replace HB := nc3_ GE188 GE189 GE190 hb; clear hb ho13; obtain ⟨hcz14_0, hcz14_1, hcz14_2, hcz14_3, hfz14_0, hfz14_1, hfz14_2, hfz14_3⟩ := cf4_ BK189.out) | ((with_reducible refine gate_builtin (b := .append) (xs := #[.tmp 14, .tmp 16]) rfl ?_); at_builtin; refine Kd.R_append_rows Kd.string (w0 := w) w.heap.size rfl (.tmp 14) (.tmp 16) 27 9 (.string ⟨#[]⟩) 16 rfl Try.underlying27 info9 rfl (by decide) (by omega) v192 y191 l1_3 _ _ _ (fun _ => True) (fun _ => False) rfl rfl ?aO ?aR (fun _ _ h => h) (fun _ h => h.elim) ?aF ?aB ?aS ?aL ?_; (case aR => exact cs_ ((Kd.C_below HR1_3.out HB.out))); (case aB => exact (hs3_ GE188.out GE189.out GE190.out)); (case aF => exact (fun _ _ => trivial)); (case aO => exact (kr_ HO193.out)); (case aS => exact (below_size (hs3_ GE188.out GE189.out GE190.out))); (case aL => have := LMc3.out; omega); intro v195 w15 ho hb hg hat; rw [← Ny194.out] at ho; replace BK188 := Aside0.mk (blk_grown (g := gb188) (o := .cells #[.int .i64 a0_0, .int .i64 a1_1, .int .i64 a1_0, .int .i64 a1_2, .slice A0_4 l0_4.length c0_4] 78 (0, 0)) (kb_ BK188.out) hg (Kd.R_ne HO193.out BK188.out (by decide))); replace BK189 := Aside0.mk (blk_grown (g := gb189) (o := .cells #[.int .i64 a1_0, .int .i64 a1_1, .int .i64 a1_2, .slice A1_3 l1_3.length c1_3] 57 (0, 0)) (kb_ BK189.out) hg (Kd.R_ne HO193.out BK189.out (by decide))); replace BK190 := Aside0.mk (blk_grown (g := gb190) (o := .cells #[.int .i64 0, .int .i64 0, .int .i64 0, .int .i64 0, .slice none 0 0] 78 (0, 0)) (kb_ BK190.out) hg (Kd.R_ne HO193.out BK190.out (by decide))); replace HB := Aside0.mk (hb); have HO196 := Aside0.mk (ho); clear HO193; clear ho hb hg hat; obtain ⟨Ao16, co16, eo16⟩ := Kd.R_slice HO196.out; subst eo16; obtain ⟨hcz17_0, hcz17_1, hcz17_2, hcz17_3, hcz17_4, hfz17_0, hfz17_1, hfz17_2, hfz17_3, hfz17_4⟩ := cf5_ BK188.out; obtain ⟨hcz18_0, hcz18_1, hcz18_2, hcz18_3, hcz18_4, hfz18_0, hfz18_1, hfz18_2, hfz18_3, hfz18_4⟩ := cf5_ BK190.out))
 refine bodyPost_ret (results_cell_row rfl _ _ gb190 78 #[.int .i64 a0_0, .int .i64 a1_1, .int .i64 a1_0, .int .i64 a1_2, .slice Ao16 y194.length co16] (0, 0) _ rfl (by (with_reducible repeat (first | refine blk_drewN ?_ _ | refine blk_drew ?_ | refine blk_alloc ?_ _)); refine blk_put (cs := #[.int .i64 a0_0, .int .i64 a1_1, .int .i64 a1_0, .int .i64 a1_2, .slice none 0 0]) ?_ 4 _ rfl; (with_reducible repeat (first | refine blk_drewN ?_ _ | refine blk_drew ?_ | refine blk_alloc ?_ _)); refine blk_put (cs := #[.int .i64 a0_0, .int .i64 a1_1, .int .i64 a1_0, .int .i64 0, .slice none 0 0]) ?_ 3 _ rfl; (with_reducible repeat (first | refine blk_drewN ?_ _ | refine blk_drew ?_ | refine blk_alloc ?_ _)); refine blk_put (cs := #[.int .i64 a0_0, .int .i64 a1_1, .int .i64 0, .int .i64 0, .slice none 0 0]) ?_ 2 _ rfl; (with_reducible repeat (first | refine blk_drewN ?_ _ | refine blk_drew ?_ | refine blk_alloc ?_ _)); refine blk_put (cs := #[.int .i64 a0_0, .int .i64 0, .int .i64 0, .int .i64 0, .slice none 0 0]) ?_ 1 _ rfl; (with_reducible repeat (first | refine blk_drewN ?_ _ | refine blk_drew ?_ | refine blk_alloc ?_ _)); refine blk_put (cs := #[.int .i64 0, .int .i64 0, .int .i64 0, .int .i64 0, .slice none 0 0]) ?_ 0 _ rfl; (with_reducible repeat (first | refine blk_drewN ?_ _ | refine blk_drew ?_ | refine blk_alloc ?_ _)); refine blk_far ?_ NB190_188.out _; (with_reducible repeat (first | refine blk_drewN ?_ _ | refine blk_drew ?_ | refine blk_alloc ?_ _)); exact BK190.out) Try.underlying78 rfl (by kernel_rfl)) rfl ?_
 exact ⟨_, er_, Kd.R_mono (rF_ (Kd.R_far (p := ⟨gb188, 4, none⟩) (Kd.R_types (Kd.R_types HO196.out BK188.out (by decide)) BK190.out (by decide)) (fun _ hk => hk.1.2) (.slice Ao16 y194.length co16))) (fun _ hk => trivial), hs3_ GE188.out GE189.out GE190.out⟩

/-! ### spec_l5At: function 48 -/
def spec_l5At.l0 : Nat → Int → List (S81) → Int → Int → Option (Int)
 | 0, _, _, _, _ => none
 | k + 1, x1, x7, x8, x9 => if x9 < x8 then (if 0 ≤ x9 then (if x9 < (x7.length : Int) then (if ((rd_T81 x7 x9).f0) = x1 then (some x9) else (spec_l5At.l0 k x1 x7 x8 (wrap64 (x9 + 1)))) else (none)) else (none)) else (some (-1))
def spec_l5At.f (k : Nat) (l0 : List (S81)) (a1 : Int) : Option (Int) := spec_l5At.l0 k a1 l0 (l0.length : Int) 0
theorem spec_l5At.mono_l : ∀ k, (∀ y0 y1 y2 y3, LeO (spec_l5At.l0 k y0 y1 y2 y3) (spec_l5At.l0 (k + 1) y0 y1 y2 y3))
 | 0 => fun _ _ _ _ r h => by simp [spec_l5At.l0] at h
 | k + 1 => by
  have ih0 := spec_l5At.mono_l k
  ·intro y0 y1 y2 y3
   unfold spec_l5At.l0
   repeat' first
   | (with_reducible first | apply ih0 | exact LeO.refl _ | exact LeO.none _ | refine LeO.ite ?_ ?_ | refine LeO.bind ?_ (fun _ => ?_))
theorem spec_l5At.mono : ∀ a0 a1 k, LeO (spec_l5At.f k a0 a1) (spec_l5At.f (k + 1) a0 a1) := by
 intro a0 a1 k
 have ih0 := spec_l5At.mono_l k
 unfold spec_l5At.f
 repeat' first
   | (with_reducible first | apply ih0 | exact LeO.refl _ | exact LeO.none _ | refine LeO.ite ?_ ?_ | refine LeO.bind ?_ (fun _ => ?_))
set_option maxHeartbeats 8000000 in
set_option maxRecDepth 100000 in
theorem spec_l5At.calls (k : Nat) (A0 : Option Addr) (c0 : Nat) (l0 : List (S81)) (a1 : Int) (r : Int) (w : World) (hr0 : Kd.C k81 w A0 l0.length l0) (hc0 : l0.length ≤ c0) (h : spec_l5At.f k l0 a1 = some r) :
  Calls Try.prog 48 #[.slice A0 l0.length c0, .int .i64 a1] w fun e w' => e = .returned (.int .i64 r) ∧ Below w.heap.size w w' := by
 have hu81 := Try.underlying81
 have HR0 := Aside0.mk hr0
 have HC0 := Aside0.mk hc0
 clear hr0 hc0
 have HB := Aside0.mk (Below.refl w.heap.size w)
 have H : (spec_l5At.l0 k a1 l0 (l0.length : Int) 0) = some r := h
 clear h
 have H' := Aside0.mk H
 clear H
 go_enter Try.func48, Try.ntmps48
 go_wp2
 go_loopg [9] k (fun kq v9 w' => ∃ (x9_1 : Int), v9 = .int .i64 x9_1 ∧ Aside0 (spec_l5At.l0 kq a1 l0 (l0.length : Int) x9_1 = some r) ∧ Aside0 (kq ≤ k) ∧ Aside0 (Below w.heap.size w w'))
 case atStart => exact ⟨(0), sr_, H', ⟨Nat.le_refl _⟩, ⟨hb_⟩⟩
 case round =>
  clear H'
  obtain ⟨x9_1, rfl, HA, HK1, HB⟩ := hrel
  cases gk with
  | zero => exact absurd HA.out (by simp [spec_l5At.l0])
  | succ k1 =>
   have H := HA.out
   clear HA
   simp only [spec_l5At.l0] at H
   replace H := ite_ H
   obtain ⟨c3, H⟩ | ⟨c3, H⟩ := H
   rotate_left
   ·have c3b0 := decide_eq_false c3
    clear c3
    obtain rfl := Option.some.inj H
    go_wp2
    go_ret
    exact ⟨er_, hb_⟩
   have c3b0 := decide_eq_true c3
   clear c3
   replace H := ifs_ H
   obtain ⟨c4, H⟩ := H
   have c4b0 := decide_eq_true c4
   clear c4
   replace H := ifs_ H
   obtain ⟨c5, H⟩ := H
   have c5b0 := decide_eq_true c5
   clear c5
   replace H := ite_ H
   obtain ⟨c6, H⟩ | ⟨c6, H⟩ := H
   ·have c6b0 : (((rd_T81 l0 x9_1).f0) == a1) = true := beq_iff_eq.mpr c6
    have c6b1 : (((rd_T81 l0 x9_1).f0) != a1) = false := bne_eq_false_iff_eq.mpr c6
    clear c6
    obtain rfl := Option.some.inj H
    have p197 : 0 ≤ (x9_1 : Int) := oa_
    have q197 : x9_1 < (l0.length : Int) := oa_
    obtain ⟨ad197, A197_3, c197_3, e197, hx197_0, hx197_1, hx197_2, hx197_3, hl197_3, hi197_3⟩ := at_T81 HR0.out x9_1 p197 q197
    cases e197
    replace hx197_0 := pc_ HB.out hx197_0
    replace hx197_1 := pc_ HB.out hx197_1
    replace hx197_2 := pc_ HB.out hx197_2
    replace hx197_3 := pc_ HB.out hx197_3
    have HR197_3 := Aside0.mk hi197_3
    have HC197_3 := Aside0.mk hl197_3
    clear hi197_3 hl197_3
    replace p197 := eq_true p197
    replace q197 := eq_true q197
    go_wp2_with (first | ((with_reducible refine gate_dst (N := 6) rfl ?_); refine bq_ (N := 6) #[.int .i64 0, .int .i64 0, .int .i64 0, .slice none 0 0] 81 ?_; intro gb198 hg w7 BK198 hb; have GE198 := ge_ hg; replace HB := nb_ hb; clear hb hg; obtain ⟨hcz8_0, hcz8_1, hcz8_2, hcz8_3, hfz8_0, hfz8_1, hfz8_2, hfz8_3⟩ := cf4_ BK198.out))
    go_ret
    exact ⟨er_, hs_ GE198.out⟩
   have c6b0 : (((rd_T81 l0 x9_1).f0) == a1) = false := beq_eq_false_iff_ne.mpr c6
   have c6b1 : (((rd_T81 l0 x9_1).f0) != a1) = true := bne_iff_ne.mpr c6
   have H' := Aside0.mk H
   clear H
   have p197 : 0 ≤ (x9_1 : Int) := oa_
   have q197 : x9_1 < (l0.length : Int) := oa_
   obtain ⟨ad197, A197_3, c197_3, e197, hx197_0, hx197_1, hx197_2, hx197_3, hl197_3, hi197_3⟩ := at_T81 HR0.out x9_1 p197 q197
   cases e197
   replace hx197_0 := pc_ HB.out hx197_0
   replace hx197_1 := pc_ HB.out hx197_1
   replace hx197_2 := pc_ HB.out hx197_2
   replace hx197_3 := pc_ HB.out hx197_3
   have HR197_3 := Aside0.mk hi197_3
   have HC197_3 := Aside0.mk hl197_3
   clear hi197_3 hl197_3
   replace p197 := eq_true p197
   replace q197 := eq_true q197
   go_wp2_with (first | ((with_reducible refine gate_dst (N := 6) rfl ?_); refine bq_ (N := 6) #[.int .i64 0, .int .i64 0, .int .i64 0, .slice none 0 0] 81 ?_; intro gb198 hg w9 BK198 hb; have GE198 := ge_ hg; replace HB := nb_ hb; clear hb hg; obtain ⟨hcz10_0, hcz10_1, hcz10_2, hcz10_3, hfz10_0, hfz10_1, hfz10_2, hfz10_3⟩ := cf4_ BK198.out))
   go_roundg k1
   case measure => have := HK1.out; omega
   case rel => exact ⟨(wrap64 (x9_1 + 1)), sr_, H', ⟨by have := HK1.out; omega⟩, ⟨hs_ GE198.out⟩⟩

end Go.Proofs.Ytojdaolclcmalaa.QFnExactRebuildFrom
