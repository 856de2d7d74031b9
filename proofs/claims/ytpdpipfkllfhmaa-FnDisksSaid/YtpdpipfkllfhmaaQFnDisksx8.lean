/- Functions that one statement reaches: of each a plain function, and the proof that calls come to it. Conditions: those that each contract names. Written by a program of this repository. -/
import Derived.Test.YtpdpipfkllfhmaaVFnDisksa
import Derived.Test.YtpdpipfkllfhmaaQFnDisksx3
import Derived.Test.YtpdpipfkllfhmaaQFnDisksx6
namespace Go.Proofs.Ytpdpipfkllfhmaa.QFnDisks
open Go.RowKit Go.Proofs.YtpdpipfkllfhmaaW.PrintWords Go.Proofs.YtpdpipfkllfhmaaW.PrintLast Go.Proofs.YtpdpipfkllfhmaaW.PrintMore
attribute [local go_sem] max2_int min2_int max_two min_two max_three min_three max_four min_four Go.Proofs.YtpdpipfkllfhmaaW.PrintMore2.isSome_setCell   -- for this text's walks alone
set_option linter.unusedVariables false
set_option linter.unusedSimpArgs false

/-! ### spec_GoodBatch: function 59 -/
def spec_GoodBatch.l0 : Nat → List ByteArray → Int → Int → Int → Int → Int → Int → List ByteArray → Option (Bool)
 | 0, _, _, _, _, _, _, _, _ => none
 | k + 1, x6, x7, x8, x198000, x198001, x198002, x198003, x198004 => if x8 < x7 then (if 0 ≤ x8 then (if x8 < (x6.length : Int) then (if ((rdOf ByteArray.empty x6 x8).size : Int) > 20 then (some false) else (spec_GoodBatch.l0 k x6 x7 (wrap64 (x8 + 1)) x198000 x198001 x198002 x198003 x198004)) else (none)) else (none)) else ((spec_l1In.f x198000 0 100000).bind fun t199 => (if t199 = true then ((spec_l1In.f x198001 0 1000).bind fun t200 => (if t200 = true then ((spec_l1In.f x198002 0 65535).bind fun t201 => (if t201 = true then ((spec_l1In.f x198003 0 65535).bind fun t202 => (if t202 = true then ((spec_l1In.f (x198004.length : Int) 1 8).bind fun t203 => (some t203)) else (some false))) else (some false))) else (some false))) else (some false)))
def spec_GoodBatch.f (k : Nat) (a0_0 : Int) (a0_1 : Int) (a0_2 : Int) (a0_3 : Int) (l0_4 : List ByteArray) : Option (Bool) := spec_GoodBatch.l0 k l0_4 (l0_4.length : Int) 0 a0_0 a0_1 a0_2 a0_3 l0_4
theorem spec_GoodBatch.mono_l : ∀ k, (∀ y0 y1 y2 y3 y4 y5 y6 y7, LeO (spec_GoodBatch.l0 k y0 y1 y2 y3 y4 y5 y6 y7) (spec_GoodBatch.l0 (k + 1) y0 y1 y2 y3 y4 y5 y6 y7))
 | 0 => fun _ _ _ _ _ _ _ _ r h => by simp [spec_GoodBatch.l0] at h
 | k + 1 => by
  have ih0 := spec_GoodBatch.mono_l k
  ·intro y0 y1 y2 y3 y4 y5 y6 y7
   unfold spec_GoodBatch.l0
   repeat' first
   | (with_reducible first | apply ih0 | exact LeO.refl _ | exact LeO.none _ | refine LeO.ite ?_ ?_ | refine LeO.bind ?_ (fun _ => ?_))
theorem spec_GoodBatch.mono : ∀ a0 a1 a2 a3 a4 k, LeO (spec_GoodBatch.f k a0 a1 a2 a3 a4) (spec_GoodBatch.f (k + 1) a0 a1 a2 a3 a4) := by
 intro a0 a1 a2 a3 a4 k
 have ih0 := spec_GoodBatch.mono_l k
 unfold spec_GoodBatch.f
 repeat' first
   | (with_reducible first | apply ih0 | exact LeO.refl _ | exact LeO.none _ | refine LeO.ite ?_ ?_ | refine LeO.bind ?_ (fun _ => ?_))
set_option maxHeartbeats 8000000 in
set_option maxRecDepth 100000 in
theorem spec_GoodBatch.calls (k : Nat) (a0_0 : Int) (a0_1 : Int) (a0_2 : Int) (a0_3 : Int) (A0_4 : Option Addr) (c0_4 : Nat) (l0_4 : List ByteArray) (r : Bool) (w : World) (hr0_4 : Kd.C Kd.string w A0_4 l0_4.length l0_4) (hc0_4 : l0_4.length ≤ c0_4) (h : spec_GoodBatch.f k a0_0 a0_1 a0_2 a0_3 l0_4 = some r) :
  Calls Try.prog 59 #[.agg #[.int .i64 a0_0, .int .i64 a0_1, .int .i64 a0_2, .int .i64 a0_3, .slice A0_4 l0_4.length c0_4]] w fun e w' => e = .returned (.bool r) ∧ Below w.heap.size w w' := by
 have hu44 := Try.underlying44
 have gA := Aside0.mk hr0_4
 have yC := Aside0.mk hc0_4
 clear hr0_4 hc0_4
 have HB := Aside0.mk (Below.refl w.heap.size w)
 have H : (spec_GoodBatch.l0 k l0_4 (l0_4.length : Int) 0 a0_0 a0_1 a0_2 a0_3 l0_4) = some r := h
 clear h
 have H' := Aside0.mk H
 clear H
 go_enter Try.func59, Try.ntmps59
 go_wp2_with (first | ((with_reducible refine gate_dst (N := 1) rfl ?_); (try (refine gate_guard (by rfl) ?_; dsimp only)); refine bq_ (N := 1) #[.int .i64 a0_0, .int .i64 a0_1, .int .i64 a0_2, .int .i64 a0_3, .slice A0_4 l0_4.length c0_4] 44 ?_; intro sA hg w2 aA hb; have cA := ge_ hg; replace HB := nb_ hb; clear hb hg; obtain ⟨hA, iA, jA, kA, lA, mA, nA, oA, pA, qA⟩ := cf5_ aA.out))
 go_loopg [8] k (fun kq v8 w' => ∃ (dA : Int), v8 = .int .i64 dA ∧ Aside0 (spec_GoodBatch.l0 kq l0_4 (l0_4.length : Int) dA a0_0 a0_1 a0_2 a0_3 l0_4 = some r) ∧ Aside0 (kq ≤ k) ∧ Aside0 (w'.heap[sA]? = some (.cells #[.int .i64 a0_0, .int .i64 a0_1, .int .i64 a0_2, .int .i64 a0_3, (.slice A0_4 l0_4.length c0_4)] 44 (0, 0))) ∧ Aside0 (Below w.heap.size w w'))
 case atStart => exact ⟨(0), sr_, H', ⟨Nat.le_refl _⟩, ⟨kb_ aA.out⟩, ⟨hs_ cA.out⟩⟩
 case round =>
  clear H'
  try clear hA
  try clear iA
  try clear jA
  try clear kA
  try clear lA
  try clear mA
  try clear nA
  try clear oA
  try clear pA
  try clear qA
  obtain ⟨dA, rfl, HA, zC, aA, HB⟩ := hrel
  cases gk with
  | zero => exact absurd HA.out (by simp [spec_GoodBatch.l0])
  | succ k1 =>
   have H := HA.out
   clear HA
   simp only [spec_GoodBatch.l0] at H
   replace H := ite_ H
   obtain ⟨c4, H⟩ | ⟨c4, H⟩ := H
   ·have tC := decide_eq_true c4
    clear c4
    replace H := ifs_ H
    obtain ⟨c5, H⟩ := H
    have bD := decide_eq_true c5
    clear c5
    replace H := ifs_ H
    obtain ⟨c6, H⟩ := H
    have cD := decide_eq_true c6
    clear c6
    replace H := ite_ H
    obtain ⟨c7, H⟩ | ⟨c7, H⟩ := H
    ·have uC := dgt_ c7
     have vC : decide (20 < (rdOf ByteArray.empty l0_4 dA).size) = true := decide_eq_true (by omega)
     clear c7
     obtain rfl := Option.some.inj H
     have eA : 0 ≤ (dA : Int) := oa_
     have fA : dA < (l0_4.length : Int) := oa_
     obtain ⟨tA, rA, bA⟩ := Kd.at_string gA.out dA eA fA
     cases rA
     replace bA := pc_ HB.out bA
     replace eA := eq_true eA
     replace fA := eq_true fA
     go_wp2
     go_ret
     exact ⟨er_, hs_ cA.out⟩
    have uC := dgf_ c7
    have vC : decide (20 < (rdOf ByteArray.empty l0_4 dA).size) = false := decide_eq_false (by omega)
    clear c7
    have H' := Aside0.mk H
    clear H
    have eA : 0 ≤ (dA : Int) := oa_
    have fA : dA < (l0_4.length : Int) := oa_
    obtain ⟨tA, rA, bA⟩ := Kd.at_string gA.out dA eA fA
    cases rA
    replace bA := pc_ HB.out bA
    replace eA := eq_true eA
    replace fA := eq_true fA
    go_wp2
    go_roundg k1
    case measure => have := zC.out; omega
    case rel => exact ⟨(wrap64 (dA + 1)), sr_, H', ⟨by have := zC.out; omega⟩, ⟨kb_ aA.out⟩, ⟨hs_ cA.out⟩⟩
   have tC := decide_eq_false c4
   clear c4
   replace H := bnd_ H
   obtain ⟨dD, A8, H⟩ := H
   replace H := ifb_ H
   obtain ⟨rfl, H⟩ | ⟨rfl, H⟩ := H
   rotate_left
   ·obtain rfl := Option.some.inj H
    obtain ⟨uA, vA, wA, xA, yA, zA, aB, bB, cB, dB⟩ := cf5_ aA.out
    go_wp2_with (first | ((with_reducible refine gate_callee (f := 78) rfl ?_); refine gl_ 18 Try.func78 #[.int .i64 a0_0, .int .i64 0, .int .i64 100000] rfl ma_ ?_; (with_reducible refine (spec_l1In.calls a0_0 0 100000 false _ A8.out).mono ?_); rintro e w' ⟨rfl, ⟨nd, rfl⟩⟩; refine ⟨_, rfl, ?_⟩))
    go_ret
    exact ⟨er_, hs_ cA.out⟩
   replace H := bnd_ H
   obtain ⟨eD, eB, H⟩ := H
   replace H := ifb_ H
   obtain ⟨rfl, H⟩ | ⟨rfl, H⟩ := H
   rotate_left
   ·obtain rfl := Option.some.inj H
    obtain ⟨fB, gB, hB, iB, jB, kB, lB, mB, nB, oB⟩ := cf5_ aA.out
    go_wp2_with (first | ((with_reducible refine gate_callee (f := 78) rfl ?_); refine gl_ 18 Try.func78 #[.int .i64 a0_0, .int .i64 0, .int .i64 100000] rfl ma_ ?_; (with_reducible refine (spec_l1In.calls a0_0 0 100000 true _ A8.out).mono ?_); rintro e w' ⟨rfl, ⟨nd, rfl⟩⟩; refine ⟨_, rfl, ?_⟩) | (go_at_call 78; (with_reducible refine (spec_l1In.calls a0_1 0 1000 false _ eB.out).mono ?_); rintro e w' ⟨rfl, ⟨nd, rfl⟩⟩))
    go_ret
    exact ⟨er_, hs_ cA.out⟩
   replace H := bnd_ H
   obtain ⟨fD, wC, H⟩ := H
   replace H := ifb_ H
   obtain ⟨rfl, H⟩ | ⟨rfl, H⟩ := H
   rotate_left
   ·obtain rfl := Option.some.inj H
    obtain ⟨pB, qB, rB, sB, tB, uB, vB, wB, xB, yB⟩ := cf5_ aA.out
    go_wp2_with (first | ((with_reducible refine gate_callee (f := 78) rfl ?_); refine gl_ 18 Try.func78 #[.int .i64 a0_0, .int .i64 0, .int .i64 100000] rfl ma_ ?_; (with_reducible refine (spec_l1In.calls a0_0 0 100000 true _ A8.out).mono ?_); rintro e w' ⟨rfl, ⟨nd, rfl⟩⟩; refine ⟨_, rfl, ?_⟩) | (go_at_call 78; (with_reducible refine (spec_l1In.calls a0_1 0 1000 true _ eB.out).mono ?_); rintro e w' ⟨rfl, ⟨nd, rfl⟩⟩) | (go_at_call 78; (with_reducible refine (spec_l1In.calls a0_2 0 65535 false _ wC.out).mono ?_); rintro e w' ⟨rfl, ⟨nd, rfl⟩⟩))
    go_ret
    exact ⟨er_, hs_ cA.out⟩
   replace H := bnd_ H
   obtain ⟨gD, aD, H⟩ := H
   replace H := ifb_ H
   obtain ⟨rfl, H⟩ | ⟨rfl, H⟩ := H
   rotate_left
   ·obtain rfl := Option.some.inj H
    obtain ⟨zB, aC, bC, cC, dC, eC, fC, gC, hC, iC⟩ := cf5_ aA.out
    go_wp2_with (first | ((with_reducible refine gate_callee (f := 78) rfl ?_); refine gl_ 18 Try.func78 #[.int .i64 a0_0, .int .i64 0, .int .i64 100000] rfl ma_ ?_; (with_reducible refine (spec_l1In.calls a0_0 0 100000 true _ A8.out).mono ?_); rintro e w' ⟨rfl, ⟨nd, rfl⟩⟩; refine ⟨_, rfl, ?_⟩) | (go_at_call 78; (with_reducible refine (spec_l1In.calls a0_1 0 1000 true _ eB.out).mono ?_); rintro e w' ⟨rfl, ⟨nd, rfl⟩⟩) | (go_at_call 78; (with_reducible refine (spec_l1In.calls a0_2 0 65535 true _ wC.out).mono ?_); rintro e w' ⟨rfl, ⟨nd, rfl⟩⟩) | (go_at_call 78; (with_reducible refine (spec_l1In.calls a0_3 0 65535 false _ aD.out).mono ?_); rintro e w' ⟨rfl, ⟨nd, rfl⟩⟩))
    go_ret
    exact ⟨er_, hs_ cA.out⟩
   replace H := bnd_ H
   obtain ⟨xC, hD, H⟩ := H
   obtain rfl := Option.some.inj H
   obtain ⟨jC, kC, lC, mC, nC, oC, pC, qC, rC, sC⟩ := cf5_ aA.out
   go_wp2_with (first | ((with_reducible refine gate_callee (f := 78) rfl ?_); refine gl_ 18 Try.func78 #[.int .i64 a0_0, .int .i64 0, .int .i64 100000] rfl ma_ ?_; (with_reducible refine (spec_l1In.calls a0_0 0 100000 true _ A8.out).mono ?_); rintro e w' ⟨rfl, ⟨nd, rfl⟩⟩; refine ⟨_, rfl, ?_⟩) | (go_at_call 78; (with_reducible refine (spec_l1In.calls a0_1 0 1000 true _ eB.out).mono ?_); rintro e w' ⟨rfl, ⟨nd, rfl⟩⟩) | (go_at_call 78; (with_reducible refine (spec_l1In.calls a0_2 0 65535 true _ wC.out).mono ?_); rintro e w' ⟨rfl, ⟨nd, rfl⟩⟩) | (go_at_call 78; (with_reducible refine (spec_l1In.calls a0_3 0 65535 true _ aD.out).mono ?_); rintro e w' ⟨rfl, ⟨nd, rfl⟩⟩) | (go_at_call 78; (with_reducible refine (spec_l1In.calls (l0_4.length : Int) 1 8 xC _ hD.out).mono ?_); rintro e w' ⟨rfl, ⟨nd, rfl⟩⟩))
   go_ret
   exact ⟨er_, hs_ cA.out⟩

/-! ### spec_l1Bytes: function 86 -/
def spec_l1Bytes.l0 : Nat → Int → List Int → Int → Option (ByteArray)
 | 0, _, _, _ => none
 | k + 1, x0, x5, x6 => if x6 ≥ 0 then (if 0 ≤ x6 then (if x6 < (x5.length : Int) then (spec_l1Bytes.l0 k (x0 / 256) (x5.set (x6 : Int).toNat ((x0) % 256)) (wrap64 (x6 - 1))) else (none)) else (none)) else (some (strOfNums x5))
def spec_l1Bytes.f (k : Nat) (a0 : Int) (a1 : Int) : Option (ByteArray) := if 0 ≤ a1 then (if (a1 : Int).toNat ≤ 281474976710656 then (spec_l1Bytes.l0 k a0 (List.replicate (a1 : Int).toNat 0) (wrap64 (a1 - 1))) else (none)) else (none)
theorem spec_l1Bytes.mono_l : ∀ k, (∀ y0 y1 y2, LeO (spec_l1Bytes.l0 k y0 y1 y2) (spec_l1Bytes.l0 (k + 1) y0 y1 y2))
 | 0 => fun _ _ _ r h => by simp [spec_l1Bytes.l0] at h
 | k + 1 => by
  have ih0 := spec_l1Bytes.mono_l k
  ·intro y0 y1 y2
   unfold spec_l1Bytes.l0
   repeat' first
   | (with_reducible first | apply ih0 | exact LeO.refl _ | exact LeO.none _ | refine LeO.ite ?_ ?_ | refine LeO.bind ?_ (fun _ => ?_))
theorem spec_l1Bytes.mono : ∀ a0 a1 k, LeO (spec_l1Bytes.f k a0 a1) (spec_l1Bytes.f (k + 1) a0 a1) := by
 intro a0 a1 k
 have ih0 := spec_l1Bytes.mono_l k
 unfold spec_l1Bytes.f
 repeat' first
   | (with_reducible first | apply ih0 | exact LeO.refl _ | exact LeO.none _ | refine LeO.ite ?_ ?_ | refine LeO.bind ?_ (fun _ => ?_))
set_option maxHeartbeats 8000000 in
set_option maxRecDepth 100000 in
theorem spec_l1Bytes.calls (k : Nat) (a0 : Int) (a1 : Int) (r : ByteArray) (w : World) (h : spec_l1Bytes.f k a0 a1 = some r) :
  Calls Try.prog 86 #[.int .i64 a0, .int .i64 a1] w fun e w' => e = .returned (.string r) ∧ Below w.heap.size w w' := by
 have HB := Aside0.mk (Below.refl w.heap.size w)
 have H : (if 0 ≤ a1 then (if (a1 : Int).toNat ≤ 281474976710656 then (spec_l1Bytes.l0 k a0 (List.replicate (a1 : Int).toNat 0) (wrap64 (a1 - 1))) else (none)) else (none)) = some r := h
 clear h
 replace H := ifs_ H
 obtain ⟨c3, H⟩ := H
 have qA := eq_true c3
 have rA := decide_eq_true c3
 clear c3
 replace H := ifs_ H
 obtain ⟨c4, H⟩ := H
 have sA := eq_true c4
 have tA := decide_eq_true c4
 clear c4
 obtain ⟨jA, bA⟩ : ∃ y_ : List Int, y_ = (List.replicate (a1 : Int).toNat 0) := ⟨_, rfl⟩
 replace H : (spec_l1Bytes.l0 k a0 jA (wrap64 (a1 - 1))) = some r := by first | (rw [bA]; with_reducible exact H) | (have H2_ := (Option.bind_some _ _).symm.trans H; rw [bA]; with_reducible exact H2_) | (have H2_ := (Option.bind_some _ _).symm.trans H; with_reducible exact H2_) | with_reducible exact H | (rw [bA]; exact H) | exact H
 have gA := Aside0.mk bA
 clear bA
 have H' := Aside0.mk H
 clear H
 go_enter Try.func86, Try.ntmps86
 go_wp2_with (first | ((with_reducible refine gate_dst (N := 8) rfl ?_); refine Kd.R_make (Kd.int .u8) _ 5 rfl (N := 8) rfl 51 _ _ rfl a1 rfl rfl Try.underlying51 (.int .u8 0) 1 info5 rfl (by decide) (by omega) 0 (ok := fun _ => True) (okp := fun _ => True) rfl (fun _ hk => hk) trivial (oa_) (Nat.le_trans (Nat.mul_le_mul_right _ (oa_ : a1.toNat ≤ 281474976710656)) (by omega)) (Below.refl _ _) (Nat.le_refl _) ?_; intro uA w5 kA hb hg_ hnew_; clear hg_ hnew_; (first | rw [← gA.out] at kA | (simp only [Int.reduceToNat] at kA; rw [← gA.out] at kA)); have lA := Aside0.mk (Kd.R_lower kA (below_size (hb_))); replace HB := nb_ hb; clear hb kA))
 go_loopg [0, 6] k (fun kq v0 v6 w' => ∃ (cA : Int) (eA : List Int) (aA : Int), v0 = .int .i64 cA ∧ v6 = .int .i64 aA ∧ Aside0 (spec_l1Bytes.l0 kq cA eA aA = some r) ∧ Aside0 (kq ≤ k) ∧ Aside0 (Kd.R (Kd.int .u8) 5 w' w.heap.size (fun _ => True) uA eA) ∧ Aside0 (Below w.heap.size w w'))
 case atStart => exact ⟨(a0), (jA), (wrap64 (a1 - 1)), sr_, sr_, H', ⟨Nat.le_refl _⟩, ⟨kr_ lA.out⟩, ⟨hb_⟩⟩
 case round =>
  clear H'
  try clear c3
  try clear qA
  try clear rA
  try clear c4
  try clear sA
  try clear tA
  obtain ⟨cA, eA, aA, rfl, rfl, HA, bB, fA, HB⟩ := hrel
  cases gk with
  | zero => exact absurd HA.out (by simp [spec_l1Bytes.l0])
  | succ k1 =>
   have H := HA.out
   clear HA
   simp only [spec_l1Bytes.l0] at H
   replace H := ite_ H
   obtain ⟨c7, H⟩ | ⟨c7, H⟩ := H
   rotate_left
   ·have vA := dne_ c7
    clear c7
    obtain rfl := Option.some.inj H
    have hcv13 := own_string (P := Try.prog) Try.underlying51 Try.underlying5 Try.underlying9 (Kd.own_of_R fA.out)
    go_wp2
    go_ret
    exact ⟨er_, hb_⟩
   have vA := dge_ c7
   clear c7
   replace H := ifs_ H
   obtain ⟨c8, H⟩ := H
   have cB := decide_eq_true c8
   clear c8
   replace H := ifs_ H
   obtain ⟨c9, H⟩ := H
   have dB := decide_eq_true c9
   clear c9
   obtain ⟨hA, dA⟩ : ∃ y_ : List Int, y_ = (eA.set (aA : Int).toNat ((cA) % 256)) := ⟨_, rfl⟩
   replace H : (spec_l1Bytes.l0 k1 (cA / 256) hA (wrap64 (aA - 1))) = some r := by first | (rw [dA]; with_reducible exact H) | (have H2_ := (Option.bind_some _ _).symm.trans H; rw [dA]; with_reducible exact H2_) | (have H2_ := (Option.bind_some _ _).symm.trans H; with_reducible exact H2_) | with_reducible exact H | (rw [dA]; exact H) | exact H
   have mA := Aside0.mk dA
   clear dA
   have H' := Aside0.mk H
   clear H
   have wA : 0 ≤ (aA : Int) := oa_
   have xA : (aA : Int) < ((eA.length : Int) : Int) := oa_
   obtain ⟨go10, yA, nA, oA, gl10, cl10, pA⟩ := Kd.R_form fA.out (by omega)
   (first | cases nA | (injection nA with ea_ en_ ec_; (first | subst ea_ | (injection ea_ with ea_; subst ea_)); subst ec_; clear en_))
   have GB10 := Aside0.mk oA
   have GG10 := Aside0.mk pA
   clear oA gl10 pA
   obtain ⟨zA, hf10_0⟩ := Kd.R_celln 0 fA.out (aA : Int) wA xA
   replace wA := eq_true wA
   replace xA := eq_true xA
   have iA := Kd.R_putg fA.out (aA : Int) ((cA) % 256)
   go_wp2_with (first | ((with_reducible refine gate_store (t := 5) (p := 19) rfl ?_); refine store_event (t := 5) (p := 19) (v := ?vo_w12) (w1 := (wr.setCell ⟨go10, (aA : Int).toNat, none⟩ (.int .u8 ((cA) % 256)))) ?hg ?ho ?hn ?hr ?_; (case ho => rfl); (case hg => rfl); (case hn => rfl); (case hr => first | (go_simp; done) | (go_simp; rfl)); intro aB hw; have hg : wr.grownBy aB (some go10) := (by rw [hw]; exact iA.2); have hp_ : Kd.R (Kd.int .u8) 5 aB w.heap.size (fun _ => True) (.slice (some ⟨go10, 0, none⟩) eA.length yA) hA := (by rw [hw, mA.out]; exact iA.1); clear iA; replace fA := Aside0.mk (hp_); replace HB := Aside0.mk ((by rw [hw]; exact below_set (HB.out) GB10.out : Below w.heap.size w aB)); clear hg hw hp_))
   go_roundg k1
   case measure => have := bB.out; omega
   case rel => exact ⟨(cA / 256), (hA), (wrap64 (aA - 1)), sr_, sr_, H', ⟨by have := bB.out; omega⟩, ⟨kr_ fA.out⟩, ⟨hb_⟩⟩

/-! ### spec_l1Sum: function 87 -/
mutual
def spec_l1Sum.l0 : Nat → ByteArray → Int → Int → Option (Int)
 | 0, _, _, _ => none
 | k + 1, x0, x3, x4 => if x4 < (x0.size : Int) then (if 0 ≤ x4 then (spec_l1Sum.l1 k x0 (Go.bits .xor .i64 x3 (wrap64 ((wrap64 (bt x0 x4)) * 256))) x4 0) else (none)) else (some x3)
def spec_l1Sum.l1 : Nat → ByteArray → Int → Int → Int → Option (Int)
 | 0, _, _, _, _ => none
 | k + 1, x0, x3, x4, x5 => if x5 < 8 then (if (wrap64 (x3 * 2)) > 65535 then (spec_l1Sum.l1 k x0 (Go.bits .xor .i64 (Go.bits .and .i64 (wrap64 (x3 * 2)) 65535) 4129) x4 (wrap64 (x5 + 1))) else (spec_l1Sum.l1 k x0 (wrap64 (x3 * 2)) x4 (wrap64 (x5 + 1)))) else (spec_l1Sum.l0 k x0 x3 (wrap64 (x4 + 1)))
end
def spec_l1Sum.f (k : Nat) (a0 : ByteArray) : Option (Int) := spec_l1Sum.l0 k a0 65535 0
theorem spec_l1Sum.mono_l : ∀ k, (∀ y0 y1 y2, LeO (spec_l1Sum.l0 k y0 y1 y2) (spec_l1Sum.l0 (k + 1) y0 y1 y2)) ∧ (∀ y0 y1 y2 y3, LeO (spec_l1Sum.l1 k y0 y1 y2 y3) (spec_l1Sum.l1 (k + 1) y0 y1 y2 y3))
 | 0 => ⟨fun _ _ _ r h => by simp [spec_l1Sum.l0] at h, fun _ _ _ _ r h => by simp [spec_l1Sum.l1] at h⟩
 | k + 1 => by
  obtain ⟨ih0, ih1⟩ := spec_l1Sum.mono_l k
  refine ⟨?_, ?_⟩
  all_goals intros; first | unfold spec_l1Sum.l0 | unfold spec_l1Sum.l1
  all_goals repeat' first | (with_reducible first | apply ih0 | apply ih1 | exact LeO.refl _ | exact LeO.none _ | refine LeO.ite ?_ ?_ | refine LeO.bind ?_ (fun _ => ?_))
theorem spec_l1Sum.mono : ∀ a0 k, LeO (spec_l1Sum.f k a0) (spec_l1Sum.f (k + 1) a0) := by
 intro a0 k
 obtain ⟨ih0, ih1⟩ := spec_l1Sum.mono_l k
 unfold spec_l1Sum.f
 repeat' first
   | (with_reducible first | apply ih0 | apply ih1 | exact LeO.refl _ | exact LeO.none _ | refine LeO.ite ?_ ?_ | refine LeO.bind ?_ (fun _ => ?_))
set_option maxHeartbeats 8000000 in
set_option maxRecDepth 100000 in
theorem spec_l1Sum.calls (k : Nat) (a0 : ByteArray) (r : Int) (w : World) (h : spec_l1Sum.f k a0 = some r) :
  Calls Try.prog 87 #[.string a0] w fun e w' => e = .returned (.int .i64 r) ∧ Drawn0 w w' := by
 have H : (spec_l1Sum.l0 k a0 65535 0) = some r := h
 clear h
 have H' := Aside0.mk H
 clear H
 go_enter Try.func87, Try.ntmps87
 go_wp2
 go_loopg [3, 4] k (fun kq v3 v4 w' => ∃ (dA : Int) (aA : Int), v3 = .int .i64 dA ∧ v4 = .int .i64 aA ∧ Aside0 (spec_l1Sum.l0 kq a0 dA aA = some r) ∧ Aside0 (kq ≤ k) ∧ Drawn0 w w')
 case atStart => exact ⟨(65535), (0), sr_, sr_, H', ⟨Nat.le_refl _⟩, dr_⟩
 case round =>
  clear H'
  obtain ⟨dA, aA, rfl, rfl, HA, eA, ⟨m1, rfl⟩⟩ := hrel
  cases gk with
  | zero => exact absurd HA.out (by simp [spec_l1Sum.l0])
  | succ k1 =>
   have H := HA.out
   clear HA
   simp only [spec_l1Sum.l0] at H
   replace H := ite_ H
   obtain ⟨c2, H⟩ | ⟨c2, H⟩ := H
   rotate_left
   ·have gA := decide_eq_false c2
    clear c2
    obtain rfl := Option.some.inj H
    go_wp2
    go_ret
    exact ⟨by first | rfl | (simp; done) | (simp [*]; done), dr_⟩
   have gA := decide_eq_true c2
   clear c2
   replace H := ifs_ H
   obtain ⟨c3, H⟩ := H
   have hA := decide_eq_true c3
   clear c3
   have H' := Aside0.mk H
   clear H
   have p4 : 0 ≤ (aA : Int) := oa_
   have q4 : aA < (a0.size : Int) := oa_
   have kA := bt_at a0 aA
   replace p4 := eq_true p4
   replace q4 := eq_true q4
   go_wp2
   go_loopg [3, 5] k1 (fun kq v3 v5 w' => ∃ (bA : Int) (cA : Int), v3 = .int .i64 bA ∧ v5 = .int .i64 cA ∧ Aside0 (spec_l1Sum.l1 kq a0 bA aA cA = some r) ∧ Aside0 (kq ≤ k1) ∧ Drawn0 w w')
   case atStart => exact ⟨(Go.bits .xor .i64 dA (wrap64 ((wrap64 (bt a0 aA)) * 256))), (0), sr_, sr_, H', ⟨Nat.le_refl _⟩, dr_⟩
   case round =>
    clear H'
    try clear c2
    try clear gA
    try clear c3
    try clear hA
    try clear p4
    try clear q4
    try clear kA
    try clear p4
    try clear q4
    obtain ⟨bA, cA, rfl, rfl, HA, fA, ⟨m2, rfl⟩⟩ := hrel
    cases gk with
    | zero => exact absurd HA.out (by simp [spec_l1Sum.l1])
    | succ k2 =>
     have H := HA.out
     clear HA
     simp only [spec_l1Sum.l1] at H
     replace H := ite_ H
     obtain ⟨c5, H⟩ | ⟨c5, H⟩ := H
     rotate_left
     ·have iA := decide_eq_false c5
      clear c5
      have H' := Aside0.mk H
      clear H
      go_wp2
      go_roundg k2
      case measure => have := eA.out; have := fA.out; omega
      case rel => exact ⟨(bA), (wrap64 (aA + 1)), sr_, sr_, H', ⟨by have := eA.out; have := fA.out; omega⟩, dr_⟩
     have iA := decide_eq_true c5
     clear c5
     replace H := ite_ H
     obtain ⟨c6, H⟩ | ⟨c6, H⟩ := H
     rotate_left
     ·have jA := dgf_ c6
      clear c6
      have H' := Aside0.mk H
      clear H
      go_wp2
      go_roundg k2
      case measure => have := eA.out; have := fA.out; omega
      case rel => exact ⟨(wrap64 (bA * 2)), (wrap64 (cA + 1)), sr_, sr_, H', ⟨by have := eA.out; have := fA.out; omega⟩, dr_⟩
     have jA := dgt_ c6
     clear c6
     have H' := Aside0.mk H
     clear H
     go_wp2
     go_roundg k2
     case measure => have := eA.out; have := fA.out; omega
     case rel => exact ⟨(Go.bits .xor .i64 (Go.bits .and .i64 (wrap64 (bA * 2)) 65535) 4129), (wrap64 (cA + 1)), sr_, sr_, H', ⟨by have := eA.out; have := fA.out; omega⟩, dr_⟩
/-! ### spec_l1Batch: function 61 -/
def spec_l1Batch.l0 : Nat → ByteArray → List ByteArray → Int → Int → Option (ByteArray)
 | 0, _, _, _, _ => none
 | k + 1, x3, x27, x28, x29 => if x29 < x28 then (if 0 ≤ x29 then (if x29 < (x27.length : Int) then ((spec_l1Bytes.f k ((rdOf ByteArray.empty x27 x29).size : Int) 1).bind fun t215 => (if t215.size + (rdOf ByteArray.empty x27 x29).size ≤ 9223372036854775807 then (if x3.size + (t215 ++ (rdOf ByteArray.empty x27 x29)).size ≤ 9223372036854775807 then (spec_l1Batch.l0 k (x3 ++ (t215 ++ (rdOf ByteArray.empty x27 x29))) x27 x28 (wrap64 (x29 + 1))) else (none)) else (none))) else (none)) else (none)) else ((spec_l1Bytes.f k (wrap64 ((x3.size : Int) + 2)) 2).bind fun t216 => (if t216.size + x3.size ≤ 9223372036854775807 then ((spec_l1Sum.f k (t216 ++ x3)).bind fun t217 => ((spec_l1Bytes.f k t217 2).bind fun t218 => (if (t216 ++ x3).size + t218.size ≤ 9223372036854775807 then (some ((t216 ++ x3) ++ t218)) else (none)))) else (none)))
def spec_l1Batch.f (k : Nat) (a0_0 : Int) (a0_1 : Int) (a0_2 : Int) (a0_3 : Int) (l0_4 : List ByteArray) : Option (ByteArray) := (spec_l1Bytes.f k a0_0 3).bind fun t209 => ((spec_l1Bytes.f k a0_1 2).bind fun t210 => (if t209.size + t210.size ≤ 9223372036854775807 then ((spec_l1Bytes.f k a0_2 2).bind fun t211 => (if (t209 ++ t210).size + t211.size ≤ 9223372036854775807 then ((spec_l1Bytes.f k a0_3 2).bind fun t212 => (if ((t209 ++ t210) ++ t211).size + t212.size ≤ 9223372036854775807 then ((spec_l1Bytes.f k (l0_4.length : Int) 1).bind fun t213 => (if (((t209 ++ t210) ++ t211) ++ t212).size + t213.size ≤ 9223372036854775807 then (spec_l1Batch.l0 k ((((t209 ++ t210) ++ t211) ++ t212) ++ t213) l0_4 (l0_4.length : Int) 0) else (none))) else (none))) else (none))) else (none)))
theorem spec_l1Batch.mono_l : ∀ k, (∀ y0 y1 y2 y3, LeO (spec_l1Batch.l0 k y0 y1 y2 y3) (spec_l1Batch.l0 (k + 1) y0 y1 y2 y3))
 | 0 => fun _ _ _ _ r h => by simp [spec_l1Batch.l0] at h
 | k + 1 => by
  have ih0 := spec_l1Batch.mono_l k
  ·intro y0 y1 y2 y3
   unfold spec_l1Batch.l0
   repeat' first
   | (with_reducible first | apply ih0 | apply spec_l1Bytes.mono | apply spec_l1Sum.mono | exact LeO.refl _ | exact LeO.none _ | refine LeO.ite ?_ ?_ | refine LeO.bind ?_ (fun _ => ?_))
theorem spec_l1Batch.mono : ∀ a0 a1 a2 a3 a4 k, LeO (spec_l1Batch.f k a0 a1 a2 a3 a4) (spec_l1Batch.f (k + 1) a0 a1 a2 a3 a4) := by
 intro a0 a1 a2 a3 a4 k
 have ih0 := spec_l1Batch.mono_l k
 unfold spec_l1Batch.f
 repeat' first
   | (with_reducible first | apply ih0 | apply spec_l1Bytes.mono | apply spec_l1Sum.mono | exact LeO.refl _ | exact LeO.none _ | refine LeO.ite ?_ ?_ | refine LeO.bind ?_ (fun _ => ?_))
def spec_l1Batch.T1 : Bool × List (List Nat × List Nat) := (true, [([], []), ([0], [0]), ([1], [1]), ([], []), ([3], [3]), ([4, 2], [4]), ([2, 5], [2, 5]), ([], []), ([7], [7]), ([8, 5], [8]), ([6, 9], [6, 9]), ([], []), ([11], [11]), ([12, 9], [12]), ([10, 13], [10, 13]), ([], []), ([15], [15]), ([16], [16]), ([17, 13], [17]), ([14, 18], [14, 18]), ([19, 18, 0, 1, 2, 3, 4, 5, 6, 7, 8, 9, 10, 11, 12, 13, 14, 15, 16, 17, 18, 19], [19])])
def spec_l1Batch.B1 : List Nat := [0, 1, 3, 0, 8, 31, 63, 0, 128, 447, 1023, 0, 2048, 7103, 16383, 0, 32768, 98304, 244671, 524287, 1048575]
theorem spec_l1Batch.tab1 : rtab .any (opsOf Try.f61 1) = spec_l1Batch.T1 := by kernel_rfl
theorem spec_l1Batch.bits1 : waitsOk spec_l1Batch.T1.2 spec_l1Batch.B1 = true := by kernel_rfl
set_option maxHeartbeats 8000000 in
set_option maxRecDepth 100000 in
theorem spec_l1Batch.calls (k : Nat) (a0_0 : Int) (a0_1 : Int) (a0_2 : Int) (a0_3 : Int) (A0_4 : Option Addr) (c0_4 : Nat) (l0_4 : List ByteArray) (r : ByteArray) (w : World) (hr0_4 : Kd.C Kd.string w A0_4 l0_4.length l0_4) (hc0_4 : l0_4.length ≤ c0_4) (h : spec_l1Batch.f k a0_0 a0_1 a0_2 a0_3 l0_4 = some r) :
  Calls Try.prog 61 #[.agg #[.int .i64 a0_0, .int .i64 a0_1, .int .i64 a0_2, .int .i64 a0_3, .slice A0_4 l0_4.length c0_4]] w fun e w' => e = .returned (.string r) ∧ Below w.heap.size w w' := by
 have hu44 := Try.underlying44
 have lB := Aside0.mk hr0_4
 have gC := Aside0.mk hc0_4
 clear hr0_4 hc0_4
 have HB := Aside0.mk (Below.refl w.heap.size w)
 have H : ((spec_l1Bytes.f k a0_0 3).bind fun cA => ((spec_l1Bytes.f k a0_1 2).bind fun dA => (if cA.size + dA.size ≤ 9223372036854775807 then ((spec_l1Bytes.f k a0_2 2).bind fun fA => (if (cA ++ dA).size + fA.size ≤ 9223372036854775807 then ((spec_l1Bytes.f k a0_3 2).bind fun hA => (if ((cA ++ dA) ++ fA).size + hA.size ≤ 9223372036854775807 then ((spec_l1Bytes.f k (l0_4.length : Int) 1).bind fun jA => (if (((cA ++ dA) ++ fA) ++ hA).size + jA.size ≤ 9223372036854775807 then (spec_l1Batch.l0 k ((((cA ++ dA) ++ fA) ++ hA) ++ jA) l0_4 (l0_4.length : Int) 0) else (none))) else (none))) else (none))) else (none)))) = some r := h
 clear h
 replace H := bnd_ H
 obtain ⟨cA, A2, H⟩ := H
 replace H := bnd_ H
 obtain ⟨dA, A3, H⟩ := H
 replace H := ifs_ H
 obtain ⟨c4, H⟩ := H
 have kA := eq_true c4
 have xB := decide_eq_true c4
 try have yB : (9223372036854775807 < cA.size + dA.size) = False := eq_false (Nat.not_lt.2 c4)
 try have c4w := cw_ c4
 replace H := bnd_ H
 obtain ⟨fA, A5, H⟩ := H
 replace H := ifs_ H
 obtain ⟨c6, H⟩ := H
 have nA := eq_true c6
 have zB := decide_eq_true c6
 try have aC : (9223372036854775807 < (cA ++ dA).size + fA.size) = False := eq_false (Nat.not_lt.2 c6)
 try have bC : cA.size + dA.size + fA.size ≤ 9223372036854775807 := by (have h_ := c6; simp only [ByteArray.size_append] at h_; exact h_)
 try have xC : (9223372036854775807 < cA.size + dA.size + fA.size) = False := eq_false (Nat.not_lt.2 bC)
 try have c6w := cw_ c6
 (try rw [c6w] at kA)
 replace H := bnd_ H
 obtain ⟨hA, A7, H⟩ := H
 replace H := ifs_ H
 obtain ⟨c8, H⟩ := H
 have sA := eq_true c8
 have cC := decide_eq_true c8
 try have dC : (9223372036854775807 < ((cA ++ dA) ++ fA).size + hA.size) = False := eq_false (Nat.not_lt.2 c8)
 try have eC : cA.size + dA.size + fA.size + hA.size ≤ 9223372036854775807 := by (have h_ := c8; simp only [ByteArray.size_append] at h_; exact h_)
 try have yC : (9223372036854775807 < cA.size + dA.size + fA.size + hA.size) = False := eq_false (Nat.not_lt.2 eC)
 try have c8w := cw_ c8
 (try rw [c8w] at kA)
 (try rw [c8w] at nA)
 replace H := bnd_ H
 obtain ⟨jA, A9, H⟩ := H
 replace H := ifs_ H
 obtain ⟨kB, H⟩ := H
 have lA := eq_true kB
 have mB := decide_eq_true kB
 try have nB : (9223372036854775807 < (((cA ++ dA) ++ fA) ++ hA).size + jA.size) = False := eq_false (Nat.not_lt.2 kB)
 try have oB : cA.size + dA.size + fA.size + hA.size + jA.size ≤ 9223372036854775807 := by (have h_ := kB; simp only [ByteArray.size_append] at h_; exact h_)
 try have hC : (9223372036854775807 < cA.size + dA.size + fA.size + hA.size + jA.size) = False := eq_false (Nat.not_lt.2 oB)
 try have c10w := cw_ kB
 (try rw [c10w] at kA)
 (try rw [c10w] at nA)
 (try rw [c10w] at sA)
 have H' := Aside0.mk H
 clear H
 go_enter Try.func61, Try.ntmps61
 try go_wp2_with (first | ((with_reducible refine gate_dst (N := 1) rfl ?_); refine bq_ (N := 1) #[.int .i64 a0_0, .int .i64 a0_1, .int .i64 a0_2, .int .i64 a0_3, .slice A0_4 l0_4.length c0_4] 44 ?_; intro iA hg zC aA hb; have eA := ge_ hg; replace HB := nb_ hb; clear hb hg))
 replace aA := qK_ aA
 replace HB := qH_ HB
 refine start_ (n := 21) (S := fun w' => w'.cell? ⟨iA, 0, none⟩ = some (.int .i64 a0_0) ∧ w'.cell? ⟨iA, 1, none⟩ = some (.int .i64 a0_1) ∧ w'.cell? ⟨iA, 2, none⟩ = some (.int .i64 a0_2) ∧ w'.cell? ⟨iA, 3, none⟩ = some (.int .i64 a0_3) ∧ w'.cell? ⟨iA, 4, none⟩ = some (.slice A0_4 l0_4.length c0_4)) (ds := []) (List.replicate 21 false).toArray (by kernel_rfl) rfl rfl ⟨bt_ aA 0, bt_ aA 1, bt_ aA 2, bt_ aA 3, bt_ aA 4⟩ (fun hHeld => ?_); refine with_tabW spec_l1Batch.tab1 spec_l1Batch.bits1 (fun HT_ HW_ => ?_)
 generalize zC.drew = fD at aA HB hHeld ⊢
 refine pv_ 0 6 ?_
 refine pv_ 3 9 ?_
 refine pv_ 7 13 ?_
 refine pv_ 11 17 ?_
 refine pv_ 15 21 ?_
 refine tk_ 1 7 ?_
 refine tk_ 4 10 ?_
 refine tk_ 8 14 ?_
 refine tk_ 12 18 ?_
 refine tk_ 16 22 ?_
 refine pv_ 17 23 ?_
 refine on_ 2 8 (fun K hK => ?_)
 refine gs_ Try.func86 #[.int .i64 a0_0, .int .i64 3] rfl ma_ ?_
 with_reducible refine (spec_l1Bytes.calls k a0_0 3 cA _ A2.out).mono ?_
 rintro e gD ⟨rfl, hb⟩
 refine ⟨_, rfl, ?_⟩
 replace aA := bK_ aA hb
 replace HB := nc_ eA hb
 (try clear hb)
 (try clear hb2)
 (try clear hk)
 (try clear hi)
 refine hK.out _ _ ⟨bt_ aA 0, bt_ aA 1, bt_ aA 2, bt_ aA 3, bt_ aA 4⟩ (fun hHeld => ?_)
 clear hK K
 refine no_ ?_
 refine on_ 5 11 (fun K hK => ?_)
 refine gs_ Try.func86 #[.int .i64 a0_1, .int .i64 2] rfl ma_ ?_
 with_reducible refine (spec_l1Bytes.calls k a0_1 2 dA _ A3.out).mono ?_
 rintro e hD ⟨rfl, hb⟩
 refine ⟨_, rfl, ?_⟩
 replace aA := bK_ aA hb
 replace HB := nc_ eA hb
 (try clear hb)
 (try clear hb2)
 (try clear hk)
 (try clear hi)
 refine hK.out _ _ ⟨bt_ aA 0, bt_ aA 1, bt_ aA 2, bt_ aA 3, bt_ aA 4⟩ (fun hHeld => ?_)
 clear hK K
 refine no_ ?_
 refine pv_ 6 12 ?_
 refine on_ 9 15 (fun K hK => ?_)
 refine gs_ Try.func86 #[.int .i64 a0_2, .int .i64 2] rfl ma_ ?_
 with_reducible refine (spec_l1Bytes.calls k a0_2 2 fA _ A5.out).mono ?_
 rintro e iD ⟨rfl, hb⟩
 refine ⟨_, rfl, ?_⟩
 replace aA := bK_ aA hb
 replace HB := nc_ eA hb
 (try clear hb)
 (try clear hb2)
 (try clear hk)
 (try clear hi)
 refine hK.out _ _ ⟨bt_ aA 0, bt_ aA 1, bt_ aA 2, bt_ aA 3, bt_ aA 4⟩ (fun hHeld => ?_)
 clear hK K
 refine no_ ?_
 refine pv_ 10 16 ?_
 refine on_ 13 19 (fun K hK => ?_)
 refine gs_ Try.func86 #[.int .i64 a0_3, .int .i64 2] rfl ma_ ?_
 with_reducible refine (spec_l1Bytes.calls k a0_3 2 hA _ A7.out).mono ?_
 rintro e jD ⟨rfl, hb⟩
 refine ⟨_, rfl, ?_⟩
 replace aA := bK_ aA hb
 replace HB := nc_ eA hb
 (try clear hb)
 (try clear hb2)
 (try clear hk)
 (try clear hi)
 refine hK.out _ _ ⟨bt_ aA 0, bt_ aA 1, bt_ aA 2, bt_ aA 3, bt_ aA 4⟩ (fun hHeld => ?_)
 clear hK K
 refine no_ ?_
 refine pv_ 14 20 ?_
 refine on_ 18 24 (fun K hK => ?_)
 refine gs_ Try.func86 #[.int .i64 (l0_4.length : Int), .int .i64 1] rfl ma_ ?_
 with_reducible refine (spec_l1Bytes.calls k (l0_4.length : Int) 1 jA _ A9.out).mono ?_
 rintro e kD ⟨rfl, hb⟩
 refine ⟨_, rfl, ?_⟩
 replace aA := bK_ aA hb
 replace HB := nc_ eA hb
 (try clear hb)
 (try clear hb2)
 (try clear hk)
 (try clear hi)
 refine hK.out _ _ ⟨bt_ aA 0, bt_ aA 1, bt_ aA 2, bt_ aA 3, bt_ aA 4⟩ (fun hHeld => ?_)
 clear hK K
 refine no_ ?_
 refine pv_ 19 25 ?_
 refine pv_ 20 3 ?_
 refine done_ (done_of HT_.out (by kernel_rfl)) ?_
 obtain ⟨vA, wA, xA, yA, zA, aB, bB, cB, dB, eB⟩ := cf5_ aA.out
 try go_wp2
 go_loopg [3, 29] k (fun kq v3 aD w' => ∃ (gA : ByteArray) (bA : Int), v3 = .string gA ∧ aD = .int .i64 bA ∧ Aside0 (spec_l1Batch.l0 kq gA l0_4 (l0_4.length : Int) bA = some r) ∧ Aside0 (kq ≤ k) ∧ Aside0 (w'.heap[iA]? = some (.cells #[.int .i64 a0_0, .int .i64 a0_1, .int .i64 a0_2, .int .i64 a0_3, (.slice A0_4 l0_4.length c0_4)] 44 (0, 0))) ∧ Aside0 (Below w.heap.size w w'))
 case atStart => exact ⟨((((cA ++ dA) ++ fA) ++ hA) ++ jA), (0), sr_, sr_, H', ⟨Nat.le_refl _⟩, ⟨kb_ aA.out⟩, ⟨hs_ eA.out⟩⟩
 case round =>
  clear H'
  try clear c4
  try clear kA
  try clear xB
  try clear yB
  try clear c6
  try clear nA
  try clear zB
  try clear aC
  try clear c8
  try clear sA
  try clear cC
  try clear dC
  try clear kB
  try clear lA
  try clear mB
  try clear nB
  try clear vA
  try clear wA
  try clear xA
  try clear yA
  try clear zA
  try clear aB
  try clear bB
  try clear cB
  try clear dB
  try clear eB
  obtain ⟨gA, bA, rfl, rfl, HA, iC, aA, HB⟩ := hrel
  cases gk with
  | zero => exact absurd HA.out (by simp [spec_l1Batch.l0])
  | succ k1 =>
   have H := HA.out
   clear HA
   simp only [spec_l1Batch.l0] at H
   replace H := ite_ H
   obtain ⟨pB, H⟩ | ⟨pB, H⟩ := H
   ·have mA := decide_eq_true pB
    clear pB
    replace H := ifs_ H
    obtain ⟨jC, H⟩ := H
    have pA := decide_eq_true jC
    clear jC
    replace H := ifs_ H
    obtain ⟨kC, H⟩ := H
    have qA := decide_eq_true kC
    clear kC
    replace H := bnd_ H
    obtain ⟨tA, bD, H⟩ := H
    replace H := ifs_ H
    obtain ⟨vB, H⟩ := H
    have uA := eq_true vB
    have lC := decide_eq_true vB
    try have mC : (9223372036854775807 < tA.size + (rdOf ByteArray.empty l0_4 bA).size) = False := eq_false (Nat.not_lt.2 vB)
    try have c23w := cw_ vB
    (try rw [c23w] at kA)
    (try rw [c23w] at nA)
    (try rw [c23w] at sA)
    (try rw [c23w] at lA)
    (try rw [c23w] at mA)
    (try rw [c23w] at pA)
    (try rw [c23w] at qA)
    replace H := ifs_ H
    obtain ⟨qB, H⟩ := H
    have gB := eq_true qB
    have nC := decide_eq_true qB
    try have oC : (9223372036854775807 < gA.size + (tA ++ (rdOf ByteArray.empty l0_4 bA)).size) = False := eq_false (Nat.not_lt.2 qB)
    try have rB : gA.size + (tA.size + (rdOf ByteArray.empty l0_4 bA).size) ≤ 9223372036854775807 := by (have h_ := qB; simp only [ByteArray.size_append] at h_; exact h_)
    try have pC : (9223372036854775807 < gA.size + (tA.size + (rdOf ByteArray.empty l0_4 bA).size)) = False := eq_false (Nat.not_lt.2 rB)
    try have c24w := cw_ qB
    (try rw [c24w] at kA)
    (try rw [c24w] at nA)
    (try rw [c24w] at sA)
    (try rw [c24w] at lA)
    (try rw [c24w] at mA)
    (try rw [c24w] at pA)
    (try rw [c24w] at qA)
    (try rw [c24w] at uA)
    have H' := Aside0.mk H
    clear H
    have hB : 0 ≤ (bA : Int) := oa_
    have iB : bA < (l0_4.length : Int) := oa_
    obtain ⟨qC, fC, rA⟩ := Kd.at_string lB.out bA hB iB
    cases fC
    replace rA := pc_ HB.out rA
    replace hB := eq_true hB
    replace iB := eq_true iB
    go_wp2_with (first | ((with_reducible refine gate_callee (f := 86) rfl ?_); refine gl_ 36 Try.func86 #[.int .i64 ((rdOf ByteArray.empty l0_4 bA).size : Int), .int .i64 1] rfl ma_ ?_; (with_reducible refine (spec_l1Bytes.calls k1 ((rdOf ByteArray.empty l0_4 bA).size : Int) 1 tA _ bD.out).mono ?_); rintro e lD ⟨rfl, hb⟩; refine ⟨_, rfl, ?_⟩; replace aA := bK_ aA hb; replace HB := nc_ eA hb; (try clear hb); (try clear hb2); (try clear hk); (try clear hi)))
    go_roundg k1
    case measure => have := iC.out; omega
    case rel => exact ⟨(gA ++ (tA ++ (rdOf ByteArray.empty l0_4 bA))), (wrap64 (bA + 1)), sr_, sr_, H', ⟨by have := iC.out; omega⟩, ⟨kb_ aA.out⟩, ⟨hs_ eA.out⟩⟩
   have mA := decide_eq_false pB
   clear pB
   replace H := bnd_ H
   obtain ⟨oA, cD, H⟩ := H
   replace H := ifs_ H
   obtain ⟨wB, H⟩ := H
   have sB := eq_true wB
   have rC := decide_eq_true wB
   try have sC : (9223372036854775807 < oA.size + gA.size) = False := eq_false (Nat.not_lt.2 wB)
   try have c27w := cw_ wB
   (try rw [c27w] at kA)
   (try rw [c27w] at nA)
   (try rw [c27w] at sA)
   (try rw [c27w] at lA)
   (try rw [c27w] at mA)
   (try rw [c27w] at pA)
   (try rw [c27w] at qA)
   (try rw [c27w] at uA)
   (try rw [c27w] at gB)
   replace H := bnd_ H
   obtain ⟨jB, dD, H⟩ := H
   replace H := bnd_ H
   obtain ⟨fB, eD, H⟩ := H
   replace H := ifs_ H
   obtain ⟨tB, H⟩ := H
   have tC := eq_true tB
   have uC := decide_eq_true tB
   try have vC : (9223372036854775807 < (oA ++ gA).size + fB.size) = False := eq_false (Nat.not_lt.2 tB)
   try have uB : oA.size + gA.size + fB.size ≤ 9223372036854775807 := by (have h_ := tB; simp only [ByteArray.size_append] at h_; exact h_)
   try have wC : (9223372036854775807 < oA.size + gA.size + fB.size) = False := eq_false (Nat.not_lt.2 uB)
   try have c30w := cw_ tB
   (try rw [c30w] at kA)
   (try rw [c30w] at nA)
   (try rw [c30w] at sA)
   (try rw [c30w] at lA)
   (try rw [c30w] at mA)
   (try rw [c30w] at pA)
   (try rw [c30w] at qA)
   (try rw [c30w] at uA)
   (try rw [c30w] at gB)
   (try rw [c30w] at sB)
   obtain rfl := Option.some.inj H
   go_wp2_with (first | ((with_reducible refine gate_callee (f := 86) rfl ?_); refine gl_ 44 Try.func86 #[.int .i64 (wrap64 ((gA.size : Int) + 2)), .int .i64 2] rfl ma_ ?_; (with_reducible refine (spec_l1Bytes.calls k1 (wrap64 ((gA.size : Int) + 2)) 2 oA _ cD.out).mono ?_); rintro e mD ⟨rfl, hb⟩; refine ⟨_, rfl, ?_⟩; replace aA := bK_ aA hb; replace HB := nc_ eA hb; (try clear hb); (try clear hb2); (try clear hk); (try clear hi)) | ((with_reducible refine gate_callee (f := 87) rfl ?_); refine gl_ 49 Try.func87 #[.string (oA ++ gA)] rfl ma_ ?_; (with_reducible refine (spec_l1Sum.calls k1 (oA ++ gA) jB _ dD.out).mono ?_); rintro e w' ⟨rfl, ⟨nd, rfl⟩⟩; refine ⟨_, rfl, ?_⟩) | ((with_reducible refine gate_callee (f := 86) rfl ?_); refine gl_ 50 Try.func86 #[.int .i64 jB, .int .i64 2] rfl ma_ ?_; (with_reducible refine (spec_l1Bytes.calls k1 jB 2 fB _ eD.out).mono ?_); rintro e nD ⟨rfl, hb⟩; refine ⟨_, rfl, ?_⟩; replace aA := bK_ aA hb; replace HB := nc_ eA hb; (try clear hb); (try clear hb2); (try clear hk); (try clear hi)))
   go_ret
   exact ⟨er_, hs_ eA.out⟩

/-! ### spec_l1Value: function 97 -/
def spec_l1Value.l0 : Nat → ByteArray → Int → Int → Option (Int)
 | 0, _, _, _ => none
 | k + 1, x0, x3, x4 => if x4 < (x0.size : Int) then (if 0 ≤ x4 then (spec_l1Value.l0 k x0 (Go.bits .or .i64 (wrap64 (x3 * 256)) (wrap64 (bt x0 x4))) (wrap64 (x4 + 1))) else (none)) else (some x3)
def spec_l1Value.f (k : Nat) (a0 : ByteArray) : Option (Int) := spec_l1Value.l0 k a0 0 0
theorem spec_l1Value.mono_l : ∀ k, (∀ y0 y1 y2, LeO (spec_l1Value.l0 k y0 y1 y2) (spec_l1Value.l0 (k + 1) y0 y1 y2))
 | 0 => fun _ _ _ r h => by simp [spec_l1Value.l0] at h
 | k + 1 => by
  have ih0 := spec_l1Value.mono_l k
  ·intro y0 y1 y2
   unfold spec_l1Value.l0
   repeat' first
   | (with_reducible first | apply ih0 | exact LeO.refl _ | exact LeO.none _ | refine LeO.ite ?_ ?_ | refine LeO.bind ?_ (fun _ => ?_))
theorem spec_l1Value.mono : ∀ a0 k, LeO (spec_l1Value.f k a0) (spec_l1Value.f (k + 1) a0) := by
 intro a0 k
 have ih0 := spec_l1Value.mono_l k
 unfold spec_l1Value.f
 repeat' first
   | (with_reducible first | apply ih0 | exact LeO.refl _ | exact LeO.none _ | refine LeO.ite ?_ ?_ | refine LeO.bind ?_ (fun _ => ?_))
set_option maxHeartbeats 8000000 in
set_option maxRecDepth 100000 in
theorem spec_l1Value.calls (k : Nat) (a0 : ByteArray) (r : Int) (w : World) (h : spec_l1Value.f k a0 = some r) :
  Calls Try.prog 97 #[.string a0] w fun e w' => e = .returned (.int .i64 r) ∧ Drawn0 w w' := by
 have H : (spec_l1Value.l0 k a0 0 0) = some r := h
 clear h
 have H' := Aside0.mk H
 clear H
 go_enter Try.func97, Try.ntmps97
 go_wp2
 go_loopg [3, 4] k (fun kq v3 v4 w' => ∃ (bA : Int) (aA : Int), v3 = .int .i64 bA ∧ v4 = .int .i64 aA ∧ Aside0 (spec_l1Value.l0 kq a0 bA aA = some r) ∧ Aside0 (kq ≤ k) ∧ Drawn0 w w')
 case atStart => exact ⟨(0), (0), sr_, sr_, H', ⟨Nat.le_refl _⟩, dr_⟩
 case round =>
  clear H'
  obtain ⟨bA, aA, rfl, rfl, HA, dA, ⟨m1, rfl⟩⟩ := hrel
  cases gk with
  | zero => exact absurd HA.out (by simp [spec_l1Value.l0])
  | succ k1 =>
   have H := HA.out
   clear HA
   simp only [spec_l1Value.l0] at H
   replace H := ite_ H
   obtain ⟨c2, H⟩ | ⟨c2, H⟩ := H
   rotate_left
   ·have cA := decide_eq_false c2
    clear c2
    obtain rfl := Option.some.inj H
    go_wp2
    go_ret
    exact ⟨by first | rfl | (simp; done) | (simp [*]; done), dr_⟩
   have cA := decide_eq_true c2
   clear c2
   replace H := ifs_ H
   obtain ⟨c3, H⟩ := H
   have eA := decide_eq_true c3
   clear c3
   have H' := Aside0.mk H
   clear H
   have p4 : 0 ≤ (aA : Int) := oa_
   have q4 : aA < (a0.size : Int) := oa_
   have fA := bt_at a0 aA
   replace p4 := eq_true p4
   replace q4 := eq_true q4
   go_wp2
   go_roundg k1
   case measure => have := dA.out; omega
   case rel => exact ⟨(Go.bits .or .i64 (wrap64 (bA * 256)) (wrap64 (bt a0 aA))), (wrap64 (aA + 1)), sr_, sr_, H', ⟨by have := dA.out; omega⟩, dr_⟩
end Go.Proofs.Ytpdpipfkllfhmaa.QFnDisks
