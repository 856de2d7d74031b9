/- Functions that one statement reaches: of each a plain function, and the proof that calls come to it. Conditions: those that each contract names. Written by a program of this repository. -/
import Derived.Test.YtpdpipfkllfhmaaVFnDisksa
import Derived.Test.YtpdpipfkllfhmaaQFnDisksx3
namespace Go.Proofs.Ytpdpipfkllfhmaa.QFnDisks
open Go.RowKit Go.Proofs.YtpdpipfkllfhmaaW.PrintWords Go.Proofs.YtpdpipfkllfhmaaW.PrintLast Go.Proofs.YtpdpipfkllfhmaaW.PrintMore
attribute [local go_sem] max2_int min2_int max_two min_two max_three min_three max_four min_four Go.Proofs.YtpdpipfkllfhmaaW.PrintMore2.isSome_setCell   -- for this text's walks alone
set_option linter.unusedVariables false
set_option linter.unusedSimpArgs false

/-! ### impl_batchBytes: function 64 -/
def impl_batchBytes.l0 : Nat → ByteArray → List ByteArray → Int → Int → Option (ByteArray)
 | 0, _, _, _, _ => none
 | k + 1, x3, x28, x29, x30 => if x30 < x29 then (if 0 ≤ x30 then (if x30 < (x28.length : Int) then ((impl_put.f k ((rdOf ByteArray.empty x28 x30).size : Int) 1).bind fun t126 => (if t126.size + (rdOf ByteArray.empty x28 x30).size ≤ 9223372036854775807 then (if x3.size + (t126 ++ (rdOf ByteArray.empty x28 x30)).size ≤ 9223372036854775807 then (impl_batchBytes.l0 k (x3 ++ (t126 ++ (rdOf ByteArray.empty x28 x30))) x28 x29 (wrap64 (x30 + 1))) else (none)) else (none))) else (none)) else (none)) else ((impl_put.f k (wrap64 ((x3.size : Int) + 2)) 2).bind fun t127 => (if t127.size + x3.size ≤ 9223372036854775807 then ((impl_sumOf.f k (t127 ++ x3)).bind fun t128 => ((impl_put.f k t128 2).bind fun t129 => (if (t127 ++ x3).size + t129.size ≤ 9223372036854775807 then (some ((t127 ++ x3) ++ t129)) else (none)))) else (none)))
def impl_batchBytes.f (k : Nat) (a0_0 : Int) (a0_1 : Int) (a0_2 : Int) (a0_3 : Int) (l0_4 : List ByteArray) : Option (ByteArray) := (impl_put.f k a0_0 3).bind fun t120 => ((impl_put.f k a0_1 2).bind fun t121 => (if t120.size + t121.size ≤ 9223372036854775807 then ((impl_put.f k a0_2 2).bind fun t122 => (if (t120 ++ t121).size + t122.size ≤ 9223372036854775807 then ((impl_put.f k a0_3 2).bind fun t123 => (if ((t120 ++ t121) ++ t122).size + t123.size ≤ 9223372036854775807 then ((impl_put.f k (l0_4.length : Int) 1).bind fun t124 => (if (((t120 ++ t121) ++ t122) ++ t123).size + t124.size ≤ 9223372036854775807 then (impl_batchBytes.l0 k ((((t120 ++ t121) ++ t122) ++ t123) ++ t124) l0_4 (l0_4.length : Int) 0) else (none))) else (none))) else (none))) else (none)))
theorem impl_batchBytes.mono_l : ∀ k, (∀ y0 y1 y2 y3, LeO (impl_batchBytes.l0 k y0 y1 y2 y3) (impl_batchBytes.l0 (k + 1) y0 y1 y2 y3))
 | 0 => fun _ _ _ _ r h => by simp [impl_batchBytes.l0] at h
 | k + 1 => by
  have ih0 := impl_batchBytes.mono_l k
  ·intro y0 y1 y2 y3
   unfold impl_batchBytes.l0
   repeat' first
   | (with_reducible first | apply ih0 | apply impl_put.mono | apply impl_sumOf.mono | exact LeO.refl _ | exact LeO.none _ | refine LeO.ite ?_ ?_ | refine LeO.bind ?_ (fun _ => ?_))
theorem impl_batchBytes.mono : ∀ a0 a1 a2 a3 a4 k, LeO (impl_batchBytes.f k a0 a1 a2 a3 a4) (impl_batchBytes.f (k + 1) a0 a1 a2 a3 a4) := by
 intro a0 a1 a2 a3 a4 k
 have ih0 := impl_batchBytes.mono_l k
 unfold impl_batchBytes.f
 repeat' first
   | (with_reducible first | apply ih0 | apply impl_put.mono | apply impl_sumOf.mono | exact LeO.refl _ | exact LeO.none _ | refine LeO.ite ?_ ?_ | refine LeO.bind ?_ (fun _ => ?_))
def impl_batchBytes.T1 : Bool × List (List Nat × List Nat) := (true, [([], []), ([0], [0]), ([1], [1]), ([], []), ([3], [3]), ([4, 2], [4]), ([2, 5], [2, 5]), ([], []), ([7], [7]), ([8, 5], [8]), ([6, 9], [6, 9]), ([], []), ([11], [11]), ([12, 9], [12]), ([10, 13], [10, 13]), ([], []), ([15], [15]), ([16], [16]), ([17, 13], [17]), ([14, 18], [14, 18]), ([19, 18, 0, 1, 2, 3, 4, 5, 6, 7, 8, 9, 10, 11, 12, 13, 14, 15, 16, 17, 18, 19], [19])])
def impl_batchBytes.B1 : List Nat := [0, 1, 3, 0, 8, 31, 63, 0, 128, 447, 1023, 0, 2048, 7103, 16383, 0, 32768, 98304, 244671, 524287, 1048575]
theorem impl_batchBytes.tab1 : rtab .any (opsOf Try.f64 1) = impl_batchBytes.T1 := by kernel_rfl
theorem impl_batchBytes.bits1 : waitsOk impl_batchBytes.T1.2 impl_batchBytes.B1 = true := by kernel_rfl
set_option maxHeartbeats 8000000 in
set_option maxRecDepth 100000 in
theorem impl_batchBytes.calls (k : Nat) (a0_0 : Int) (a0_1 : Int) (a0_2 : Int) (a0_3 : Int) (A0_4 : Option Addr) (c0_4 : Nat) (l0_4 : List ByteArray) (r : ByteArray) (w : World) (hr0_4 : Kd.C Kd.string w A0_4 l0_4.length l0_4) (hc0_4 : l0_4.length ≤ c0_4) (h : impl_batchBytes.f k a0_0 a0_1 a0_2 a0_3 l0_4 = some r) :
  Calls Try.prog 64 #[.agg #[.int .i64 a0_0, .int .i64 a0_1, .int .i64 a0_2, .int .i64 a0_3, .slice A0_4 l0_4.length c0_4]] w fun e w' => e = .returned (.string r) ∧ Below w.heap.size w w' := by
 have hu44 := Try.underlying44
 have lB := Aside0.mk hr0_4
 have gC := Aside0.mk hc0_4
 clear hr0_4 hc0_4
 have HB := Aside0.mk (Below.refl w.heap.size w)
 have H : ((impl_put.f k a0_0 3).bind fun cA => ((impl_put.f k a0_1 2).bind fun dA => (if cA.size + dA.size ≤ 9223372036854775807 then ((impl_put.f k a0_2 2).bind fun fA => (if (cA ++ dA).size + fA.size ≤ 9223372036854775807 then ((impl_put.f k a0_3 2).bind fun hA => (if ((cA ++ dA) ++ fA).size + hA.size ≤ 9223372036854775807 then ((impl_put.f k (l0_4.length : Int) 1).bind fun jA => (if (((cA ++ dA) ++ fA) ++ hA).size + jA.size ≤ 9223372036854775807 then (impl_batchBytes.l0 k ((((cA ++ dA) ++ fA) ++ hA) ++ jA) l0_4 (l0_4.length : Int) 0) else (none))) else (none))) else (none))) else (none)))) = some r := h
 clear h
 replace H := bnd_ H
 obtain ⟨cA, A2, H⟩ := H
 replace H := bnd_ H
 obtain ⟨dA, A3, H⟩ := H
 replace H := ifs_ H
 obtain ⟨c4, H⟩ := H
 have kA := eq_true c4
 have xB := decide_eq_true c4
 try have yB : (9223372036854775807 < cA.size + dA.size) = False := eq_false (Nat.not_lt.2 c4)
 try have c4w := cw_ c4
 replace H := bnd_ H
 obtain ⟨fA, A5, H⟩ := H
 replace H := ifs_ H
 obtain ⟨c6, H⟩ := H
 have nA := eq_true c6
 have zB := decide_eq_true c6
 try have aC : (9223372036854775807 < (cA ++ dA).size + fA.size) = False := eq_false (Nat.not_lt.2 c6)
 try have bC : cA.size + dA.size + fA.size ≤ 9223372036854775807 := by (have h_ := c6; simp only [ByteArray.size_append] at h_; exact h_)
 try have xC : (9223372036854775807 < cA.size + dA.size + fA.size) = False := eq_false (Nat.not_lt.2 bC)
 try have c6w := cw_ c6
 (try rw [c6w] at kA)
 replace H := bnd_ H
 obtain ⟨hA, A7, H⟩ := H
 replace H := ifs_ H
 obtain ⟨c8, H⟩ := H
 have sA := eq_true c8
 have cC := decide_eq_true c8
 try have dC : (9223372036854775807 < ((cA ++ dA) ++ fA).size + hA.size) = False := eq_false (Nat.not_lt.2 c8)
 try have eC : cA.size + dA.size + fA.size + hA.size ≤ 9223372036854775807 := by (have h_ := c8; simp only [ByteArray.size_append] at h_; exact h_)
 try have yC : (9223372036854775807 < cA.size + dA.size + fA.size + hA.size) = False := eq_false (Nat.not_lt.2 eC)
 try have c8w := cw_ c8
 (try rw [c8w] at kA)
 (try rw [c8w] at nA)
 replace H := bnd_ H
 obtain ⟨jA, A9, H⟩ := H
 replace H := ifs_ H
 obtain ⟨kB, H⟩ := H
 have lA := eq_true kB
 have mB := decide_eq_true kB
 try have nB : (9223372036854775807 < (((cA ++ dA) ++ fA) ++ hA).size + jA.size) = False := eq_false (Nat.not_lt.2 kB)
 try have oB : cA.size + dA.size + fA.size + hA.size + jA.size ≤ 9223372036854775807 := by (have h_ := kB; simp only [ByteArray.size_append] at h_; exact h_)
 try have hC : (9223372036854775807 < cA.size + dA.size + fA.size + hA.size + jA.size) = False := eq_false (Nat.not_lt.2 oB)
 try have c10w := cw_ kB
 (try rw [c10w] at kA)
 (try rw [c10w] at nA)
 (try rw [c10w] at sA)
 have H' := Aside0.mk H
 clear H
 go_enter Try.func64, Try.ntmps64
 try go_wp2_with (first | ((with_reducible refine gate_dst (N := 1) rfl ?_); refine bq_ (N := 1) #[.int .i64 a0_0, .int .i64 a0_1, .int .i64 a0_2, .int .i64 a0_3, .slice A0_4 l0_4.length c0_4] 44 ?_; intro iA hg zC aA hb; have eA := ge_ hg; replace HB := nb_ hb; clear hb hg))
 replace aA := qK_ aA
 replace HB := qH_ HB
 refine start_ (n := 21) (S := fun w' => w'.cell? ⟨iA, 0, none⟩ = some (.int .i64 a0_0) ∧ w'.cell? ⟨iA, 1, none⟩ = some (.int .i64 a0_1) ∧ w'.cell? ⟨iA, 2, none⟩ = some (.int .i64 a0_2) ∧ w'.cell? ⟨iA, 3, none⟩ = some (.int .i64 a0_3) ∧ w'.cell? ⟨iA, 4, none⟩ = some (.slice A0_4 l0_4.length c0_4)) (ds := []) (List.replicate 21 false).toArray (by kernel_rfl) rfl rfl ⟨bt_ aA 0, bt_ aA 1, bt_ aA 2, bt_ aA 3, bt_ aA 4⟩ (fun hHeld => ?_); refine with_tabW impl_batchBytes.tab1 impl_batchBytes.bits1 (fun HT_ HW_ => ?_)
 generalize zC.drew = fD at aA HB hHeld ⊢
 refine pv_ 0 7 ?_
 refine pv_ 3 10 ?_
 refine pv_ 7 14 ?_
 refine pv_ 11 18 ?_
 refine pv_ 15 22 ?_
 refine tk_ 1 8 ?_
 refine tk_ 4 11 ?_
 refine tk_ 8 15 ?_
 refine tk_ 12 19 ?_
 refine tk_ 16 23 ?_
 refine pv_ 17 24 ?_
 refine on_ 2 9 (fun K hK => ?_)
 refine gs_ Try.func89 #[.int .i64 a0_0, .int .i64 3] rfl ma_ ?_
 with_reducible refine (impl_put.calls k a0_0 3 cA _ A2.out).mono ?_
 rintro e gD ⟨rfl, hb⟩
 refine ⟨_, rfl, ?_⟩
 replace aA := bK_ aA hb
 replace HB := nc_ eA hb
 (try clear hb)
 (try clear hb2)
 (try clear hk)
 (try clear hi)
 refine hK.out _ _ ⟨bt_ aA 0, bt_ aA 1, bt_ aA 2, bt_ aA 3, bt_ aA 4⟩ (fun hHeld => ?_)
 clear hK K
 refine no_ ?_
 refine on_ 5 12 (fun K hK => ?_)
 refine gs_ Try.func89 #[.int .i64 a0_1, .int .i64 2] rfl ma_ ?_
 with_reducible refine (impl_put.calls k a0_1 2 dA _ A3.out).mono ?_
 rintro e hD ⟨rfl, hb⟩
 refine ⟨_, rfl, ?_⟩
 replace aA := bK_ aA hb
 replace HB := nc_ eA hb
 (try clear hb)
 (try clear hb2)
 (try clear hk)
 (try clear hi)
 refine hK.out _ _ ⟨bt_ aA 0, bt_ aA 1, bt_ aA 2, bt_ aA 3, bt_ aA 4⟩ (fun hHeld => ?_)
 clear hK K
 refine no_ ?_
 refine pv_ 6 13 ?_
 refine on_ 9 16 (fun K hK => ?_)
 refine gs_ Try.func89 #[.int .i64 a0_2, .int .i64 2] rfl ma_ ?_
 with_reducible refine (impl_put.calls k a0_2 2 fA _ A5.out).mono ?_
 rintro e iD ⟨rfl, hb⟩
 refine ⟨_, rfl, ?_⟩
 replace aA := bK_ aA hb
 replace HB := nc_ eA hb
 (try clear hb)
 (try clear hb2)
 (try clear hk)
 (try clear hi)
 refine hK.out _ _ ⟨bt_ aA 0, bt_ aA 1, bt_ aA 2, bt_ aA 3, bt_ aA 4⟩ (fun hHeld => ?_)
 clear hK K
 refine no_ ?_
 refine pv_ 10 17 ?_
 refine on_ 13 20 (fun K hK => ?_)
 refine gs_ Try.func89 #[.int .i64 a0_3, .int .i64 2] rfl ma_ ?_
 with_reducible refine (impl_put.calls k a0_3 2 hA _ A7.out).mono ?_
 rintro e jD ⟨rfl, hb⟩
 refine ⟨_, rfl, ?_⟩
 replace aA := bK_ aA hb
 replace HB := nc_ eA hb
 (try clear hb)
 (try clear hb2)
 (try clear hk)
 (try clear hi)
 refine hK.out _ _ ⟨bt_ aA 0, bt_ aA 1, bt_ aA 2, bt_ aA 3, bt_ aA 4⟩ (fun hHeld => ?_)
 clear hK K
 refine no_ ?_
 refine pv_ 14 21 ?_
 refine on_ 18 25 (fun K hK => ?_)
 refine gs_ Try.func89 #[.int .i64 (l0_4.length : Int), .int .i64 1] rfl ma_ ?_
 with_reducible refine (impl_put.calls k (l0_4.length : Int) 1 jA _ A9.out).mono ?_
 rintro e kD ⟨rfl, hb⟩
 refine ⟨_, rfl, ?_⟩
 replace aA := bK_ aA hb
 replace HB := nc_ eA hb
 (try clear hb)
 (try clear hb2)
 (try clear hk)
 (try clear hi)
 refine hK.out _ _ ⟨bt_ aA 0, bt_ aA 1, bt_ aA 2, bt_ aA 3, bt_ aA 4⟩ (fun hHeld => ?_)
 clear hK K
 refine no_ ?_
 refine pv_ 19 26 ?_
 refine pv_ 20 3 ?_
 refine done_ (done_of HT_.out (by kernel_rfl)) ?_
 obtain ⟨vA, wA, xA, yA, zA, aB, bB, cB, dB, eB⟩ := cf5_ aA.out
 try go_wp2
 go_loopg [3, 30] k (fun kq v3 aD w' => ∃ (gA : ByteArray) (bA : Int), v3 = .string gA ∧ aD = .int .i64 bA ∧ Aside0 (impl_batchBytes.l0 kq gA l0_4 (l0_4.length : Int) bA = some r) ∧ Aside0 (kq ≤ k) ∧ Aside0 (w'.heap[iA]? = some (.cells #[.int .i64 a0_0, .int .i64 a0_1, .int .i64 a0_2, .int .i64 a0_3, (.slice A0_4 l0_4.length c0_4)] 44 (0, 0))) ∧ Aside0 (Below w.heap.size w w'))
 case atStart => exact ⟨((((cA ++ dA) ++ fA) ++ hA) ++ jA), (0), sr_, sr_, H', ⟨Nat.le_refl _⟩, ⟨kb_ aA.out⟩, ⟨hs_ eA.out⟩⟩
 case round =>
  clear H'
  try clear c4
  try clear kA
  try clear xB
  try clear yB
  try clear c6
  try clear nA
  try clear zB
  try clear aC
  try clear c8
  try clear sA
  try clear cC
  try clear dC
  try clear kB
  try clear lA
  try clear mB
  try clear nB
  try clear vA
  try clear wA
  try clear xA
  try clear yA
  try clear zA
  try clear aB
  try clear bB
  try clear cB
  try clear dB
  try clear eB
  obtain ⟨gA, bA, rfl, rfl, HA, iC, aA, HB⟩ := hrel
  cases gk with
  | zero => exact absurd HA.out (by simp [impl_batchBytes.l0])
  | succ k1 =>
   have H := HA.out
   clear HA
   simp only [impl_batchBytes.l0] at H
   replace H := ite_ H
   obtain ⟨pB, H⟩ | ⟨pB, H⟩ := H
   ·have mA := decide_eq_true pB
    clear pB
    replace H := ifs_ H
    obtain ⟨jC, H⟩ := H
    have pA := decide_eq_true jC
    clear jC
    replace H := ifs_ H
    obtain ⟨kC, H⟩ := H
    have qA := decide_eq_true kC
    clear kC
    replace H := bnd_ H
    obtain ⟨tA, bD, H⟩ := H
    replace H := ifs_ H
    obtain ⟨vB, H⟩ := H
    have uA := eq_true vB
    have lC := decide_eq_true vB
    try have mC : (9223372036854775807 < tA.size + (rdOf ByteArray.empty l0_4 bA).size) = False := eq_false (Nat.not_lt.2 vB)
    try have c23w := cw_ vB
    (try rw [c23w] at kA)
    (try rw [c23w] at nA)
    (try rw [c23w] at sA)
    (try rw [c23w] at lA)
    (try rw [c23w] at mA)
    (try rw [c23w] at pA)
    (try rw [c23w] at qA)
    replace H := ifs_ H
    obtain ⟨qB, H⟩ := H
    have gB := eq_true qB
    have nC := decide_eq_true qB
    try have oC : (9223372036854775807 < gA.size + (tA ++ (rdOf ByteArray.empty l0_4 bA)).size) = False := eq_false (Nat.not_lt.2 qB)
    try have rB : gA.size + (tA.size + (rdOf ByteArray.empty l0_4 bA).size) ≤ 9223372036854775807 := by (have h_ := qB; simp only [ByteArray.size_append] at h_; exact h_)
    try have pC : (9223372036854775807 < gA.size + (tA.size + (rdOf ByteArray.empty l0_4 bA).size)) = False := eq_false (Nat.not_lt.2 rB)
    try have c24w := cw_ qB
    (try rw [c24w] at kA)
    (try rw [c24w] at nA)
    (try rw [c24w] at sA)
    (try rw [c24w] at lA)
    (try rw [c24w] at mA)
    (try rw [c24w] at pA)
    (try rw [c24w] at qA)
    (try rw [c24w] at uA)
    have H' := Aside0.mk H
    clear H
    have hB : 0 ≤ (bA : Int) := oa_
    have iB : bA < (l0_4.length : Int) := oa_
    obtain ⟨qC, fC, rA⟩ := Kd.at_string lB.out bA hB iB
    cases fC
    replace rA := pc_ HB.out rA
    replace hB := eq_true hB
    replace iB := eq_true iB
    go_wp2_with (first | ((with_reducible refine gate_callee (f := 89) rfl ?_); refine gl_ 37 Try.func89 #[.int .i64 ((rdOf ByteArray.empty l0_4 bA).size : Int), .int .i64 1] rfl ma_ ?_; (with_reducible refine (impl_put.calls k1 ((rdOf ByteArray.empty l0_4 bA).size : Int) 1 tA _ bD.out).mono ?_); rintro e lD ⟨rfl, hb⟩; refine ⟨_, rfl, ?_⟩; replace aA := bK_ aA hb; replace HB := nc_ eA hb; (try clear hb); (try clear hb2); (try clear hk); (try clear hi)))
    go_roundg k1
    case measure => have := iC.out; omega
    case rel => exact ⟨(gA ++ (tA ++ (rdOf ByteArray.empty l0_4 bA))), (wrap64 (bA + 1)), sr_, sr_, H', ⟨by have := iC.out; omega⟩, ⟨kb_ aA.out⟩, ⟨hs_ eA.out⟩⟩
   have mA := decide_eq_false pB
   clear pB
   replace H := bnd_ H
   obtain ⟨oA, cD, H⟩ := H
   replace H := ifs_ H
   obtain ⟨wB, H⟩ := H
   have sB := eq_true wB
   have rC := decide_eq_true wB
   try have sC : (9223372036854775807 < oA.size + gA.size) = False := eq_false (Nat.not_lt.2 wB)
   try have c27w := cw_ wB
   (try rw [c27w] at kA)
   (try rw [c27w] at nA)
   (try rw [c27w] at sA)
   (try rw [c27w] at lA)
   (try rw [c27w] at mA)
   (try rw [c27w] at pA)
   (try rw [c27w] at qA)
   (try rw [c27w] at uA)
   (try rw [c27w] at gB)
   replace H := bnd_ H
   obtain ⟨jB, dD, H⟩ := H
   replace H := bnd_ H
   obtain ⟨fB, eD, H⟩ := H
   replace H := ifs_ H
   obtain ⟨tB, H⟩ := H
   have tC := eq_true tB
   have uC := decide_eq_true tB
   try have vC : (9223372036854775807 < (oA ++ gA).size + fB.size) = False := eq_false (Nat.not_lt.2 tB)
   try have uB : oA.size + gA.size + fB.size ≤ 9223372036854775807 := by (have h_ := tB; simp only [ByteArray.size_append] at h_; exact h_)
   try have wC : (9223372036854775807 < oA.size + gA.size + fB.size) = False := eq_false (Nat.not_lt.2 uB)
   try have c30w := cw_ tB
   (try rw [c30w] at kA)
   (try rw [c30w] at nA)
   (try rw [c30w] at sA)
   (try rw [c30w] at lA)
   (try rw [c30w] at mA)
   (try rw [c30w] at pA)
   (try rw [c30w] at qA)
   (try rw [c30w] at uA)
   (try rw [c30w] at gB)
   (try rw [c30w] at sB)
   obtain rfl := Option.some.inj H
   go_wp2_with (first | ((with_reducible refine gate_callee (f := 89) rfl ?_); refine gl_ 45 Try.func89 #[.int .i64 (wrap64 ((gA.size : Int) + 2)), .int .i64 2] rfl ma_ ?_; (with_reducible refine (impl_put.calls k1 (wrap64 ((gA.size : Int) + 2)) 2 oA _ cD.out).mono ?_); rintro e mD ⟨rfl, hb⟩; refine ⟨_, rfl, ?_⟩; replace aA := bK_ aA hb; replace HB := nc_ eA hb; (try clear hb); (try clear hb2); (try clear hk); (try clear hi)) | ((with_reducible refine gate_callee (f := 90) rfl ?_); refine gl_ 50 Try.func90 #[.string (oA ++ gA)] rfl ma_ ?_; (with_reducible refine (impl_sumOf.calls k1 (oA ++ gA) jB _ dD.out).mono ?_); rintro e w' ⟨rfl, ⟨nd, rfl⟩⟩; refine ⟨_, rfl, ?_⟩) | ((with_reducible refine gate_callee (f := 89) rfl ?_); refine gl_ 51 Try.func89 #[.int .i64 jB, .int .i64 2] rfl ma_ ?_; (with_reducible refine (impl_put.calls k1 jB 2 fB _ eD.out).mono ?_); rintro e nD ⟨rfl, hb⟩; refine ⟨_, rfl, ?_⟩; replace aA := bK_ aA hb; replace HB := nc_ eA hb; (try clear hb); (try clear hb2); (try clear hk); (try clear hi)))
   go_ret
   exact ⟨er_, hs_ eA.out⟩

/-! ### impl_get: function 98 -/
def impl_get.l0 : Nat → ByteArray → Int → Int → Int → Option (Int)
 | 0, _, _, _, _ => none
 | k + 1, x0, x3, x6, x7 => if x7 < x6 then (if 0 ≤ x7 then (if x7 < (x0.size : Int) then (impl_get.l0 k x0 (Go.bits .or .i64 (wrap64 (x3 * 256)) (wrap64 (bt x0 x7))) x6 (wrap64 (x7 + 1))) else (none)) else (none)) else (some x3)
def impl_get.f (k : Nat) (a0 : ByteArray) : Option (Int) := impl_get.l0 k a0 0 (a0.size : Int) 0
theorem impl_get.mono_l : ∀ k, (∀ y0 y1 y2 y3, LeO (impl_get.l0 k y0 y1 y2 y3) (impl_get.l0 (k + 1) y0 y1 y2 y3))
 | 0 => fun _ _ _ _ r h => by simp [impl_get.l0] at h
 | k + 1 => by
  have ih0 := impl_get.mono_l k
  ·intro y0 y1 y2 y3
   unfold impl_get.l0
   repeat' first
   | (with_reducible first | apply ih0 | exact LeO.refl _ | exact LeO.none _ | refine LeO.ite ?_ ?_ | refine LeO.bind ?_ (fun _ => ?_))
theorem impl_get.mono : ∀ a0 k, LeO (impl_get.f k a0) (impl_get.f (k + 1) a0) := by
 intro a0 k
 have ih0 := impl_get.mono_l k
 unfold impl_get.f
 repeat' first
   | (with_reducible first | apply ih0 | exact LeO.refl _ | exact LeO.none _ | refine LeO.ite ?_ ?_ | refine LeO.bind ?_ (fun _ => ?_))
set_option maxHeartbeats 8000000 in
set_option maxRecDepth 100000 in
theorem impl_get.calls (k : Nat) (a0 : ByteArray) (r : Int) (w : World) (h : impl_get.f k a0 = some r) :
  Calls Try.prog 98 #[.string a0] w fun e w' => e = .returned (.int .i64 r) ∧ Drawn0 w w' := by
 have H : (impl_get.l0 k a0 0 (a0.size : Int) 0) = some r := h
 clear h
 have H' := Aside0.mk H
 clear H
 go_enter Try.func98, Try.ntmps98
 go_wp2
 go_loopg [3, 7] k (fun kq v3 v7 w' => ∃ (bA : Int) (aA : Int), v3 = .int .i64 bA ∧ v7 = .int .i64 aA ∧ Aside0 (impl_get.l0 kq a0 bA (a0.size : Int) aA = some r) ∧ Aside0 (kq ≤ k) ∧ Drawn0 w w')
 case atStart => exact ⟨(0), (0), sr_, sr_, H', ⟨Nat.le_refl _⟩, dr_⟩
 case round =>
  clear H'
  obtain ⟨bA, aA, rfl, rfl, HA, dA, ⟨m1, rfl⟩⟩ := hrel
  cases gk with
  | zero => exact absurd HA.out (by simp [impl_get.l0])
  | succ k1 =>
   have H := HA.out
   clear HA
   simp only [impl_get.l0] at H
   replace H := ite_ H
   obtain ⟨c2, H⟩ | ⟨c2, H⟩ := H
   rotate_left
   ·have cA := decide_eq_false c2
    clear c2
    obtain rfl := Option.some.inj H
    go_wp2
    go_ret
    exact ⟨by first | rfl | (simp; done) | (simp [*]; done), dr_⟩
   have cA := decide_eq_true c2
   clear c2
   replace H := ifs_ H
   obtain ⟨c3, H⟩ := H
   have eA := decide_eq_true c3
   clear c3
   replace H := ifs_ H
   obtain ⟨c4, H⟩ := H
   have fA := decide_eq_true c4
   clear c4
   have H' := Aside0.mk H
   clear H
   have p5 : 0 ≤ (aA : Int) := oa_
   have q5 : aA < (a0.size : Int) := oa_
   have gA := bt_at a0 aA
   replace p5 := eq_true p5
   replace q5 := eq_true q5
   go_wp2
   go_roundg k1
   case measure => have := dA.out; omega
   case rel => exact ⟨(Go.bits .or .i64 (wrap64 (bA * 256)) (wrap64 (bt a0 aA))), (wrap64 (aA + 1)), sr_, sr_, H', ⟨by have := dA.out; omega⟩, dr_⟩

/-! ### stringslite_HasPrefix: function 103 -/
def stringslite_HasPrefix.f (a0 : ByteArray) (a1 : ByteArray) : Option (Bool) := if (a0.size : Int) ≥ (a1.size : Int) then (if 0 ≤ (a1.size : Int) then (if (a1.size : Int) ≤ (a0.size : Int) then (some ((a0.extract 0 ((a1.size : Int) : Int).toNat).toList == a1.toList)) else (none)) else (none)) else (some false)
set_option maxHeartbeats 8000000 in
set_option maxRecDepth 100000 in
theorem stringslite_HasPrefix.calls (a0 : ByteArray) (a1 : ByteArray) (r : Bool) (w : World) (h : stringslite_HasPrefix.f a0 a1 = some r) :
  Calls Try.prog 103 #[.string a0, .string a1] w fun e w' => e = .returned (.bool r) ∧ Drawn0 w w' := by
 have H : (if (a0.size : Int) ≥ (a1.size : Int) then (if 0 ≤ (a1.size : Int) then (if (a1.size : Int) ≤ (a0.size : Int) then (some ((a0.extract 0 ((a1.size : Int) : Int).toNat).toList == a1.toList)) else (none)) else (none)) else (some false)) = some r := h
 clear h
 replace H := ite_ H
 obtain ⟨c3, H⟩ | ⟨c3, H⟩ := H
 rotate_left
 ·have aA := dne_ c3
  have bA : decide (a1.size ≤ a0.size) = false := decide_eq_false (fun h => c3 (Int.ofNat_le.mpr h))
  clear c3
  obtain rfl := Option.some.inj H
  go_enter Try.func103, Try.ntmps103
  go_wp2
  go_ret
  exact ⟨by first | rfl | (simp; done) | (simp [*]; done), dr_⟩
 have aA := dge_ c3
 have bA : decide (a1.size ≤ a0.size) = true := decide_eq_true (Int.ofNat_le.mp c3)
 clear c3
 replace H := ifs_ H
 obtain ⟨c4, H⟩ := H
 have cA := eq_true c4
 have dA := decide_eq_true c4
 clear c4
 replace H := ifs_ H
 obtain ⟨c5, H⟩ := H
 have eA := eq_true c5
 have fA := decide_eq_true c5
 clear c5
 obtain rfl := Option.some.inj H
 go_enter Try.func103, Try.ntmps103
 go_wp2
 go_ret
 exact ⟨by first | rfl | (simp; done) | (simp [*]; done), dr_⟩

/-! ### strings_HasPrefix: function 99 -/
def strings_HasPrefix.f (a0 : ByteArray) (a1 : ByteArray) : Option (Bool) := (stringslite_HasPrefix.f a0 a1).bind fun t130 => (some t130)
set_option maxHeartbeats 8000000 in
set_option maxRecDepth 100000 in
theorem strings_HasPrefix.calls (a0 : ByteArray) (a1 : ByteArray) (r : Bool) (w : World) (h : strings_HasPrefix.f a0 a1 = some r) :
  Calls Try.prog 99 #[.string a0, .string a1] w fun e w' => e = .returned (.bool r) ∧ Drawn0 w w' := by
 have H : ((stringslite_HasPrefix.f a0 a1).bind fun aA => (some aA)) = some r := h
 clear h
 replace H := bnd_ H
 obtain ⟨aA, A3, H⟩ := H
 obtain rfl := Option.some.inj H
 go_enter Try.func99, Try.ntmps99
 go_wp2_with (first | ((with_reducible refine gate_callee (f := 103) rfl ?_); refine gl_ 7 Try.func103 #[.string a0, .string a1] rfl ma_ ?_; (with_reducible refine (stringslite_HasPrefix.calls a0 a1 aA _ A3.out).mono ?_); rintro e w' ⟨rfl, ⟨nd, rfl⟩⟩; refine ⟨_, rfl, ?_⟩))
 go_ret
 exact ⟨by first | rfl | (simp; done) | (simp [*]; done), dr_⟩
end Go.Proofs.Ytpdpipfkllfhmaa.QFnDisks
