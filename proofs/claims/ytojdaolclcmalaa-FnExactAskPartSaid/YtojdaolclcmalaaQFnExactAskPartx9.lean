/- Functions that one statement reaches: of each a plain function, and the proof that calls come to it. Conditions: those that each contract names. Written by a program of this repository. -/
import Derived.Test.YtojdaolclcmalaaVAskParta
import Derived.Test.YtojdaolclcmalaaQFnExactAskPartx1
import Derived.Test.YtojdaolclcmalaaQFnExactAskPartx8
namespace Go.Proofs.Ytojdaolclcmalaa.QFnExactAskPart
open Go.RowKit Go.Proofs.YtojdaolclcmalaaW.PrintWords Go.Proofs.YtojdaolclcmalaaW.PrintLast Go.Proofs.YtojdaolclcmalaaW.PrintMore
attribute [local go_sem] max2_int min2_int max_two min_two max_three min_three max_four min_four Go.Proofs.YtojdaolclcmalaaW.PrintMore2.isSome_setCell   -- for this text's walks alone
set_option linter.unusedVariables false
set_option linter.unusedSimpArgs false

/-! ### spec_l5Code: function 83 -/
mutual
def spec_l5Code.j0 : Nat → Int → Bool → List (S81) → List (S78) → Int → Int → Int → Int → List ByteArray → Option (Int × Int)
 | 0, _, _, _, _, _, _, _, _, _ => none
 | k + 1, x6, x60, x244000, x244001, x244002, x245000, x245001, x245002, x245003 => if x60 = true then (some (4, 0)) else (if x6 < 0 then (spec_l5Code.j1 k x6 true x244000 x244001 x244002 x245000 x245001 x245002 x245003) else (if 0 ≤ x6 then (if x6 < (x244000.length : Int) then (spec_l5Code.j1 k x6 (decide (((rd_T81 x244000 x6).f1) < x245001)) x244000 x244001 x244002 x245000 x245001 x245002 x245003) else (none)) else (none)))
def spec_l5Code.j1 : Nat → Int → Bool → List (S81) → List (S78) → Int → Int → Int → Int → List ByteArray → Option (Int × Int)
 | 0, _, _, _, _, _, _, _, _, _ => none
 | k + 1, x6, x74, x244000, x244001, x244002, x245000, x245001, x245002, x245003 => if x74 = true then (if x245002 = 0 then (if x6 < 0 then (if (x244000.length : Int) = 4 then (some (5, 0)) else (if (x244001.length : Int) = 60 then (some (5, 0)) else (if (wrap64 ((wrap64 (x245002 + (x245003.length : Int))) - 1)) > 65535 then (some (5, 0)) else (some (0, x244002))))) else (if (x244001.length : Int) = 60 then (some (5, 0)) else (if (wrap64 ((wrap64 (x245002 + (x245003.length : Int))) - 1)) > 65535 then (some (5, 0)) else (some (0, x244002))))) else (some (3, 0))) else (if 0 ≤ x6 then (if x6 < (x244000.length : Int) then (spec_l5Code.l0 k x6 ((rd_T81 x244000 x6).f3) (((rd_T81 x244000 x6).f3).length : Int) 0 x244000 x244001 x244002 x245000 x245001 x245002 x245003 ((rd_T81 x244000 x6).f0) ((rd_T81 x244000 x6).f1) ((rd_T81 x244000 x6).f2) ((rd_T81 x244000 x6).f3)) else (none)) else (none))
def spec_l5Code.l0 : Nat → Int → List (S112) → Int → Int → List (S81) → List (S78) → Int → Int → Int → Int → List ByteArray → Int → Int → Int → List (S112) → Option (Int × Int)
 | 0, _, _, _, _, _, _, _, _, _, _, _, _, _, _, _ => none
 | k + 1, x6, x21, x22, x23, x244000, x244001, x244002, x245000, x245001, x245002, x245003, x250000, x250001, x250002, x250003 => if x23 < x22 then (if 0 ≤ x23 then (if x23 < (x21.length : Int) then (if x245002 = x250002 then (spec_l5Code.l0 k x6 x21 x22 (wrap64 (x23 + 1)) x244000 x244001 x244002 x245000 x245001 x245002 x245003 x250000 x250001 x250002 x250003) else (if ((rd_T112 x21 x23).f0) = x245002 then (if ((rd_T112 x21 x23).f1) = (x245003.length : Int) then (some (1, (rd_T112 x21 x23).f2)) else (spec_l5Code.l0 k x6 x21 x22 (wrap64 (x23 + 1)) x244000 x244001 x244002 x245000 x245001 x245002 x245003 x250000 x250001 x250002 x250003)) else (spec_l5Code.l0 k x6 x21 x22 (wrap64 (x23 + 1)) x244000 x244001 x244002 x245000 x245001 x245002 x245003 x250000 x250001 x250002 x250003))) else (none)) else (none)) else (if x245002 < x250002 then (some (2, 0)) else (if x245002 > x250002 then (some (3, 0)) else (if x6 < 0 then (if (x244000.length : Int) = 4 then (some (5, 0)) else (if (x244001.length : Int) = 60 then (some (5, 0)) else (if (wrap64 ((wrap64 (x245002 + (x245003.length : Int))) - 1)) > 65535 then (some (5, 0)) else (some (0, x244002))))) else (if (x244001.length : Int) = 60 then (some (5, 0)) else (if (wrap64 ((wrap64 (x245002 + (x245003.length : Int))) - 1)) > 65535 then (some (5, 0)) else (some (0, x244002)))))))
end
def spec_l5Code.f (k : Nat) (l0_0 : List (S81)) (l0_1 : List (S78)) (a0_2 : Int) (a1_0 : Int) (a1_1 : Int) (a1_2 : Int) (l1_3 : List ByteArray) : Option (Int × Int) := (spec_l5At.f k l0_0 a1_0).bind fun t245 => (if t245 ≥ 0 then (if 0 ≤ t245 then (if t245 < (l0_0.length : Int) then (spec_l5Code.j0 k t245 (decide (((rd_T81 l0_0 t245).f1) > a1_1)) l0_0 l0_1 a0_2 a1_0 a1_1 a1_2 l1_3) else (none)) else (none)) else (spec_l5Code.j0 k t245 false l0_0 l0_1 a0_2 a1_0 a1_1 a1_2 l1_3))
theorem spec_l5Code.mono_l : ∀ k, (∀ y0 y1 y2 y3 y4 y5 y6 y7 y8, LeO (spec_l5Code.j0 k y0 y1 y2 y3 y4 y5 y6 y7 y8) (spec_l5Code.j0 (k + 1) y0 y1 y2 y3 y4 y5 y6 y7 y8)) ∧ (∀ y0 y1 y2 y3 y4 y5 y6 y7 y8, LeO (spec_l5Code.j1 k y0 y1 y2 y3 y4 y5 y6 y7 y8) (spec_l5Code.j1 (k + 1) y0 y1 y2 y3 y4 y5 y6 y7 y8)) ∧ (∀ y0 y1 y2 y3 y4 y5 y6 y7 y8 y9 y10 y11 y12 y13 y14, LeO (spec_l5Code.l0 k y0 y1 y2 y3 y4 y5 y6 y7 y8 y9 y10 y11 y12 y13 y14) (spec_l5Code.l0 (k + 1) y0 y1 y2 y3 y4 y5 y6 y7 y8 y9 y10 y11 y12 y13 y14))
 | 0 => ⟨fun _ _ _ _ _ _ _ _ _ r h => by simp [spec_l5Code.j0] at h, fun _ _ _ _ _ _ _ _ _ r h => by simp [spec_l5Code.j1] at h, fun _ _ _ _ _ _ _ _ _ _ _ _ _ _ _ r h => by simp [spec_l5Code.l0] at h⟩
 | k + 1 => by
  obtain ⟨ih0, ih1, ih2⟩ := spec_l5Code.mono_l k
  refine ⟨?_, ?_, ?_⟩
  all_goals intros; first | unfold spec_l5Code.j0 | unfold spec_l5Code.j1 | unfold spec_l5Code.l0
  all_goals repeat' first | (with_reducible first | apply ih0 | apply ih1 | apply ih2 | apply spec_l5At.mono | exact LeO.refl _ | exact LeO.none _ | refine LeO.ite ?_ ?_ | refine LeO.bind ?_ (fun _ => ?_))
theorem spec_l5Code.mono : ∀ a0 a1 a2 a3 a4 a5 a6 k, LeO (spec_l5Code.f k a0 a1 a2 a3 a4 a5 a6) (spec_l5Code.f (k + 1) a0 a1 a2 a3 a4 a5 a6) := by
 intro a0 a1 a2 a3 a4 a5 a6 k
 obtain ⟨ih0, ih1, ih2⟩ := spec_l5Code.mono_l k
 unfold spec_l5Code.f
 repeat' first
   | (with_reducible first | apply ih0 | apply ih1 | apply ih2 | apply spec_l5At.mono | exact LeO.refl _ | exact LeO.none _ | refine LeO.ite ?_ ?_ | refine LeO.bind ?_ (fun _ => ?_))
set_option maxHeartbeats 8000000 in
set_option maxRecDepth 100000 in
theorem spec_l5Code.calls (k : Nat) (A0_0 : Option Addr) (c0_0 : Nat) (l0_0 : List (S81)) (A0_1 : Option Addr) (c0_1 : Nat) (l0_1 : List (S78)) (a0_2 : Int) (a1_0 : Int) (a1_1 : Int) (a1_2 : Int) (A1_3 : Option Addr) (c1_3 : Nat) (l1_3 : List ByteArray) (r1 : Int) (r2 : Int) (w : World) (hr0_0 : Kd.C k81 w A0_0 l0_0.length l0_0) (hc0_0 : l0_0.length ≤ c0_0) (hr0_1 : Kd.C k78 w A0_1 l0_1.length l0_1) (hc0_1 : l0_1.length ≤ c0_1) (hr1_3 : Kd.C Kd.string w A1_3 l1_3.length l1_3) (hc1_3 : l1_3.length ≤ c1_3) (h : spec_l5Code.f k l0_0 l0_1 a0_2 a1_0 a1_1 a1_2 l1_3 = some (r1, r2)) :
  Calls Try.prog 83 #[.agg #[.slice A0_0 l0_0.length c0_0, .slice A0_1 l0_1.length c0_1, .int .i64 a0_2], .agg #[.int .i64 a1_0, .int .i64 a1_1, .int .i64 a1_2, .slice A1_3 l1_3.length c1_3]] w fun e w' => e = .returned (.tuple #[.int .i64 r1, .int .i64 r2]) ∧ Below w.heap.size w w' := by
 have hu33 := Try.underlying33
 have hu57 := Try.underlying57
 have hu81 := Try.underlying81
 have hu112 := Try.underlying112
 have rB := am_ hr0_0
 have mG := am_ hc0_0
 clear hr0_0 hc0_0
 have Ah := am_ hr0_1
 have Ai := am_ hc0_1
 clear hr0_1 hc0_1
 have Aj := am_ hr1_3
 have Ak := am_ hc1_3
 clear hr1_3 hc1_3
 have HB := am_ (Below.refl w.heap.size w)
 have H : ((spec_l5At.f k l0_0 a1_0).bind fun sA => (if sA ≥ 0 then (if 0 ≤ sA then (if sA < (l0_0.length : Int) then (spec_l5Code.j0 k sA (decide (((rd_T81 l0_0 sA).f1) > a1_1)) l0_0 l0_1 a0_2 a1_0 a1_1 a1_2 l1_3) else (none)) else (none)) else (spec_l5Code.j0 k sA false l0_0 l0_1 a0_2 a1_0 a1_1 a1_2 l1_3))) = some (r1, r2) := h
 clear h
 replace H := bnd_ H
 obtain ⟨sA, A3, H⟩ := H
 have vX := am_ H
 clear H
 go_enter Try.func83, Try.ntmps83
 go_upto_region 13 with (first | ((with_reducible refine gate_dst (N := 2) rfl ?_); (try (refine gate_guard (by rfl) ?_; dsimp only)); refine bq_ (N := 2) #[.slice A0_0 l0_0.length c0_0, .slice A0_1 l0_1.length c0_1, .int .i64 a0_2] 33 ?_; intro eC hg w5 bA hb; have fA := ge_ hg; replace HB := nb_ hb; clear hb hg) | ((with_reducible refine gate_dst (N := 3) rfl ?_); (try (refine gate_guard (by rfl) ?_; dsimp only)); refine bq_ (N := 3) #[.int .i64 a1_0, .int .i64 a1_1, .int .i64 a1_2, .slice A1_3 l1_3.length c1_3] 57 ?_; intro fC hg w6 aA hb; have iA := ge1_ hg fA; replace HB := nc_ fA hb; have cA := nl_ bA hg; have dA := ng_ bA hg; replace bA := bK_ bA hb; clear hb hg; have eK := cA.out; have fK := dA.out; obtain ⟨dB, eB, fB, gB, hB, iB⟩ := cf3_ bA.out; obtain ⟨jB, kB, lB, mB, nB, oB, pB, qB⟩ := cf4_ aA.out) | (go_at_call 48; (with_reducible refine (spec_l5At.calls k _ _ l0_0 a1_0 sA _ ?side1 ?side2 A3.out).mono ?_); (case side1 => exact cs_ ((Kd.C_below rB.out HB.out))); (case side2 => exact mG.out); rintro e Al ⟨rfl, hb⟩; replace bA := bK_ bA hb; replace aA := bK_ aA hb; replace HB := nc2_ fA iA hb; (try clear hb); (try clear hb2); (try clear hk); (try clear hi)))
 repeat (go_quiet (first | ((with_reducible refine gate_dst (N := 2) rfl ?_); (try (refine gate_guard (by rfl) ?_; dsimp only)); refine bq_ (N := 2) #[.slice A0_0 l0_0.length c0_0, .slice A0_1 l0_1.length c0_1, .int .i64 a0_2] 33 ?_; intro eC hg w5 bA hb; have fA := ge_ hg; replace HB := nb_ hb; clear hb hg) | ((with_reducible refine gate_dst (N := 3) rfl ?_); (try (refine gate_guard (by rfl) ?_; dsimp only)); refine bq_ (N := 3) #[.int .i64 a1_0, .int .i64 a1_1, .int .i64 a1_2, .slice A1_3 l1_3.length c1_3] 57 ?_; intro fC hg w6 aA hb; have iA := ge1_ hg fA; replace HB := nc_ fA hb; have cA := nl_ bA hg; have dA := ng_ bA hg; replace bA := bK_ bA hb; clear hb hg; have eK := cA.out; have fK := dA.out; obtain ⟨dB, eB, fB, gB, hB, iB⟩ := cf3_ bA.out; obtain ⟨jB, kB, lB, mB, nB, oB, pB, qB⟩ := cf4_ aA.out) | (go_at_call 48; (with_reducible refine (spec_l5At.calls k _ _ l0_0 a1_0 sA _ ?side1 ?side2 A3.out).mono ?_); (case side1 => exact cs_ ((Kd.C_below rB.out HB.out))); (case side2 => exact mG.out); rintro e Al ⟨rfl, hb⟩; replace bA := bK_ bA hb; replace aA := bK_ aA hb; replace HB := nc2_ fA iA hb; (try clear hb); (try clear hb2); (try clear hk); (try clear hi))); go_upto_region 13 with (first | ((with_reducible refine gate_dst (N := 2) rfl ?_); (try (refine gate_guard (by rfl) ?_; dsimp only)); refine bq_ (N := 2) #[.slice A0_0 l0_0.length c0_0, .slice A0_1 l0_1.length c0_1, .int .i64 a0_2] 33 ?_; intro eC hg w5 bA hb; have fA := ge_ hg; replace HB := nb_ hb; clear hb hg) | ((with_reducible refine gate_dst (N := 3) rfl ?_); (try (refine gate_guard (by rfl) ?_; dsimp only)); refine bq_ (N := 3) #[.int .i64 a1_0, .int .i64 a1_1, .int .i64 a1_2, .slice A1_3 l1_3.length c1_3] 57 ?_; intro fC hg w6 aA hb; have iA := ge1_ hg fA; replace HB := nc_ fA hb; have cA := nl_ bA hg; have dA := ng_ bA hg; replace bA := bK_ bA hb; clear hb hg; have eK := cA.out; have fK := dA.out; obtain ⟨dB, eB, fB, gB, hB, iB⟩ := cf3_ bA.out; obtain ⟨jB, kB, lB, mB, nB, oB, pB, qB⟩ := cf4_ aA.out) | (go_at_call 48; (with_reducible refine (spec_l5At.calls k _ _ l0_0 a1_0 sA _ ?side1 ?side2 A3.out).mono ?_); (case side1 => exact cs_ ((Kd.C_below rB.out HB.out))); (case side2 => exact mG.out); rintro e Al ⟨rfl, hb⟩; replace bA := bK_ bA hb; replace aA := bK_ aA hb; replace HB := nc2_ fA iA hb; (try clear hb); (try clear hb2); (try clear hk); (try clear hi))))
 (try simp only [Act.put, List.setIfInBounds_toArray, List.set_cons_zero, List.set_cons_succ])
 go_cut [60] (fun Ca wc => ∃ (kq : Nat) (nG : Bool), Ca = .bool nG ∧ Aside0 (spec_l5Code.j0 kq sA nG l0_0 l0_1 a0_2 a1_0 a1_1 a1_2 l1_3 = some (r1, r2)) ∧ Aside0 (kq ≤ k) ∧ Aside0 (wc.heap[eC]? = some (.cells #[(.slice A0_0 l0_0.length c0_0), (.slice A0_1 l0_1.length c0_1), .int .i64 a0_2] 33 (0, 0))) ∧ Aside0 (wc.heap[fC]? = some (.cells #[.int .i64 a1_0, .int .i64 a1_1, .int .i64 a1_2, (.slice A1_3 l1_3.length c1_3)] 57 (0, 0))) ∧ Aside0 (Below w.heap.size w wc))
 case first =>
  have H := vX.out
  clear vX
  replace H := ite_ H
  obtain ⟨gK, H⟩ | ⟨gK, H⟩ := H
  rotate_left
  ·have gC := dne_ gK
   clear gK
   (first | rw [gC] | (simp only [i64_w, i32_w]; rw [gC]) | rw [c11b1] | skip)
   have H' := am_ H
   clear H
   go_wp2
   repeat (go_quiet (fail); try go_wp2)
   go_meet
   case rel => exact ⟨_, (false), sr_, H', ⟨by first | omega | exact Nat.le_refl _⟩, ⟨kb_ bA.out⟩, ⟨kb_ aA.out⟩, ⟨hs2_ fA.out iA.out⟩⟩
  have gC := dge_ gK
  clear gK
  (first | rw [gC] | (simp only [i64_w, i32_w]; rw [gC]) | rw [c11b1] | skip)
  replace H := ifs_ H
  obtain ⟨Am, H⟩ := H
  have An := decide_eq_true Am
  clear Am
  replace H := ifs_ H
  obtain ⟨Ao, H⟩ := H
  have Ap := decide_eq_true Ao
  clear Ao
  have H' := am_ H
  clear H
  have Aq := cA.out
  have Ar := dA.out
  obtain ⟨mS, nS, oS, pS, qS, rS⟩ := cf3_ bA.out
  have eJ : 0 ≤ (sA : Int) := oa_
  have fJ : sA < (l0_0.length : Int) := oa_
  obtain ⟨As, wX, xX, yX, gD, hD, iD, jD, kD, lD⟩ := at_T81 rB.out sA eJ fJ
  cases yX
  replace gD := pc_ HB.out gD
  replace hD := pc_ HB.out hD
  replace iD := pc_ HB.out iD
  replace jD := pc_ HB.out jD
  have sS := am_ lD
  have tS := am_ kD
  clear lD kD
  replace eJ := eq_true eJ
  replace fJ := eq_true fJ
  obtain ⟨uS, vS, wS, xS, yS, zS, aT, bT⟩ := cf4_ aA.out
  go_wp2
  repeat (go_quiet (fail); try go_wp2)
  go_meet
  case rel => exact ⟨_, (decide (((rd_T81 l0_0 sA).f1) > a1_1)), sr_, H', ⟨by first | omega | exact Nat.le_refl _⟩, ⟨kb_ bA.out⟩, ⟨kb_ aA.out⟩, ⟨hs2_ fA.out iA.out⟩⟩
 case rest =>
  clear vX
  try clear dB
  try clear eB
  try clear fB
  try clear jB
  try clear kB
  try clear lB
  try clear mB
  try clear gB
  try clear hB
  try clear iB
  try clear nB
  try clear oB
  try clear pB
  try clear qB
  obtain ⟨kq, nG, rfl, HA, pH, bA, aA, HB⟩ := hcut
  cases kq with
  | zero => exact absurd HA.out (by simp [spec_l5Code.j0])
  | succ kj3 =>
   have H := HA.out
   clear HA
   simp only [spec_l5Code.j0] at H
   replace H := ifb_ H
   obtain ⟨rfl, H⟩ | ⟨rfl, H⟩ := H
   ·simp only [Option.some.injEq, Prod.mk.injEq] at H
    obtain ⟨rfl, rfl⟩ := H
    go_wp2
    repeat (go_quiet (fail); try go_wp2)
    go_ret2
    exact ⟨er_, hs2_ fA.out iA.out⟩
   have gJ := am_ H
   clear H
   go_upto_region 15 with (fail)
   repeat (go_quiet (fail); go_upto_region 15 with (fail))
   go_cut [74] (fun Cb wc => ∃ (kq : Nat) (eD : Bool), Cb = .bool eD ∧ Aside0 (spec_l5Code.j1 kq sA eD l0_0 l0_1 a0_2 a1_0 a1_1 a1_2 l1_3 = some (r1, r2)) ∧ Aside0 (kq ≤ kj3) ∧ Aside0 (wc.heap[eC]? = some (.cells #[(.slice A0_0 l0_0.length c0_0), (.slice A0_1 l0_1.length c0_1), .int .i64 a0_2] 33 (0, 0))) ∧ Aside0 (wc.heap[fC]? = some (.cells #[.int .i64 a1_0, .int .i64 a1_1, .int .i64 a1_2, (.slice A1_3 l1_3.length c1_3)] 57 (0, 0))) ∧ Aside0 (Below w.heap.size w wc))
   case first =>
    have H := gJ.out
    clear gJ
    replace H := ite_ H
    obtain ⟨hK, H⟩ | ⟨hK, H⟩ := H
    ·have hC := decide_eq_true hK
     clear hK
     (first | rw [hC] | (simp only [i64_w, i32_w]; rw [hC]) | rw [c19b1] | skip)
     have H' := am_ H
     clear H
     go_wp2
     repeat (go_quiet (fail); try go_wp2)
     go_meet
     case rel => exact ⟨_, (true), sr_, H', ⟨by have := pH.out; first | omega | exact Nat.le_refl _⟩, ⟨kb_ bA.out⟩, ⟨kb_ aA.out⟩, ⟨hs2_ fA.out iA.out⟩⟩
    have hC := decide_eq_false hK
    clear hK
    (first | rw [hC] | (simp only [i64_w, i32_w]; rw [hC]) | rw [c19b1] | skip)
    replace H := ifs_ H
    obtain ⟨At, H⟩ := H
    have Au := decide_eq_true At
    clear At
    replace H := ifs_ H
    obtain ⟨Av, H⟩ := H
    have Aw := decide_eq_true Av
    clear Av
    have H' := am_ H
    clear H
    have Ax := cA.out
    have Ay := dA.out
    obtain ⟨cT, dT, eT, fT, gT, hT⟩ := cf3_ bA.out
    have hJ : 0 ≤ (sA : Int) := oa_
    have iJ : sA < (l0_0.length : Int) := oa_
    obtain ⟨Az, zX, aY, bY, mD, nD, oD, pD, qD, rD⟩ := at_T81 rB.out sA hJ iJ
    cases bY
    replace mD := pc_ HB.out mD
    replace nD := pc_ HB.out nD
    replace oD := pc_ HB.out oD
    replace pD := pc_ HB.out pD
    have iT := am_ rD
    have jT := am_ qD
    clear rD qD
    replace hJ := eq_true hJ
    replace iJ := eq_true iJ
    obtain ⟨kT, lT, mT, nT, oT, pT, qT, rT⟩ := cf4_ aA.out
    go_wp2
    repeat (go_quiet (fail); try go_wp2)
    go_meet
    case rel => exact ⟨_, (decide (((rd_T81 l0_0 sA).f1) < a1_1)), sr_, H', ⟨by have := pH.out; first | omega | exact Nat.le_refl _⟩, ⟨kb_ bA.out⟩, ⟨kb_ aA.out⟩, ⟨hs2_ fA.out iA.out⟩⟩
   case rest =>
    clear gJ
    try clear dB
    try clear eB
    try clear fB
    try clear jB
    try clear kB
    try clear lB
    try clear mB
    try clear gB
    try clear hB
    try clear iB
    try clear nB
    try clear oB
    try clear pB
    try clear qB
    obtain ⟨kq, eD, rfl, HA, iG, bA, aA, HB⟩ := hcut
    cases kq with
    | zero => exact absurd HA.out (by simp [spec_l5Code.j1])
    | succ kj17 =>
     have H := HA.out
     clear HA
     simp only [spec_l5Code.j1] at H
     replace H := ifb_ H
     obtain ⟨rfl, H⟩ | ⟨rfl, H⟩ := H
     ·replace H := ite_ H
      obtain ⟨wJ, H⟩ | ⟨wJ, H⟩ := H
      rotate_left
      ·have iK : (a1_2 == 0) = false := beq_eq_false_iff_ne.mpr wJ
       have jK : (a1_2 != 0) = true := bne_iff_ne.mpr wJ
       simp only [Option.some.injEq, Prod.mk.injEq] at H
       obtain ⟨rfl, rfl⟩ := H
       have Ba := dA.out
       have Bb := cA.out
       obtain ⟨sT, tT, uT, vT, wT, xT, yT, zT⟩ := cf4_ aA.out
       go_wp2
       repeat (go_quiet (fail); try go_wp2)
       go_ret2
       exact ⟨er_, hs2_ fA.out iA.out⟩
      have iK : (a1_2 == 0) = true := beq_iff_eq.mpr wJ
      have jK : (a1_2 != 0) = false := bne_eq_false_iff_eq.mpr wJ
      clear wJ
      replace H := ite_ H
      obtain ⟨kK, H⟩ | ⟨kK, H⟩ := H
      rotate_left
      ·have lK := decide_eq_false kK
       clear kK
       replace H := ite_ H
       obtain ⟨xJ, H⟩ | ⟨xJ, H⟩ := H
       ·have mK : ((l0_1.length : Int) == 60) = true := beq_iff_eq.mpr xJ
        have nK : ((l0_1.length : Int) != 60) = false := bne_eq_false_iff_eq.mpr xJ
        clear xJ
        simp only [Option.some.injEq, Prod.mk.injEq] at H
        obtain ⟨rfl, rfl⟩ := H
        have Bc := dA.out
        have Bd := cA.out
        obtain ⟨aU, bU, cU, dU, eU, fU, gU, hU⟩ := cf4_ aA.out
        obtain ⟨iU, jU, kU, lU, mU, nU⟩ := cf3_ bA.out
        go_wp2
        repeat (go_quiet (fail); try go_wp2)
        go_ret2
        exact ⟨er_, hs2_ fA.out iA.out⟩
       have mK : ((l0_1.length : Int) == 60) = false := beq_eq_false_iff_ne.mpr xJ
       have nK : ((l0_1.length : Int) != 60) = true := bne_iff_ne.mpr xJ
       replace H := ite_ H
       obtain ⟨oK, H⟩ | ⟨oK, H⟩ := H
       rotate_left
       ·have pK := dgf_ oK
        clear oK
        simp only [Option.some.injEq, Prod.mk.injEq] at H
        obtain ⟨rfl, rfl⟩ := H
        have Be := dA.out
        have Bf := cA.out
        obtain ⟨oU, pU, qU, rU, sU, tU, uU, vU⟩ := cf4_ aA.out
        obtain ⟨wU, xU, yU, zU, aV, bV⟩ := cf3_ bA.out
        go_wp2
        repeat (go_quiet (fail); try go_wp2)
        go_ret2
        exact ⟨er_, hs2_ fA.out iA.out⟩
       have pK := dgt_ oK
       clear oK
       simp only [Option.some.injEq, Prod.mk.injEq] at H
       obtain ⟨rfl, rfl⟩ := H
       have Bg := dA.out
       have Bh := cA.out
       obtain ⟨cV, dV, eV, fV, gV, hV, iV, jV⟩ := cf4_ aA.out
       obtain ⟨kV, lV, mV, nV, oV, pV⟩ := cf3_ bA.out
       go_wp2
       repeat (go_quiet (fail); try go_wp2)
       go_ret2
       exact ⟨er_, hs2_ fA.out iA.out⟩
      have lK := decide_eq_true kK
      clear kK
      replace H := ite_ H
      obtain ⟨yJ, H⟩ | ⟨yJ, H⟩ := H
      ·have qK : ((l0_0.length : Int) == 4) = true := beq_iff_eq.mpr yJ
       have rK : ((l0_0.length : Int) != 4) = false := bne_eq_false_iff_eq.mpr yJ
       clear yJ
       simp only [Option.some.injEq, Prod.mk.injEq] at H
       obtain ⟨rfl, rfl⟩ := H
       have Bi := dA.out
       have Bj := cA.out
       obtain ⟨qV, rV, sV, tV, uV, vV, wV, xV⟩ := cf4_ aA.out
       obtain ⟨yV, zV, aW, bW, cW, dW⟩ := cf3_ bA.out
       go_wp2
       repeat (go_quiet (fail); try go_wp2)
       go_ret2
       exact ⟨er_, hs2_ fA.out iA.out⟩
      have qK : ((l0_0.length : Int) == 4) = false := beq_eq_false_iff_ne.mpr yJ
      have rK : ((l0_0.length : Int) != 4) = true := bne_iff_ne.mpr yJ
      replace H := ite_ H
      obtain ⟨zJ, H⟩ | ⟨zJ, H⟩ := H
      ·have sK : ((l0_1.length : Int) == 60) = true := beq_iff_eq.mpr zJ
       have tK : ((l0_1.length : Int) != 60) = false := bne_eq_false_iff_eq.mpr zJ
       clear zJ
       simp only [Option.some.injEq, Prod.mk.injEq] at H
       obtain ⟨rfl, rfl⟩ := H
       have Bk := dA.out
       have Bl := cA.out
       obtain ⟨eW, fW, gW, hW, iW, jW, kW, lW⟩ := cf4_ aA.out
       obtain ⟨mW, nW, oW, pW, qW, rW⟩ := cf3_ bA.out
       go_wp2
       repeat (go_quiet (fail); try go_wp2)
       go_ret2
       exact ⟨er_, hs2_ fA.out iA.out⟩
      have sK : ((l0_1.length : Int) == 60) = false := beq_eq_false_iff_ne.mpr zJ
      have tK : ((l0_1.length : Int) != 60) = true := bne_iff_ne.mpr zJ
      replace H := ite_ H
      obtain ⟨uK, H⟩ | ⟨uK, H⟩ := H
      rotate_left
      ·have vK := dgf_ uK
       clear uK
       simp only [Option.some.injEq, Prod.mk.injEq] at H
       obtain ⟨rfl, rfl⟩ := H
       have Bm := dA.out
       have Bn := cA.out
       obtain ⟨sW, tW, uW, vW, wW, xW, yW, zW⟩ := cf4_ aA.out
       obtain ⟨aX, bX, cX, dX, eX, fX⟩ := cf3_ bA.out
       go_wp2
       repeat (go_quiet (fail); try go_wp2)
       go_ret2
       exact ⟨er_, hs2_ fA.out iA.out⟩
      have vK := dgt_ uK
      clear uK
      simp only [Option.some.injEq, Prod.mk.injEq] at H
      obtain ⟨rfl, rfl⟩ := H
      have Bo := dA.out
      have Bp := cA.out
      obtain ⟨gX, hX, iX, jX, kX, lX, mX, nX⟩ := cf4_ aA.out
      obtain ⟨oX, pX, qX, rX, sX, tX⟩ := cf3_ bA.out
      go_wp2
      repeat (go_quiet (fail); try go_wp2)
      go_ret2
      exact ⟨er_, hs2_ fA.out iA.out⟩
     replace H := ifs_ H
     obtain ⟨cY, H⟩ := H
     have wK := decide_eq_true cY
     clear cY
     replace H := ifs_ H
     obtain ⟨dY, H⟩ := H
     have xK := decide_eq_true dY
     clear dY
     have H' := am_ H
     clear H
     have Bq := cA.out
     have Br := dA.out
     obtain ⟨hH, iH, jH, kH, lH, mH⟩ := cf3_ bA.out
     have nH : 0 ≤ (sA : Int) := oa_
     have oH : sA < (l0_0.length : Int) := oa_
     obtain ⟨yK, jJ, kJ, eY, sB, tB, uB, vB, sD, tD⟩ := at_T81 rB.out sA nH oH
     cases eY
     replace sB := pc_ HB.out sB
     replace tB := pc_ HB.out tB
     replace uB := pc_ HB.out uB
     replace vB := pc_ HB.out vB
     have cB := am_ tD
     have uX := am_ sD
     clear tD sD
     replace nH := eq_true nH
     replace oH := eq_true oH
     go_wp2_with (first | ((with_reducible refine gate_dst (N := 7) rfl ?_); (try (refine gate_guard (by rfl) ?_; dsimp only)); refine bq_ (N := 7) #[.int .i64 0, .int .i64 0, .int .i64 0, .slice none 0 0] 81 ?_; intro oG hg Bs eA hb; have rA := ge2_ hg fA iA; replace HB := nc2_ fA iA hb; have gA := nl_ bA hg; have jA := ng_ bA hg; replace bA := bK_ bA hb; have hA := nl_ aA hg; have kA := ng_ aA hg; replace aA := bK_ aA hb; clear hb hg; have qH := jA.out; have rH := gA.out; have sH := kA.out; have tH := hA.out; obtain ⟨wB, xB, yB, zB, aC, bC, cC, dC⟩ := cf4_ eA.out))
     repeat (go_quiet (first | ((with_reducible refine gate_dst (N := 7) rfl ?_); (try (refine gate_guard (by rfl) ?_; dsimp only)); refine bq_ (N := 7) #[.int .i64 0, .int .i64 0, .int .i64 0, .slice none 0 0] 81 ?_; intro oG hg Bs eA hb; have rA := ge2_ hg fA iA; replace HB := nc2_ fA iA hb; have gA := nl_ bA hg; have jA := ng_ bA hg; replace bA := bK_ bA hb; have hA := nl_ aA hg; have kA := ng_ aA hg; replace aA := bK_ aA hb; clear hb hg; have qH := jA.out; have rH := gA.out; have sH := kA.out; have tH := hA.out; obtain ⟨wB, xB, yB, zB, aC, bC, cC, dC⟩ := cf4_ eA.out)); try go_wp2_with (first | ((with_reducible refine gate_dst (N := 7) rfl ?_); (try (refine gate_guard (by rfl) ?_; dsimp only)); refine bq_ (N := 7) #[.int .i64 0, .int .i64 0, .int .i64 0, .slice none 0 0] 81 ?_; intro oG hg Bs eA hb; have rA := ge2_ hg fA iA; replace HB := nc2_ fA iA hb; have gA := nl_ bA hg; have jA := ng_ bA hg; replace bA := bK_ bA hb; have hA := nl_ aA hg; have kA := ng_ aA hg; replace aA := bK_ aA hb; clear hb hg; have qH := jA.out; have rH := gA.out; have sH := kA.out; have tH := hA.out; obtain ⟨wB, xB, yB, zB, aC, bC, cC, dC⟩ := cf4_ eA.out)))
     go_loopg [23] kj17 (fun kq Cc w' => ∃ (tA : Int), Cc = .int .i64 tA ∧ Aside0 (spec_l5Code.l0 kq sA ((rd_T81 l0_0 sA).f3) (((rd_T81 l0_0 sA).f3).length : Int) tA l0_0 l0_1 a0_2 a1_0 a1_1 a1_2 l1_3 ((rd_T81 l0_0 sA).f0) ((rd_T81 l0_0 sA).f1) ((rd_T81 l0_0 sA).f2) ((rd_T81 l0_0 sA).f3) = some (r1, r2)) ∧ Aside0 (kq ≤ kj17) ∧ Aside0 (w'.heap[eC]? = some (.cells #[(.slice (some yK) l0_0.length c0_0), (.slice A0_1 l0_1.length c0_1), .int .i64 a0_2] 33 (0, 0))) ∧ Aside0 (w'.heap[fC]? = some (.cells #[.int .i64 a1_0, .int .i64 a1_1, .int .i64 a1_2, (.slice A1_3 l1_3.length c1_3)] 57 (0, 0))) ∧ Aside0 (w'.heap[oG]? = some (.cells #[.int .i64 ((rd_T81 l0_0 sA).f0), .int .i64 ((rd_T81 l0_0 sA).f1), .int .i64 ((rd_T81 l0_0 sA).f2), (.slice jJ ((rd_T81 l0_0 sA).f3).length kJ)] 81 (0, 0))) ∧ Aside0 (Below w.heap.size w w'))
     case atStart => exact ⟨(0), sr_, H', ⟨Nat.le_refl _⟩, ⟨uf_ bA gA.out⟩, ⟨uf_ aA hA.out⟩, ⟨up_ eA⟩, ⟨hs3_ fA.out iA.out rA.out⟩⟩
     case round =>
      clear H'
      try clear cY
      try clear wK
      try clear dY
      try clear xK
      try clear hH
      try clear iH
      try clear jH
      try clear wB
      try clear xB
      try clear yB
      try clear zB
      try clear dB
      try clear eB
      try clear fB
      try clear jB
      try clear kB
      try clear lB
      try clear mB
      try clear kH
      try clear lH
      try clear mH
      try clear aC
      try clear bC
      try clear cC
      try clear dC
      try clear gB
      try clear hB
      try clear iB
      try clear nB
      try clear oB
      try clear pB
      try clear qB
      try clear sB
      try clear tB
      try clear uB
      try clear vB
      try clear nH
      try clear oH
      obtain ⟨tA, rfl, HA, aK, bA, aA, eA, HB⟩ := hrel
      cases gk with
      | zero => exact absurd HA.out (by simp [spec_l5Code.l0])
      | succ k3 =>
       have H := HA.out
       clear HA
       simp only [spec_l5Code.l0] at H
       replace H := ite_ H
       obtain ⟨zK, H⟩ | ⟨zK, H⟩ := H
       rotate_left
       ·have aL := decide_eq_false zK
        clear zK
        replace H := ite_ H
        obtain ⟨pG, H⟩ | ⟨pG, H⟩ := H
        ·have lJ := decide_eq_true pG
         clear pG
         simp only [Option.some.injEq, Prod.mk.injEq] at H
         obtain ⟨rfl, rfl⟩ := H
         have fY := dA.out
         have gY := cA.out
         have hY := hA.out
         have iY := kA.out
         obtain ⟨bL, cL, dL, eL, fL, gL, hL, iL⟩ := cf4_ aA.out
         have jY := jA.out
         have kY := gA.out
         obtain ⟨jL, kL, lL, mL, nL, oL, pL, qL⟩ := cf4_ eA.out
         go_wp2
         repeat (go_quiet (fail); try go_wp2)
         go_ret2
         exact ⟨er_, hs3_ fA.out iA.out rA.out⟩
        have lJ := decide_eq_false pG
        clear pG
        replace H := ite_ H
        obtain ⟨qG, H⟩ | ⟨qG, H⟩ := H
        ·have mJ := dgt_ qG
         clear qG
         simp only [Option.some.injEq, Prod.mk.injEq] at H
         obtain ⟨rfl, rfl⟩ := H
         have lY := dA.out
         have mY := cA.out
         have nY := hA.out
         have oY := kA.out
         obtain ⟨rL, sL, tL, uL, vL, wL, xL, yL⟩ := cf4_ aA.out
         have pY := jA.out
         have qY := gA.out
         obtain ⟨zL, aM, bM, cM, dM, eM, fM, gM⟩ := cf4_ eA.out
         go_wp2
         repeat (go_quiet (fail); try go_wp2)
         go_ret2
         exact ⟨er_, hs3_ fA.out iA.out rA.out⟩
        have mJ := dgf_ qG
        clear qG
        replace H := ite_ H
        obtain ⟨rG, H⟩ | ⟨rG, H⟩ := H
        rotate_left
        ·have nJ := decide_eq_false rG
         clear rG
         replace H := ite_ H
         obtain ⟨jG, H⟩ | ⟨jG, H⟩ := H
         ·have oJ : ((l0_1.length : Int) == 60) = true := beq_iff_eq.mpr jG
          have pJ : ((l0_1.length : Int) != 60) = false := bne_eq_false_iff_eq.mpr jG
          clear jG
          simp only [Option.some.injEq, Prod.mk.injEq] at H
          obtain ⟨rfl, rfl⟩ := H
          have rY := dA.out
          have sY := cA.out
          have tY := hA.out
          have uY := kA.out
          obtain ⟨hM, iM, jM, kM, lM, mM, nM, oM⟩ := cf4_ aA.out
          have vY := jA.out
          have wY := gA.out
          obtain ⟨pM, qM, rM, sM, tM, uM, vM, wM⟩ := cf4_ eA.out
          obtain ⟨xM, yM, zM, aN, bN, cN⟩ := cf3_ bA.out
          go_wp2
          repeat (go_quiet (fail); try go_wp2)
          go_ret2
          exact ⟨er_, hs3_ fA.out iA.out rA.out⟩
         have oJ : ((l0_1.length : Int) == 60) = false := beq_eq_false_iff_ne.mpr jG
         have pJ : ((l0_1.length : Int) != 60) = true := bne_iff_ne.mpr jG
         replace H := ite_ H
         obtain ⟨sG, H⟩ | ⟨sG, H⟩ := H
         rotate_left
         ·have qJ := dgf_ sG
          clear sG
          simp only [Option.some.injEq, Prod.mk.injEq] at H
          obtain ⟨rfl, rfl⟩ := H
          have xY := dA.out
          have yY := cA.out
          have zY := hA.out
          have aZ := kA.out
          obtain ⟨dN, eN, fN, gN, hN, iN, jN, kN⟩ := cf4_ aA.out
          have bZ := jA.out
          have cZ := gA.out
          obtain ⟨lN, mN, nN, oN, pN, qN, rN, sN⟩ := cf4_ eA.out
          obtain ⟨tN, uN, vN, wN, xN, yN⟩ := cf3_ bA.out
          go_wp2
          repeat (go_quiet (fail); try go_wp2)
          go_ret2
          exact ⟨er_, hs3_ fA.out iA.out rA.out⟩
         have qJ := dgt_ sG
         clear sG
         simp only [Option.some.injEq, Prod.mk.injEq] at H
         obtain ⟨rfl, rfl⟩ := H
         have dZ := dA.out
         have eZ := cA.out
         have fZ := hA.out
         have gZ := kA.out
         obtain ⟨zN, aO, bO, cO, dO, eO, fO, gO⟩ := cf4_ aA.out
         have hZ := jA.out
         have iZ := gA.out
         obtain ⟨hO, iO, jO, kO, lO, mO, nO, oO⟩ := cf4_ eA.out
         obtain ⟨pO, qO, rO, sO, tO, uO⟩ := cf3_ bA.out
         go_wp2
         repeat (go_quiet (fail); try go_wp2)
         go_ret2
         exact ⟨er_, hs3_ fA.out iA.out rA.out⟩
        have nJ := decide_eq_true rG
        clear rG
        replace H := ite_ H
        obtain ⟨kG, H⟩ | ⟨kG, H⟩ := H
        ·have rJ : ((l0_0.length : Int) == 4) = true := beq_iff_eq.mpr kG
         have sJ : ((l0_0.length : Int) != 4) = false := bne_eq_false_iff_eq.mpr kG
         clear kG
         simp only [Option.some.injEq, Prod.mk.injEq] at H
         obtain ⟨rfl, rfl⟩ := H
         have jZ := dA.out
         have kZ := cA.out
         have lZ := hA.out
         have mZ := kA.out
         obtain ⟨vO, wO, xO, yO, zO, aP, bP, cP⟩ := cf4_ aA.out
         have nZ := jA.out
         have oZ := gA.out
         obtain ⟨dP, eP, fP, gP, hP, iP, jP, kP⟩ := cf4_ eA.out
         obtain ⟨lP, mP, nP, oP, pP, qP⟩ := cf3_ bA.out
         go_wp2
         repeat (go_quiet (fail); try go_wp2)
         go_ret2
         exact ⟨er_, hs3_ fA.out iA.out rA.out⟩
        have rJ : ((l0_0.length : Int) == 4) = false := beq_eq_false_iff_ne.mpr kG
        have sJ : ((l0_0.length : Int) != 4) = true := bne_iff_ne.mpr kG
        replace H := ite_ H
        obtain ⟨lG, H⟩ | ⟨lG, H⟩ := H
        ·have tJ : ((l0_1.length : Int) == 60) = true := beq_iff_eq.mpr lG
         have uJ : ((l0_1.length : Int) != 60) = false := bne_eq_false_iff_eq.mpr lG
         clear lG
         simp only [Option.some.injEq, Prod.mk.injEq] at H
         obtain ⟨rfl, rfl⟩ := H
         have pZ := dA.out
         have qZ := cA.out
         have rZ := hA.out
         have sZ := kA.out
         obtain ⟨rP, sP, tP, uP, vP, wP, xP, yP⟩ := cf4_ aA.out
         have tZ := jA.out
         have uZ := gA.out
         obtain ⟨zP, aQ, bQ, cQ, dQ, eQ, fQ, gQ⟩ := cf4_ eA.out
         obtain ⟨hQ, iQ, jQ, kQ, lQ, mQ⟩ := cf3_ bA.out
         go_wp2
         repeat (go_quiet (fail); try go_wp2)
         go_ret2
         exact ⟨er_, hs3_ fA.out iA.out rA.out⟩
        have tJ : ((l0_1.length : Int) == 60) = false := beq_eq_false_iff_ne.mpr lG
        have uJ : ((l0_1.length : Int) != 60) = true := bne_iff_ne.mpr lG
        replace H := ite_ H
        obtain ⟨tG, H⟩ | ⟨tG, H⟩ := H
        rotate_left
        ·have vJ := dgf_ tG
         clear tG
         simp only [Option.some.injEq, Prod.mk.injEq] at H
         obtain ⟨rfl, rfl⟩ := H
         have vZ := dA.out
         have wZ := cA.out
         have xZ := hA.out
         have yZ := kA.out
         obtain ⟨nQ, oQ, pQ, qQ, rQ, sQ, tQ, uQ⟩ := cf4_ aA.out
         have zZ := jA.out
         have Aa := gA.out
         obtain ⟨vQ, wQ, xQ, yQ, zQ, aR, bR, cR⟩ := cf4_ eA.out
         obtain ⟨dR, eR, fR, gR, hR, iR⟩ := cf3_ bA.out
         go_wp2
         repeat (go_quiet (fail); try go_wp2)
         go_ret2
         exact ⟨er_, hs3_ fA.out iA.out rA.out⟩
        have vJ := dgt_ tG
        clear tG
        simp only [Option.some.injEq, Prod.mk.injEq] at H
        obtain ⟨rfl, rfl⟩ := H
        have Ab := dA.out
        have Ac := cA.out
        have Ad := hA.out
        have Ae := kA.out
        obtain ⟨jR, kR, lR, mR, nR, oR, pR, qR⟩ := cf4_ aA.out
        have Af := jA.out
        have Ag := gA.out
        obtain ⟨rR, sR, tR, uR, vR, wR, xR, yR⟩ := cf4_ eA.out
        obtain ⟨zR, aS, bS, cS, dS, eS⟩ := cf3_ bA.out
        go_wp2
        repeat (go_quiet (fail); try go_wp2)
        go_ret2
        exact ⟨er_, hs3_ fA.out iA.out rA.out⟩
       have aL := decide_eq_true zK
       clear zK
       replace H := ifs_ H
       obtain ⟨Bt, H⟩ := H
       have Bu := decide_eq_true Bt
       clear Bt
       replace H := ifs_ H
       obtain ⟨Bv, H⟩ := H
       have Bw := decide_eq_true Bv
       clear Bv
       replace H := ite_ H
       obtain ⟨bK, H⟩ | ⟨bK, H⟩ := H
       ·have fS : (a1_2 == ((rd_T81 l0_0 sA).f2)) = true := beq_iff_eq.mpr bK
        have gS : (a1_2 != ((rd_T81 l0_0 sA).f2)) = false := bne_eq_false_iff_eq.mpr bK
        clear bK
        have H' := am_ H
        clear H
        have aB : 0 ≤ (tA : Int) := oa_
        have bB : tA < (((rd_T81 l0_0 sA).f3).length : Int) := oa_
        obtain ⟨uG, fD, vA, wA, xA⟩ := at_T112 cB.out tA aB bB
        cases fD
        replace vA := pc_ HB.out vA
        replace wA := pc_ HB.out wA
        replace xA := pc_ HB.out xA
        replace aB := eq_true aB
        replace bB := eq_true bB
        go_wp2_with (first | ((with_reducible refine gate_dst (N := 9) rfl ?_); (try (refine gate_guard (by rfl) ?_; dsimp only)); refine bq_ (N := 9) #[.int .i64 0, .int .i64 0, .int .i64 0] 112 ?_; intro zA hg Bx uA hb; have yA := ge3_ hg fA iA rA; replace HB := nc3_ fA iA rA hb; have lA := nl_ bA hg; have oA := ng_ bA hg; replace bA := bK_ bA hb; have mA := nl_ aA hg; have pA := ng_ aA hg; replace aA := bK_ aA hb; have nA := nl_ eA hg; have qA := ng_ eA hg; replace eA := bK_ eA hb; clear hb hg; have uH := oA.out; have vH := lA.out; have wH := pA.out; have xH := mA.out; have yH := qA.out; have zH := nA.out; obtain ⟨uD, vD, wD, xD, yD, zD⟩ := cf3_ uA.out; have aI := dA.out; have bI := cA.out; have cI := hA.out; have dI := kA.out; obtain ⟨aE, bE, cE, dE, eE, fE, gE, hE⟩ := cf4_ aA.out; have eI := jA.out; have fI := gA.out; obtain ⟨iE, jE, kE, lE, mE, nE, oE, pE⟩ := cf4_ eA.out))
        repeat (go_quiet (first | ((with_reducible refine gate_dst (N := 9) rfl ?_); (try (refine gate_guard (by rfl) ?_; dsimp only)); refine bq_ (N := 9) #[.int .i64 0, .int .i64 0, .int .i64 0] 112 ?_; intro zA hg Bx uA hb; have yA := ge3_ hg fA iA rA; replace HB := nc3_ fA iA rA hb; have lA := nl_ bA hg; have oA := ng_ bA hg; replace bA := bK_ bA hb; have mA := nl_ aA hg; have pA := ng_ aA hg; replace aA := bK_ aA hb; have nA := nl_ eA hg; have qA := ng_ eA hg; replace eA := bK_ eA hb; clear hb hg; have uH := oA.out; have vH := lA.out; have wH := pA.out; have xH := mA.out; have yH := qA.out; have zH := nA.out; obtain ⟨uD, vD, wD, xD, yD, zD⟩ := cf3_ uA.out; have aI := dA.out; have bI := cA.out; have cI := hA.out; have dI := kA.out; obtain ⟨aE, bE, cE, dE, eE, fE, gE, hE⟩ := cf4_ aA.out; have eI := jA.out; have fI := gA.out; obtain ⟨iE, jE, kE, lE, mE, nE, oE, pE⟩ := cf4_ eA.out)); try go_wp2_with (first | ((with_reducible refine gate_dst (N := 9) rfl ?_); (try (refine gate_guard (by rfl) ?_; dsimp only)); refine bq_ (N := 9) #[.int .i64 0, .int .i64 0, .int .i64 0] 112 ?_; intro zA hg Bx uA hb; have yA := ge3_ hg fA iA rA; replace HB := nc3_ fA iA rA hb; have lA := nl_ bA hg; have oA := ng_ bA hg; replace bA := bK_ bA hb; have mA := nl_ aA hg; have pA := ng_ aA hg; replace aA := bK_ aA hb; have nA := nl_ eA hg; have qA := ng_ eA hg; replace eA := bK_ eA hb; clear hb hg; have uH := oA.out; have vH := lA.out; have wH := pA.out; have xH := mA.out; have yH := qA.out; have zH := nA.out; obtain ⟨uD, vD, wD, xD, yD, zD⟩ := cf3_ uA.out; have aI := dA.out; have bI := cA.out; have cI := hA.out; have dI := kA.out; obtain ⟨aE, bE, cE, dE, eE, fE, gE, hE⟩ := cf4_ aA.out; have eI := jA.out; have fI := gA.out; obtain ⟨iE, jE, kE, lE, mE, nE, oE, pE⟩ := cf4_ eA.out)))
        go_roundg k3
        case measure => have := pH.out; have := iG.out; have := aK.out; omega
        case rel => exact ⟨(wrap64 (tA + 1)), sr_, H', ⟨by have := pH.out; have := iG.out; have := aK.out; omega⟩, ⟨uf_ bA lA.out⟩, ⟨uf_ aA mA.out⟩, ⟨uf_ eA nA.out⟩, ⟨hs4_ fA.out iA.out rA.out yA.out⟩⟩
       have fS : (a1_2 == ((rd_T81 l0_0 sA).f2)) = false := beq_eq_false_iff_ne.mpr bK
       have gS : (a1_2 != ((rd_T81 l0_0 sA).f2)) = true := bne_iff_ne.mpr bK
       replace H := ite_ H
       obtain ⟨cK, H⟩ | ⟨cK, H⟩ := H
       rotate_left
       ·have hS : (((rd_T112 ((rd_T81 l0_0 sA).f3) tA).f0) == a1_2) = false := beq_eq_false_iff_ne.mpr cK
        have iS : (((rd_T112 ((rd_T81 l0_0 sA).f3) tA).f0) != a1_2) = true := bne_iff_ne.mpr cK
        have H' := am_ H
        clear H
        have aB : 0 ≤ (tA : Int) := oa_
        have bB : tA < (((rd_T81 l0_0 sA).f3).length : Int) := oa_
        obtain ⟨uG, fD, vA, wA, xA⟩ := at_T112 cB.out tA aB bB
        cases fD
        replace vA := pc_ HB.out vA
        replace wA := pc_ HB.out wA
        replace xA := pc_ HB.out xA
        replace aB := eq_true aB
        replace bB := eq_true bB
        go_wp2_with (first | ((with_reducible refine gate_dst (N := 9) rfl ?_); (try (refine gate_guard (by rfl) ?_; dsimp only)); refine bq_ (N := 9) #[.int .i64 0, .int .i64 0, .int .i64 0] 112 ?_; intro zA hg jS uA hb; have yA := ge3_ hg fA iA rA; replace HB := nc3_ fA iA rA hb; have lA := nl_ bA hg; have oA := ng_ bA hg; replace bA := bK_ bA hb; have mA := nl_ aA hg; have pA := ng_ aA hg; replace aA := bK_ aA hb; have nA := nl_ eA hg; have qA := ng_ eA hg; replace eA := bK_ eA hb; clear hb hg; have vG := oA.out; have wG := lA.out; have xG := pA.out; have yG := mA.out; have zG := qA.out; have aH := nA.out; obtain ⟨iC, jC, kC, lC, mC, nC⟩ := cf3_ uA.out; have bH := dA.out; have cH := cA.out; have dH := hA.out; have eH := kA.out; obtain ⟨oC, pC, qC, rC, sC, tC, uC, vC⟩ := cf4_ aA.out; have fH := jA.out; have gH := gA.out; obtain ⟨wC, xC, yC, zC, aD, bD, cD, dD⟩ := cf4_ eA.out))
        repeat (go_quiet (first | ((with_reducible refine gate_dst (N := 9) rfl ?_); (try (refine gate_guard (by rfl) ?_; dsimp only)); refine bq_ (N := 9) #[.int .i64 0, .int .i64 0, .int .i64 0] 112 ?_; intro zA hg jS uA hb; have yA := ge3_ hg fA iA rA; replace HB := nc3_ fA iA rA hb; have lA := nl_ bA hg; have oA := ng_ bA hg; replace bA := bK_ bA hb; have mA := nl_ aA hg; have pA := ng_ aA hg; replace aA := bK_ aA hb; have nA := nl_ eA hg; have qA := ng_ eA hg; replace eA := bK_ eA hb; clear hb hg; have vG := oA.out; have wG := lA.out; have xG := pA.out; have yG := mA.out; have zG := qA.out; have aH := nA.out; obtain ⟨iC, jC, kC, lC, mC, nC⟩ := cf3_ uA.out; have bH := dA.out; have cH := cA.out; have dH := hA.out; have eH := kA.out; obtain ⟨oC, pC, qC, rC, sC, tC, uC, vC⟩ := cf4_ aA.out; have fH := jA.out; have gH := gA.out; obtain ⟨wC, xC, yC, zC, aD, bD, cD, dD⟩ := cf4_ eA.out)); try go_wp2_with (first | ((with_reducible refine gate_dst (N := 9) rfl ?_); (try (refine gate_guard (by rfl) ?_; dsimp only)); refine bq_ (N := 9) #[.int .i64 0, .int .i64 0, .int .i64 0] 112 ?_; intro zA hg jS uA hb; have yA := ge3_ hg fA iA rA; replace HB := nc3_ fA iA rA hb; have lA := nl_ bA hg; have oA := ng_ bA hg; replace bA := bK_ bA hb; have mA := nl_ aA hg; have pA := ng_ aA hg; replace aA := bK_ aA hb; have nA := nl_ eA hg; have qA := ng_ eA hg; replace eA := bK_ eA hb; clear hb hg; have vG := oA.out; have wG := lA.out; have xG := pA.out; have yG := mA.out; have zG := qA.out; have aH := nA.out; obtain ⟨iC, jC, kC, lC, mC, nC⟩ := cf3_ uA.out; have bH := dA.out; have cH := cA.out; have dH := hA.out; have eH := kA.out; obtain ⟨oC, pC, qC, rC, sC, tC, uC, vC⟩ := cf4_ aA.out; have fH := jA.out; have gH := gA.out; obtain ⟨wC, xC, yC, zC, aD, bD, cD, dD⟩ := cf4_ eA.out)))
        go_roundg k3
        case measure => have := pH.out; have := iG.out; have := aK.out; omega
        case rel => exact ⟨(wrap64 (tA + 1)), sr_, H', ⟨by have := pH.out; have := iG.out; have := aK.out; omega⟩, ⟨uf_ bA lA.out⟩, ⟨uf_ aA mA.out⟩, ⟨uf_ eA nA.out⟩, ⟨hs4_ fA.out iA.out rA.out yA.out⟩⟩
       have hS : (((rd_T112 ((rd_T81 l0_0 sA).f3) tA).f0) == a1_2) = true := beq_iff_eq.mpr cK
       have iS : (((rd_T112 ((rd_T81 l0_0 sA).f3) tA).f0) != a1_2) = false := bne_eq_false_iff_eq.mpr cK
       clear cK
       replace H := ite_ H
       obtain ⟨dK, H⟩ | ⟨dK, H⟩ := H
       ·have kS : (((rd_T112 ((rd_T81 l0_0 sA).f3) tA).f1) == (l1_3.length : Int)) = true := beq_iff_eq.mpr dK
        have lS : (((rd_T112 ((rd_T81 l0_0 sA).f3) tA).f1) != (l1_3.length : Int)) = false := bne_eq_false_iff_eq.mpr dK
        clear dK
        simp only [Option.some.injEq, Prod.mk.injEq] at H
        obtain ⟨rfl, rfl⟩ := H
        have aB : 0 ≤ (tA : Int) := oa_
        have bB : tA < (((rd_T81 l0_0 sA).f3).length : Int) := oa_
        obtain ⟨uG, fD, vA, wA, xA⟩ := at_T112 cB.out tA aB bB
        cases fD
        replace vA := pc_ HB.out vA
        replace wA := pc_ HB.out wA
        replace xA := pc_ HB.out xA
        replace aB := eq_true aB
        replace bB := eq_true bB
        go_wp2_with (first | ((with_reducible refine gate_dst (N := 9) rfl ?_); (try (refine gate_guard (by rfl) ?_; dsimp only)); refine bq_ (N := 9) #[.int .i64 0, .int .i64 0, .int .i64 0] 112 ?_; intro zA hg By uA hb; have yA := ge3_ hg fA iA rA; replace HB := nc3_ fA iA rA hb; have lA := nl_ bA hg; have oA := ng_ bA hg; replace bA := bK_ bA hb; have mA := nl_ aA hg; have pA := ng_ aA hg; replace aA := bK_ aA hb; have nA := nl_ eA hg; have qA := ng_ eA hg; replace eA := bK_ eA hb; clear hb hg; have gI := oA.out; have hI := lA.out; have iI := pA.out; have jI := mA.out; have kI := qA.out; have lI := nA.out; obtain ⟨qE, rE, sE, tE, uE, vE⟩ := cf3_ uA.out; have mI := dA.out; have nI := cA.out; have oI := hA.out; have pI := kA.out; obtain ⟨wE, xE, yE, zE, aF, bF, cF, dF⟩ := cf4_ aA.out; have qI := jA.out; have rI := gA.out; obtain ⟨eF, fF, gF, hF, iF, jF, kF, lF⟩ := cf4_ eA.out))
        repeat (go_quiet (first | ((with_reducible refine gate_dst (N := 9) rfl ?_); (try (refine gate_guard (by rfl) ?_; dsimp only)); refine bq_ (N := 9) #[.int .i64 0, .int .i64 0, .int .i64 0] 112 ?_; intro zA hg By uA hb; have yA := ge3_ hg fA iA rA; replace HB := nc3_ fA iA rA hb; have lA := nl_ bA hg; have oA := ng_ bA hg; replace bA := bK_ bA hb; have mA := nl_ aA hg; have pA := ng_ aA hg; replace aA := bK_ aA hb; have nA := nl_ eA hg; have qA := ng_ eA hg; replace eA := bK_ eA hb; clear hb hg; have gI := oA.out; have hI := lA.out; have iI := pA.out; have jI := mA.out; have kI := qA.out; have lI := nA.out; obtain ⟨qE, rE, sE, tE, uE, vE⟩ := cf3_ uA.out; have mI := dA.out; have nI := cA.out; have oI := hA.out; have pI := kA.out; obtain ⟨wE, xE, yE, zE, aF, bF, cF, dF⟩ := cf4_ aA.out; have qI := jA.out; have rI := gA.out; obtain ⟨eF, fF, gF, hF, iF, jF, kF, lF⟩ := cf4_ eA.out)); try go_wp2_with (first | ((with_reducible refine gate_dst (N := 9) rfl ?_); (try (refine gate_guard (by rfl) ?_; dsimp only)); refine bq_ (N := 9) #[.int .i64 0, .int .i64 0, .int .i64 0] 112 ?_; intro zA hg By uA hb; have yA := ge3_ hg fA iA rA; replace HB := nc3_ fA iA rA hb; have lA := nl_ bA hg; have oA := ng_ bA hg; replace bA := bK_ bA hb; have mA := nl_ aA hg; have pA := ng_ aA hg; replace aA := bK_ aA hb; have nA := nl_ eA hg; have qA := ng_ eA hg; replace eA := bK_ eA hb; clear hb hg; have gI := oA.out; have hI := lA.out; have iI := pA.out; have jI := mA.out; have kI := qA.out; have lI := nA.out; obtain ⟨qE, rE, sE, tE, uE, vE⟩ := cf3_ uA.out; have mI := dA.out; have nI := cA.out; have oI := hA.out; have pI := kA.out; obtain ⟨wE, xE, yE, zE, aF, bF, cF, dF⟩ := cf4_ aA.out; have qI := jA.out; have rI := gA.out; obtain ⟨eF, fF, gF, hF, iF, jF, kF, lF⟩ := cf4_ eA.out)))
        go_ret2
        exact ⟨er_, hs4_ fA.out iA.out rA.out yA.out⟩
       have kS : (((rd_T112 ((rd_T81 l0_0 sA).f3) tA).f1) == (l1_3.length : Int)) = false := beq_eq_false_iff_ne.mpr dK
       have lS : (((rd_T112 ((rd_T81 l0_0 sA).f3) tA).f1) != (l1_3.length : Int)) = true := bne_iff_ne.mpr dK
       have H' := am_ H
       clear H
       have aB : 0 ≤ (tA : Int) := oa_
       have bB : tA < (((rd_T81 l0_0 sA).f3).length : Int) := oa_
       obtain ⟨uG, fD, vA, wA, xA⟩ := at_T112 cB.out tA aB bB
       cases fD
       replace vA := pc_ HB.out vA
       replace wA := pc_ HB.out wA
       replace xA := pc_ HB.out xA
       replace aB := eq_true aB
       replace bB := eq_true bB
       go_wp2_with (first | ((with_reducible refine gate_dst (N := 9) rfl ?_); (try (refine gate_guard (by rfl) ?_; dsimp only)); refine bq_ (N := 9) #[.int .i64 0, .int .i64 0, .int .i64 0] 112 ?_; intro zA hg Bz uA hb; have yA := ge3_ hg fA iA rA; replace HB := nc3_ fA iA rA hb; have lA := nl_ bA hg; have oA := ng_ bA hg; replace bA := bK_ bA hb; have mA := nl_ aA hg; have pA := ng_ aA hg; replace aA := bK_ aA hb; have nA := nl_ eA hg; have qA := ng_ eA hg; replace eA := bK_ eA hb; clear hb hg; have sI := oA.out; have tI := lA.out; have uI := pA.out; have vI := mA.out; have wI := qA.out; have xI := nA.out; obtain ⟨mF, nF, oF, pF, qF, rF⟩ := cf3_ uA.out; have yI := dA.out; have zI := cA.out; have aJ := hA.out; have bJ := kA.out; obtain ⟨sF, tF, uF, vF, wF, xF, yF, zF⟩ := cf4_ aA.out; have cJ := jA.out; have dJ := gA.out; obtain ⟨aG, bG, cG, dG, eG, fG, gG, hG⟩ := cf4_ eA.out))
       repeat (go_quiet (first | ((with_reducible refine gate_dst (N := 9) rfl ?_); (try (refine gate_guard (by rfl) ?_; dsimp only)); refine bq_ (N := 9) #[.int .i64 0, .int .i64 0, .int .i64 0] 112 ?_; intro zA hg Bz uA hb; have yA := ge3_ hg fA iA rA; replace HB := nc3_ fA iA rA hb; have lA := nl_ bA hg; have oA := ng_ bA hg; replace bA := bK_ bA hb; have mA := nl_ aA hg; have pA := ng_ aA hg; replace aA := bK_ aA hb; have nA := nl_ eA hg; have qA := ng_ eA hg; replace eA := bK_ eA hb; clear hb hg; have sI := oA.out; have tI := lA.out; have uI := pA.out; have vI := mA.out; have wI := qA.out; have xI := nA.out; obtain ⟨mF, nF, oF, pF, qF, rF⟩ := cf3_ uA.out; have yI := dA.out; have zI := cA.out; have aJ := hA.out; have bJ := kA.out; obtain ⟨sF, tF, uF, vF, wF, xF, yF, zF⟩ := cf4_ aA.out; have cJ := jA.out; have dJ := gA.out; obtain ⟨aG, bG, cG, dG, eG, fG, gG, hG⟩ := cf4_ eA.out)); try go_wp2_with (first | ((with_reducible refine gate_dst (N := 9) rfl ?_); (try (refine gate_guard (by rfl) ?_; dsimp only)); refine bq_ (N := 9) #[.int .i64 0, .int .i64 0, .int .i64 0] 112 ?_; intro zA hg Bz uA hb; have yA := ge3_ hg fA iA rA; replace HB := nc3_ fA iA rA hb; have lA := nl_ bA hg; have oA := ng_ bA hg; replace bA := bK_ bA hb; have mA := nl_ aA hg; have pA := ng_ aA hg; replace aA := bK_ aA hb; have nA := nl_ eA hg; have qA := ng_ eA hg; replace eA := bK_ eA hb; clear hb hg; have sI := oA.out; have tI := lA.out; have uI := pA.out; have vI := mA.out; have wI := qA.out; have xI := nA.out; obtain ⟨mF, nF, oF, pF, qF, rF⟩ := cf3_ uA.out; have yI := dA.out; have zI := cA.out; have aJ := hA.out; have bJ := kA.out; obtain ⟨sF, tF, uF, vF, wF, xF, yF, zF⟩ := cf4_ aA.out; have cJ := jA.out; have dJ := gA.out; obtain ⟨aG, bG, cG, dG, eG, fG, gG, hG⟩ := cf4_ eA.out)))
       go_roundg k3
       case measure => have := pH.out; have := iG.out; have := aK.out; omega
       case rel => exact ⟨(wrap64 (tA + 1)), sr_, H', ⟨by have := pH.out; have := iG.out; have := aK.out; omega⟩, ⟨uf_ bA lA.out⟩, ⟨uf_ aA mA.out⟩, ⟨uf_ eA nA.out⟩, ⟨hs4_ fA.out iA.out rA.out yA.out⟩⟩
end Go.Proofs.Ytojdaolclcmalaa.QFnExactAskPart
