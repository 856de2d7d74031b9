/- Functions that one statement reaches: of each a plain function, and the proof that calls come to it. Conditions: those that each contract names. Written by a program of this repository. -/
import Derived.Test.YtojdaolclcmalaaVAskParta
import Derived.Test.YtojdaolclcmalaaQFnExactAskPartx1
import Derived.Test.YtojdaolclcmalaaQFnExactAskPartx14
namespace Go.Proofs.Ytojdaolclcmalaa.QFnExactAskPart
open Go.RowKit Go.Proofs.YtojdaolclcmalaaW.PrintWords Go.Proofs.YtojdaolclcmalaaW.PrintLast Go.Proofs.YtojdaolclcmalaaW.PrintMore
attribute [local go_sem] max2_int min2_int max_two min_two max_three min_three max_four min_four Go.Proofs.YtojdaolclcmalaaW.PrintMore2.isSome_setCell   -- for this text's walks alone
set_option linter.unusedVariables false
set_option linter.unusedSimpArgs false

/-! ### impl_Part_codeOf: function 65 -/
mutual
def impl_Part_codeOf.j1 : Nat → Int → Bool → List (S81) → List (S78) → Int → Int → Int → Int → List ByteArray → Option (Int × Int)
 | 0, _, _, _, _, _, _, _, _, _ => none
 | k + 1, x6, x7, x382000, x382001, x382002, x383000, x383001, x383002, x383003 => if x7 = true then (impl_Part_codeOf.j2 k x6 false x382000 x382001 x382002 x383000 x383001 x383002 x383003) else (impl_Part_codeOf.j2 k x6 (x383002 != 0) x382000 x382001 x382002 x383000 x383001 x383002 x383003)
def impl_Part_codeOf.j2 : Nat → Int → Bool → List (S81) → List (S78) → Int → Int → Int → Int → List ByteArray → Option (Int × Int)
 | 0, _, _, _, _, _, _, _, _, _ => none
 | k + 1, x6, x68, x382000, x382001, x382002, x383000, x383001, x383002, x383003 => if x68 = true then (some (3, 0)) else (if x6 < 0 then (if (x382000.length : Int) = 4 then (some (5, 0)) else (if (x382001.length : Int) = 60 then (some (5, 0)) else (if (wrap64 ((wrap64 (x383002 + (x383003.length : Int))) - 1)) > 65535 then (some (5, 0)) else (some (0, x382002))))) else (if (x382001.length : Int) = 60 then (some (5, 0)) else (if (wrap64 ((wrap64 (x383002 + (x383003.length : Int))) - 1)) > 65535 then (some (5, 0)) else (some (0, x382002)))))
def impl_Part_codeOf.l0 : Nat → List (S112) → Int → Int → Int → Int → Int → List ByteArray → Int → Int → Int → List (S112) → Option (Int × Int)
 | 0, _, _, _, _, _, _, _, _, _, _, _ => none
 | k + 1, x41, x42, x43, x383000, x383001, x383002, x383003, x386000, x386001, x386002, x386003 => if x43 < x42 then (if 0 ≤ x43 then (if x43 < (x41.length : Int) then (if ((rd_T112 x41 x43).f0) = x383002 then (if ((rd_T112 x41 x43).f1) = (x383003.length : Int) then (some (1, (rd_T112 x41 x43).f2)) else (impl_Part_codeOf.l0 k x41 x42 (wrap64 (x43 + 1)) x383000 x383001 x383002 x383003 x386000 x386001 x386002 x386003)) else (impl_Part_codeOf.l0 k x41 x42 (wrap64 (x43 + 1)) x383000 x383001 x383002 x383003 x386000 x386001 x386002 x386003)) else (none)) else (none)) else (if x383002 < x386002 then (some (2, 0)) else (some (3, 0)))
end
def impl_Part_codeOf.f (k : Nat) (l0_0 : List (S81)) (l0_1 : List (S78)) (a0_2 : Int) (a1_0 : Int) (a1_1 : Int) (a1_2 : Int) (l1_3 : List ByteArray) : Option (Int × Int) := (impl_Part_producerAt.f l0_0 l0_1 a0_2 a1_0).bind fun t383 => (if t383 ≥ 0 then (if 0 ≤ t383 then (if t383 < (l0_0.length : Int) then (if ((rd_T81 l0_0 t383).f1) > a1_1 then (some (4, 0)) else (if ((rd_T81 l0_0 t383).f1) = a1_1 then (if a1_2 = ((rd_T81 l0_0 t383).f2) then (impl_Part_codeOf.j1 k t383 (((rd_T81 l0_0 t383).f1) == a1_1) l0_0 l0_1 a0_2 a1_0 a1_1 a1_2 l1_3) else (impl_Part_codeOf.l0 k ((rd_T81 l0_0 t383).f3) (((rd_T81 l0_0 t383).f3).length : Int) 0 a1_0 a1_1 a1_2 l1_3 ((rd_T81 l0_0 t383).f0) ((rd_T81 l0_0 t383).f1) ((rd_T81 l0_0 t383).f2) ((rd_T81 l0_0 t383).f3))) else (impl_Part_codeOf.j1 k t383 (((rd_T81 l0_0 t383).f1) == a1_1) l0_0 l0_1 a0_2 a1_0 a1_1 a1_2 l1_3))) else (none)) else (none)) else (impl_Part_codeOf.j1 k t383 false l0_0 l0_1 a0_2 a1_0 a1_1 a1_2 l1_3))
theorem impl_Part_codeOf.mono_l : ∀ k, (∀ y0 y1 y2 y3 y4 y5 y6 y7 y8, LeO (impl_Part_codeOf.j1 k y0 y1 y2 y3 y4 y5 y6 y7 y8) (impl_Part_codeOf.j1 (k + 1) y0 y1 y2 y3 y4 y5 y6 y7 y8)) ∧ (∀ y0 y1 y2 y3 y4 y5 y6 y7 y8, LeO (impl_Part_codeOf.j2 k y0 y1 y2 y3 y4 y5 y6 y7 y8) (impl_Part_codeOf.j2 (k + 1) y0 y1 y2 y3 y4 y5 y6 y7 y8)) ∧ (∀ y0 y1 y2 y3 y4 y5 y6 y7 y8 y9 y10, LeO (impl_Part_codeOf.l0 k y0 y1 y2 y3 y4 y5 y6 y7 y8 y9 y10) (impl_Part_codeOf.l0 (k + 1) y0 y1 y2 y3 y4 y5 y6 y7 y8 y9 y10))
 | 0 => ⟨fun _ _ _ _ _ _ _ _ _ r h => by simp [impl_Part_codeOf.j1] at h, fun _ _ _ _ _ _ _ _ _ r h => by simp [impl_Part_codeOf.j2] at h, fun _ _ _ _ _ _ _ _ _ _ _ r h => by simp [impl_Part_codeOf.l0] at h⟩
 | k + 1 => by
  obtain ⟨ih0, ih1, ih2⟩ := impl_Part_codeOf.mono_l k
  refine ⟨?_, ?_, ?_⟩
  all_goals intros; first | unfold impl_Part_codeOf.j1 | unfold impl_Part_codeOf.j2 | unfold impl_Part_codeOf.l0
  all_goals repeat' first | (with_reducible first | apply ih0 | apply ih1 | apply ih2 | exact LeO.refl _ | exact LeO.none _ | refine LeO.ite ?_ ?_ | refine LeO.bind ?_ (fun _ => ?_))
theorem impl_Part_codeOf.mono : ∀ a0 a1 a2 a3 a4 a5 a6 k, LeO (impl_Part_codeOf.f k a0 a1 a2 a3 a4 a5 a6) (impl_Part_codeOf.f (k + 1) a0 a1 a2 a3 a4 a5 a6) := by
 intro a0 a1 a2 a3 a4 a5 a6 k
 obtain ⟨ih0, ih1, ih2⟩ := impl_Part_codeOf.mono_l k
 unfold impl_Part_codeOf.f
 repeat' first
   | (with_reducible first | apply ih0 | apply ih1 | apply ih2 | exact LeO.refl _ | exact LeO.none _ | refine LeO.ite ?_ ?_ | refine LeO.bind ?_ (fun _ => ?_))
set_option maxHeartbeats 8000000 in
set_option maxRecDepth 100000 in
theorem impl_Part_codeOf.calls (k : Nat) (A0_0 : Option Addr) (c0_0 : Nat) (l0_0 : List (S81)) (A0_1 : Option Addr) (c0_1 : Nat) (l0_1 : List (S78)) (a0_2 : Int) (a1_0 : Int) (a1_1 : Int) (a1_2 : Int) (A1_3 : Option Addr) (c1_3 : Nat) (l1_3 : List ByteArray) (r1 : Int) (r2 : Int) (w : World) (hr0_0 : Kd.C k81 w A0_0 l0_0.length l0_0) (hc0_0 : l0_0.length ≤ c0_0) (hr0_1 : Kd.C k78 w A0_1 l0_1.length l0_1) (hc0_1 : l0_1.length ≤ c0_1) (hr1_3 : Kd.C Kd.string w A1_3 l1_3.length l1_3) (hc1_3 : l1_3.length ≤ c1_3) (h : impl_Part_codeOf.f k l0_0 l0_1 a0_2 a1_0 a1_1 a1_2 l1_3 = some (r1, r2)) :
  Calls Try.prog 65 #[.agg #[.slice A0_0 l0_0.length c0_0, .slice A0_1 l0_1.length c0_1, .int .i64 a0_2], .agg #[.int .i64 a1_0, .int .i64 a1_1, .int .i64 a1_2, .slice A1_3 l1_3.length c1_3]] w fun e w' => e = .returned (.tuple #[.int .i64 r1, .int .i64 r2]) ∧ Below w.heap.size w w' := by
 have hu33 := Try.underlying33
 have hu57 := Try.underlying57
 have hu81 := Try.underlying81
 have hu112 := Try.underlying112
 have kB := am_ hr0_0
 have nG := am_ hc0_0
 clear hr0_0 hc0_0
 have oG := am_ hr0_1
 have pG := am_ hc0_1
 clear hr0_1 hc0_1
 have tP := am_ hr1_3
 have uP := am_ hc1_3
 clear hr1_3 hc1_3
 have HB := am_ (Below.refl w.heap.size w)
 have H : ((impl_Part_producerAt.f l0_0 l0_1 a0_2 a1_0).bind fun oA => (if oA ≥ 0 then (if 0 ≤ oA then (if oA < (l0_0.length : Int) then (if ((rd_T81 l0_0 oA).f1) > a1_1 then (some (4, 0)) else (if ((rd_T81 l0_0 oA).f1) = a1_1 then (if a1_2 = ((rd_T81 l0_0 oA).f2) then (impl_Part_codeOf.j1 k oA (((rd_T81 l0_0 oA).f1) == a1_1) l0_0 l0_1 a0_2 a1_0 a1_1 a1_2 l1_3) else (impl_Part_codeOf.l0 k ((rd_T81 l0_0 oA).f3) (((rd_T81 l0_0 oA).f3).length : Int) 0 a1_0 a1_1 a1_2 l1_3 ((rd_T81 l0_0 oA).f0) ((rd_T81 l0_0 oA).f1) ((rd_T81 l0_0 oA).f2) ((rd_T81 l0_0 oA).f3))) else (impl_Part_codeOf.j1 k oA (((rd_T81 l0_0 oA).f1) == a1_1) l0_0 l0_1 a0_2 a1_0 a1_1 a1_2 l1_3))) else (none)) else (none)) else (impl_Part_codeOf.j1 k oA false l0_0 l0_1 a0_2 a1_0 a1_1 a1_2 l1_3))) = some (r1, r2) := h
 clear h
 replace H := bnd_ H
 obtain ⟨oA, A3, H⟩ := H
 have iP := am_ H
 clear H
 go_enter Try.func65, Try.ntmps65
 go_upto_if 16 with (first | ((with_reducible refine gate_dst (N := 2) rfl ?_); (try (refine gate_guard (by rfl) ?_; dsimp only)); refine bq_ (N := 2) #[.slice A0_0 l0_0.length c0_0, .slice A0_1 l0_1.length c0_1, .int .i64 a0_2] 33 ?_; intro vC hg w5 bA hb; have eA := ge_ hg; replace HB := nb_ hb; clear hb hg) | ((with_reducible refine gate_dst (N := 3) rfl ?_); (try (refine gate_guard (by rfl) ?_; dsimp only)); refine bq_ (N := 3) #[.int .i64 a1_0, .int .i64 a1_1, .int .i64 a1_2, .slice A1_3 l1_3.length c1_3] 57 ?_; intro wC hg w6 aA hb; have fA := ge1_ hg eA; replace HB := nc_ eA hb; have gA := nl_ bA hg; have hA := ng_ bA hg; replace bA := bK_ bA hb; clear hb hg; have lJ := gA.out; have mJ := hA.out; obtain ⟨lB, mB, nB, oB, pB, qB⟩ := cf3_ bA.out; obtain ⟨rB, sB, tB, uB, vB, wB, xB, yB⟩ := cf4_ aA.out) | (go_at_call 50; (with_reducible refine (impl_Part_producerAt.calls _ _ l0_0 _ _ l0_1 a0_2 a1_0 oA _ ?side1 ?side2 ?side3 ?side4 A3.out).mono ?_); (case side1 => exact cs_ ((Kd.C_below kB.out HB.out))); (case side2 => exact nG.out); (case side3 => exact cs_ ((Kd.C_below oG.out HB.out))); (case side4 => exact pG.out); rintro e vP ⟨rfl, hb⟩; replace bA := bK_ bA hb; replace aA := bK_ aA hb; replace HB := nc2_ eA fA hb; (try clear hb); (try clear hb2); (try clear hk); (try clear hi)))
 repeat (go_quiet (first | ((with_reducible refine gate_dst (N := 2) rfl ?_); (try (refine gate_guard (by rfl) ?_; dsimp only)); refine bq_ (N := 2) #[.slice A0_0 l0_0.length c0_0, .slice A0_1 l0_1.length c0_1, .int .i64 a0_2] 33 ?_; intro vC hg w5 bA hb; have eA := ge_ hg; replace HB := nb_ hb; clear hb hg) | ((with_reducible refine gate_dst (N := 3) rfl ?_); (try (refine gate_guard (by rfl) ?_; dsimp only)); refine bq_ (N := 3) #[.int .i64 a1_0, .int .i64 a1_1, .int .i64 a1_2, .slice A1_3 l1_3.length c1_3] 57 ?_; intro wC hg w6 aA hb; have fA := ge1_ hg eA; replace HB := nc_ eA hb; have gA := nl_ bA hg; have hA := ng_ bA hg; replace bA := bK_ bA hb; clear hb hg; have lJ := gA.out; have mJ := hA.out; obtain ⟨lB, mB, nB, oB, pB, qB⟩ := cf3_ bA.out; obtain ⟨rB, sB, tB, uB, vB, wB, xB, yB⟩ := cf4_ aA.out) | (go_at_call 50; (with_reducible refine (impl_Part_producerAt.calls _ _ l0_0 _ _ l0_1 a0_2 a1_0 oA _ ?side1 ?side2 ?side3 ?side4 A3.out).mono ?_); (case side1 => exact cs_ ((Kd.C_below kB.out HB.out))); (case side2 => exact nG.out); (case side3 => exact cs_ ((Kd.C_below oG.out HB.out))); (case side4 => exact pG.out); rintro e vP ⟨rfl, hb⟩; replace bA := bK_ bA hb; replace aA := bK_ aA hb; replace HB := nc2_ eA fA hb; (try clear hb); (try clear hb2); (try clear hk); (try clear hi))); go_upto_if 16 with (first | ((with_reducible refine gate_dst (N := 2) rfl ?_); (try (refine gate_guard (by rfl) ?_; dsimp only)); refine bq_ (N := 2) #[.slice A0_0 l0_0.length c0_0, .slice A0_1 l0_1.length c0_1, .int .i64 a0_2] 33 ?_; intro vC hg w5 bA hb; have eA := ge_ hg; replace HB := nb_ hb; clear hb hg) | ((with_reducible refine gate_dst (N := 3) rfl ?_); (try (refine gate_guard (by rfl) ?_; dsimp only)); refine bq_ (N := 3) #[.int .i64 a1_0, .int .i64 a1_1, .int .i64 a1_2, .slice A1_3 l1_3.length c1_3] 57 ?_; intro wC hg w6 aA hb; have fA := ge1_ hg eA; replace HB := nc_ eA hb; have gA := nl_ bA hg; have hA := ng_ bA hg; replace bA := bK_ bA hb; clear hb hg; have lJ := gA.out; have mJ := hA.out; obtain ⟨lB, mB, nB, oB, pB, qB⟩ := cf3_ bA.out; obtain ⟨rB, sB, tB, uB, vB, wB, xB, yB⟩ := cf4_ aA.out) | (go_at_call 50; (with_reducible refine (impl_Part_producerAt.calls _ _ l0_0 _ _ l0_1 a0_2 a1_0 oA _ ?side1 ?side2 ?side3 ?side4 A3.out).mono ?_); (case side1 => exact cs_ ((Kd.C_below kB.out HB.out))); (case side2 => exact nG.out); (case side3 => exact cs_ ((Kd.C_below oG.out HB.out))); (case side4 => exact pG.out); rintro e vP ⟨rfl, hb⟩; replace bA := bK_ bA hb; replace aA := bK_ aA hb; replace HB := nc2_ eA fA hb; (try clear hb); (try clear hb2); (try clear hk); (try clear hi))))
 (try simp only [Act.put, List.setIfInBounds_toArray, List.set_cons_zero, List.set_cons_succ])
 go_cut [7] (fun v7 wc => ∃ (kq : Nat) (yI : Bool), v7 = .bool yI ∧ Aside0 (impl_Part_codeOf.j1 kq oA yI l0_0 l0_1 a0_2 a1_0 a1_1 a1_2 l1_3 = some (r1, r2)) ∧ Aside0 (kq ≤ k) ∧ Aside0 (wc.heap[vC]? = some (.cells #[(.slice A0_0 l0_0.length c0_0), (.slice A0_1 l0_1.length c0_1), .int .i64 a0_2] 33 (0, 0))) ∧ Aside0 (wc.heap[wC]? = some (.cells #[.int .i64 a1_0, .int .i64 a1_1, .int .i64 a1_2, (.slice A1_3 l1_3.length c1_3)] 57 (0, 0))) ∧ Aside0 (Below w.heap.size w wc))
 case first =>
  have H := iP.out
  clear iP
  replace H := ite_ H
  obtain ⟨fJ, H⟩ | ⟨fJ, H⟩ := H
  rotate_left
  ·have bC := dne_ fJ
   clear fJ
   (first | rw [bC] | (simp only [i64_w, i32_w]; rw [bC]) | rw [c11b1] | skip)
   have H' := am_ H
   clear H
   go_wp2
   repeat (go_quiet (fail); try go_wp2)
   go_meet
   case rel => exact ⟨_, (false), sr_, H', ⟨by first | omega | exact Nat.le_refl _⟩, ⟨kb_ bA.out⟩, ⟨kb_ aA.out⟩, ⟨hs2_ eA.out fA.out⟩⟩
  have bC := dge_ fJ
  clear fJ
  (first | rw [bC] | (simp only [i64_w, i32_w]; rw [bC]) | rw [c11b1] | skip)
  replace H := ifs_ H
  obtain ⟨jP, H⟩ := H
  have nJ := decide_eq_true jP
  clear jP
  replace H := ifs_ H
  obtain ⟨kP, H⟩ := H
  have oJ := decide_eq_true kP
  clear kP
  replace H := ite_ H
  obtain ⟨gJ, H⟩ | ⟨gJ, H⟩ := H
  ·have yG := dgt_ gJ
   clear gJ
   simp only [Option.some.injEq, Prod.mk.injEq] at H
   obtain ⟨rfl, rfl⟩ := H
   have wP := gA.out
   have xP := hA.out
   obtain ⟨jM, kM, lM, mM, nM, oM⟩ := cf3_ bA.out
   have hB : 0 ≤ (oA : Int) := oa_
   have iB : oA < (l0_0.length : Int) := oa_
   obtain ⟨zC, cC, dC, xC, uA, vA, wA, xA, yA, zA⟩ := at_T81 kB.out oA hB iB
   cases xC
   replace uA := pc_ HB.out uA
   replace vA := pc_ HB.out vA
   replace wA := pc_ HB.out wA
   replace xA := pc_ HB.out xA
   have gB := am_ zA
   have eC := am_ yA
   clear zA yA
   replace hB := eq_true hB
   replace iB := eq_true iB
   go_wp2_with (first | ((with_reducible refine gate_dst (N := 8) rfl ?_); (try (refine gate_guard (by rfl) ?_; dsimp only)); refine bq_ (N := 8) #[.int .i64 0, .int .i64 0, .int .i64 0, .slice none 0 0] 81 ?_; intro eB hg yP jA hb; have sA := ge2_ hg eA fA; replace HB := nc2_ eA fA hb; have iA := nl_ bA hg; have kA := ng_ bA hg; replace bA := bK_ bA hb; have cA := nl_ aA hg; have dA := ng_ aA hg; replace aA := bK_ aA hb; clear hb hg; have zG := kA.out; have aH := iA.out; have bH := dA.out; have cH := cA.out; obtain ⟨aD, bD, cD, dD, eD, fD, gD, hD⟩ := cf4_ jA.out; obtain ⟨iD, jD, kD, lD, mD, nD, oD, pD⟩ := cf4_ aA.out))
   repeat (go_quiet (first | ((with_reducible refine gate_dst (N := 8) rfl ?_); (try (refine gate_guard (by rfl) ?_; dsimp only)); refine bq_ (N := 8) #[.int .i64 0, .int .i64 0, .int .i64 0, .slice none 0 0] 81 ?_; intro eB hg yP jA hb; have sA := ge2_ hg eA fA; replace HB := nc2_ eA fA hb; have iA := nl_ bA hg; have kA := ng_ bA hg; replace bA := bK_ bA hb; have cA := nl_ aA hg; have dA := ng_ aA hg; replace aA := bK_ aA hb; clear hb hg; have zG := kA.out; have aH := iA.out; have bH := dA.out; have cH := cA.out; obtain ⟨aD, bD, cD, dD, eD, fD, gD, hD⟩ := cf4_ jA.out; obtain ⟨iD, jD, kD, lD, mD, nD, oD, pD⟩ := cf4_ aA.out)); try go_wp2_with (first | ((with_reducible refine gate_dst (N := 8) rfl ?_); (try (refine gate_guard (by rfl) ?_; dsimp only)); refine bq_ (N := 8) #[.int .i64 0, .int .i64 0, .int .i64 0, .slice none 0 0] 81 ?_; intro eB hg yP jA hb; have sA := ge2_ hg eA fA; replace HB := nc2_ eA fA hb; have iA := nl_ bA hg; have kA := ng_ bA hg; replace bA := bK_ bA hb; have cA := nl_ aA hg; have dA := ng_ aA hg; replace aA := bK_ aA hb; clear hb hg; have zG := kA.out; have aH := iA.out; have bH := dA.out; have cH := cA.out; obtain ⟨aD, bD, cD, dD, eD, fD, gD, hD⟩ := cf4_ jA.out; obtain ⟨iD, jD, kD, lD, mD, nD, oD, pD⟩ := cf4_ aA.out)))
   go_ret2
   exact ⟨er_, hs3_ eA.out fA.out sA.out⟩
  have yG := dgf_ gJ
  clear gJ
  replace H := ite_ H
  obtain ⟨zI, H⟩ | ⟨zI, H⟩ := H
  rotate_left
  ·have dH : (((rd_T81 l0_0 oA).f1) == a1_1) = false := beq_eq_false_iff_ne.mpr zI
   have eH : (((rd_T81 l0_0 oA).f1) != a1_1) = true := bne_iff_ne.mpr zI
   have H' := am_ H
   clear H
   have zP := gA.out
   have aQ := hA.out
   obtain ⟨pM, qM, rM, sM, tM, uM⟩ := cf3_ bA.out
   have hB : 0 ≤ (oA : Int) := oa_
   have iB : oA < (l0_0.length : Int) := oa_
   obtain ⟨zC, cC, dC, xC, uA, vA, wA, xA, yA, zA⟩ := at_T81 kB.out oA hB iB
   cases xC
   replace uA := pc_ HB.out uA
   replace vA := pc_ HB.out vA
   replace wA := pc_ HB.out wA
   replace xA := pc_ HB.out xA
   have gB := am_ zA
   have eC := am_ yA
   clear zA yA
   replace hB := eq_true hB
   replace iB := eq_true iB
   go_wp2_with (first | ((with_reducible refine gate_dst (N := 8) rfl ?_); (try (refine gate_guard (by rfl) ?_; dsimp only)); refine bq_ (N := 8) #[.int .i64 0, .int .i64 0, .int .i64 0, .slice none 0 0] 81 ?_; intro eB hg bQ jA hb; have sA := ge2_ hg eA fA; replace HB := nc2_ eA fA hb; have iA := nl_ bA hg; have kA := ng_ bA hg; replace bA := bK_ bA hb; have cA := nl_ aA hg; have dA := ng_ aA hg; replace aA := bK_ aA hb; clear hb hg; have fH := kA.out; have gH := iA.out; have hH := dA.out; have iH := cA.out; obtain ⟨qD, rD, sD, tD, uD, vD, wD, xD⟩ := cf4_ jA.out; obtain ⟨yD, zD, aE, bE, cE, dE, eE, fE⟩ := cf4_ aA.out))
   repeat (go_quiet (first | ((with_reducible refine gate_dst (N := 8) rfl ?_); (try (refine gate_guard (by rfl) ?_; dsimp only)); refine bq_ (N := 8) #[.int .i64 0, .int .i64 0, .int .i64 0, .slice none 0 0] 81 ?_; intro eB hg bQ jA hb; have sA := ge2_ hg eA fA; replace HB := nc2_ eA fA hb; have iA := nl_ bA hg; have kA := ng_ bA hg; replace bA := bK_ bA hb; have cA := nl_ aA hg; have dA := ng_ aA hg; replace aA := bK_ aA hb; clear hb hg; have fH := kA.out; have gH := iA.out; have hH := dA.out; have iH := cA.out; obtain ⟨qD, rD, sD, tD, uD, vD, wD, xD⟩ := cf4_ jA.out; obtain ⟨yD, zD, aE, bE, cE, dE, eE, fE⟩ := cf4_ aA.out)); try go_wp2_with (first | ((with_reducible refine gate_dst (N := 8) rfl ?_); (try (refine gate_guard (by rfl) ?_; dsimp only)); refine bq_ (N := 8) #[.int .i64 0, .int .i64 0, .int .i64 0, .slice none 0 0] 81 ?_; intro eB hg bQ jA hb; have sA := ge2_ hg eA fA; replace HB := nc2_ eA fA hb; have iA := nl_ bA hg; have kA := ng_ bA hg; replace bA := bK_ bA hb; have cA := nl_ aA hg; have dA := ng_ aA hg; replace aA := bK_ aA hb; clear hb hg; have fH := kA.out; have gH := iA.out; have hH := dA.out; have iH := cA.out; obtain ⟨qD, rD, sD, tD, uD, vD, wD, xD⟩ := cf4_ jA.out; obtain ⟨yD, zD, aE, bE, cE, dE, eE, fE⟩ := cf4_ aA.out)))
   go_meet
   case rel => exact ⟨_, ((((rd_T81 l0_0 oA).f1) == a1_1)), sr_, H', ⟨by first | omega | exact Nat.le_refl _⟩, ⟨uf_ bA iA.out⟩, ⟨uf_ aA cA.out⟩, ⟨hs3_ eA.out fA.out sA.out⟩⟩
  have dH : (((rd_T81 l0_0 oA).f1) == a1_1) = true := beq_iff_eq.mpr zI
  have eH : (((rd_T81 l0_0 oA).f1) != a1_1) = false := bne_eq_false_iff_eq.mpr zI
  clear zI
  replace H := ite_ H
  obtain ⟨aJ, H⟩ | ⟨aJ, H⟩ := H
  ·have jH : (a1_2 == ((rd_T81 l0_0 oA).f2)) = true := beq_iff_eq.mpr aJ
   have kH : (a1_2 != ((rd_T81 l0_0 oA).f2)) = false := bne_eq_false_iff_eq.mpr aJ
   clear aJ
   have H' := am_ H
   clear H
   have cQ := gA.out
   have dQ := hA.out
   obtain ⟨vM, wM, xM, yM, zM, aN⟩ := cf3_ bA.out
   have hB : 0 ≤ (oA : Int) := oa_
   have iB : oA < (l0_0.length : Int) := oa_
   obtain ⟨zC, cC, dC, xC, uA, vA, wA, xA, yA, zA⟩ := at_T81 kB.out oA hB iB
   cases xC
   replace uA := pc_ HB.out uA
   replace vA := pc_ HB.out vA
   replace wA := pc_ HB.out wA
   replace xA := pc_ HB.out xA
   have gB := am_ zA
   have eC := am_ yA
   clear zA yA
   replace hB := eq_true hB
   replace iB := eq_true iB
   go_wp2_with (first | ((with_reducible refine gate_dst (N := 8) rfl ?_); (try (refine gate_guard (by rfl) ?_; dsimp only)); refine bq_ (N := 8) #[.int .i64 0, .int .i64 0, .int .i64 0, .slice none 0 0] 81 ?_; intro eB hg eQ jA hb; have sA := ge2_ hg eA fA; replace HB := nc2_ eA fA hb; have iA := nl_ bA hg; have kA := ng_ bA hg; replace bA := bK_ bA hb; have cA := nl_ aA hg; have dA := ng_ aA hg; replace aA := bK_ aA hb; clear hb hg; have lH := kA.out; have mH := iA.out; have nH := dA.out; have oH := cA.out; obtain ⟨gE, hE, iE, jE, kE, lE, mE, nE⟩ := cf4_ jA.out; obtain ⟨oE, pE, qE, rE, sE, tE, uE, vE⟩ := cf4_ aA.out))
   repeat (go_quiet (first | ((with_reducible refine gate_dst (N := 8) rfl ?_); (try (refine gate_guard (by rfl) ?_; dsimp only)); refine bq_ (N := 8) #[.int .i64 0, .int .i64 0, .int .i64 0, .slice none 0 0] 81 ?_; intro eB hg eQ jA hb; have sA := ge2_ hg eA fA; replace HB := nc2_ eA fA hb; have iA := nl_ bA hg; have kA := ng_ bA hg; replace bA := bK_ bA hb; have cA := nl_ aA hg; have dA := ng_ aA hg; replace aA := bK_ aA hb; clear hb hg; have lH := kA.out; have mH := iA.out; have nH := dA.out; have oH := cA.out; obtain ⟨gE, hE, iE, jE, kE, lE, mE, nE⟩ := cf4_ jA.out; obtain ⟨oE, pE, qE, rE, sE, tE, uE, vE⟩ := cf4_ aA.out)); try go_wp2_with (first | ((with_reducible refine gate_dst (N := 8) rfl ?_); (try (refine gate_guard (by rfl) ?_; dsimp only)); refine bq_ (N := 8) #[.int .i64 0, .int .i64 0, .int .i64 0, .slice none 0 0] 81 ?_; intro eB hg eQ jA hb; have sA := ge2_ hg eA fA; replace HB := nc2_ eA fA hb; have iA := nl_ bA hg; have kA := ng_ bA hg; replace bA := bK_ bA hb; have cA := nl_ aA hg; have dA := ng_ aA hg; replace aA := bK_ aA hb; clear hb hg; have lH := kA.out; have mH := iA.out; have nH := dA.out; have oH := cA.out; obtain ⟨gE, hE, iE, jE, kE, lE, mE, nE⟩ := cf4_ jA.out; obtain ⟨oE, pE, qE, rE, sE, tE, uE, vE⟩ := cf4_ aA.out)))
   go_meet
   case rel => exact ⟨_, ((((rd_T81 l0_0 oA).f1) == a1_1)), sr_, H', ⟨by first | omega | exact Nat.le_refl _⟩, ⟨uf_ bA iA.out⟩, ⟨uf_ aA cA.out⟩, ⟨hs3_ eA.out fA.out sA.out⟩⟩
  have jH : (a1_2 == ((rd_T81 l0_0 oA).f2)) = false := beq_eq_false_iff_ne.mpr aJ
  have kH : (a1_2 != ((rd_T81 l0_0 oA).f2)) = true := bne_iff_ne.mpr aJ
  have H' := am_ H
  clear H
  have fQ := gA.out
  have gQ := hA.out
  obtain ⟨sG, tG, uG, vG, wG, xG⟩ := cf3_ bA.out
  have hB : 0 ≤ (oA : Int) := oa_
  have iB : oA < (l0_0.length : Int) := oa_
  obtain ⟨zC, cC, dC, xC, uA, vA, wA, xA, yA, zA⟩ := at_T81 kB.out oA hB iB
  cases xC
  replace uA := pc_ HB.out uA
  replace vA := pc_ HB.out vA
  replace wA := pc_ HB.out wA
  replace xA := pc_ HB.out xA
  have gB := am_ zA
  have eC := am_ yA
  clear zA yA
  replace hB := eq_true hB
  replace iB := eq_true iB
  go_wp2_with (first | ((with_reducible refine gate_dst (N := 8) rfl ?_); (try (refine gate_guard (by rfl) ?_; dsimp only)); refine bq_ (N := 8) #[.int .i64 0, .int .i64 0, .int .i64 0, .slice none 0 0] 81 ?_; intro eB hg hQ jA hb; have sA := ge2_ hg eA fA; replace HB := nc2_ eA fA hb; have iA := nl_ bA hg; have kA := ng_ bA hg; replace bA := bK_ bA hb; have cA := nl_ aA hg; have dA := ng_ aA hg; replace aA := bK_ aA hb; clear hb hg; have pH := kA.out; have qH := iA.out; have rH := dA.out; have sH := cA.out; obtain ⟨fC, gC, hC, iC, jC, kC, lC, mC⟩ := cf4_ jA.out; obtain ⟨nC, oC, pC, qC, rC, sC, tC, uC⟩ := cf4_ aA.out))
  repeat (go_quiet (first | ((with_reducible refine gate_dst (N := 8) rfl ?_); (try (refine gate_guard (by rfl) ?_; dsimp only)); refine bq_ (N := 8) #[.int .i64 0, .int .i64 0, .int .i64 0, .slice none 0 0] 81 ?_; intro eB hg hQ jA hb; have sA := ge2_ hg eA fA; replace HB := nc2_ eA fA hb; have iA := nl_ bA hg; have kA := ng_ bA hg; replace bA := bK_ bA hb; have cA := nl_ aA hg; have dA := ng_ aA hg; replace aA := bK_ aA hb; clear hb hg; have pH := kA.out; have qH := iA.out; have rH := dA.out; have sH := cA.out; obtain ⟨fC, gC, hC, iC, jC, kC, lC, mC⟩ := cf4_ jA.out; obtain ⟨nC, oC, pC, qC, rC, sC, tC, uC⟩ := cf4_ aA.out)); try go_wp2_with (first | ((with_reducible refine gate_dst (N := 8) rfl ?_); (try (refine gate_guard (by rfl) ?_; dsimp only)); refine bq_ (N := 8) #[.int .i64 0, .int .i64 0, .int .i64 0, .slice none 0 0] 81 ?_; intro eB hg hQ jA hb; have sA := ge2_ hg eA fA; replace HB := nc2_ eA fA hb; have iA := nl_ bA hg; have kA := ng_ bA hg; replace bA := bK_ bA hb; have cA := nl_ aA hg; have dA := ng_ aA hg; replace aA := bK_ aA hb; clear hb hg; have pH := kA.out; have qH := iA.out; have rH := dA.out; have sH := cA.out; obtain ⟨fC, gC, hC, iC, jC, kC, lC, mC⟩ := cf4_ jA.out; obtain ⟨nC, oC, pC, qC, rC, sC, tC, uC⟩ := cf4_ aA.out)))
  go_loopg [43] k (fun kq kR w' => ∃ (tA : Int), kR = .int .i64 tA ∧ Aside0 (impl_Part_codeOf.l0 kq ((rd_T81 l0_0 oA).f3) (((rd_T81 l0_0 oA).f3).length : Int) tA a1_0 a1_1 a1_2 l1_3 ((rd_T81 l0_0 oA).f0) ((rd_T81 l0_0 oA).f1) ((rd_T81 l0_0 oA).f2) ((rd_T81 l0_0 oA).f3) = some (r1, r2)) ∧ Aside0 (kq ≤ k) ∧ Aside0 (w'.heap[vC]? = some (.cells #[(.slice (some zC) l0_0.length c0_0), (.slice A0_1 l0_1.length c0_1), .int .i64 a0_2] 33 (0, 0))) ∧ Aside0 (w'.heap[wC]? = some (.cells #[.int .i64 a1_0, .int .i64 a1_1, .int .i64 a1_2, (.slice A1_3 l1_3.length c1_3)] 57 (0, 0))) ∧ Aside0 (w'.heap[eB]? = some (.cells #[.int .i64 ((rd_T81 l0_0 oA).f0), .int .i64 ((rd_T81 l0_0 oA).f1), .int .i64 ((rd_T81 l0_0 oA).f2), (.slice cC ((rd_T81 l0_0 oA).f3).length dC)] 81 (0, 0))) ∧ Aside0 (Below w.heap.size w w'))
  case atStart => exact ⟨(0), sr_, H', ⟨Nat.le_refl _⟩, ⟨uf_ bA iA.out⟩, ⟨uf_ aA cA.out⟩, ⟨up_ jA⟩, ⟨hs3_ eA.out fA.out sA.out⟩⟩
  case round =>
   clear H'
   try clear fJ
   try clear bC
   try clear jP
   try clear nJ
   try clear kP
   try clear oJ
   try clear gJ
   try clear yG
   try clear zI
   try clear dH
   try clear eH
   try clear aJ
   try clear jH
   try clear kH
   try clear sG
   try clear tG
   try clear uG
   try clear fC
   try clear gC
   try clear hC
   try clear iC
   try clear nC
   try clear oC
   try clear pC
   try clear qC
   try clear lB
   try clear mB
   try clear nB
   try clear rB
   try clear sB
   try clear tB
   try clear uB
   try clear vG
   try clear wG
   try clear xG
   try clear jC
   try clear kC
   try clear lC
   try clear mC
   try clear rC
   try clear sC
   try clear tC
   try clear uC
   try clear oB
   try clear pB
   try clear qB
   try clear vB
   try clear wB
   try clear xB
   try clear yB
   try clear uA
   try clear vA
   try clear wA
   try clear xA
   try clear hB
   try clear iB
   obtain ⟨tA, rfl, HA, bN, bA, aA, jA, HB⟩ := hrel
   cases gk with
   | zero => exact absurd HA.out (by simp [impl_Part_codeOf.l0])
   | succ k1 =>
    have H := HA.out
    clear HA
    simp only [impl_Part_codeOf.l0] at H
    replace H := ite_ H
    obtain ⟨pJ, H⟩ | ⟨pJ, H⟩ := H
    rotate_left
    ·have qJ := decide_eq_false pJ
     clear pJ
     replace H := ite_ H
     obtain ⟨rJ, H⟩ | ⟨rJ, H⟩ := H
     ·have sJ := decide_eq_true rJ
      clear rJ
      simp only [Option.some.injEq, Prod.mk.injEq] at H
      obtain ⟨rfl, rfl⟩ := H
      have iQ := hA.out
      have jQ := gA.out
      have kQ := cA.out
      have lQ := dA.out
      obtain ⟨cN, dN, eN, fN, gN, hN, iN, jN⟩ := cf4_ aA.out
      have mQ := kA.out
      have nQ := iA.out
      obtain ⟨kN, lN, mN, nN, oN, pN, qN, rN⟩ := cf4_ jA.out
      go_wp2
      repeat (go_quiet (fail); try go_wp2)
      go_ret2
      exact ⟨er_, hs3_ eA.out fA.out sA.out⟩
     have sJ := decide_eq_false rJ
     clear rJ
     simp only [Option.some.injEq, Prod.mk.injEq] at H
     obtain ⟨rfl, rfl⟩ := H
     have oQ := hA.out
     have pQ := gA.out
     have qQ := cA.out
     have rQ := dA.out
     obtain ⟨sN, tN, uN, vN, wN, xN, yN, zN⟩ := cf4_ aA.out
     have sQ := kA.out
     have tQ := iA.out
     obtain ⟨aO, bO, cO, dO, eO, fO, gO, hO⟩ := cf4_ jA.out
     go_wp2
     repeat (go_quiet (fail); try go_wp2)
     go_ret2
     exact ⟨er_, hs3_ eA.out fA.out sA.out⟩
    have qJ := decide_eq_true pJ
    clear pJ
    replace H := ifs_ H
    obtain ⟨uQ, H⟩ := H
    have vQ := decide_eq_true uQ
    clear uQ
    replace H := ifs_ H
    obtain ⟨wQ, H⟩ := H
    have xQ := decide_eq_true wQ
    clear wQ
    replace H := ite_ H
    obtain ⟨hJ, H⟩ | ⟨hJ, H⟩ := H
    rotate_left
    ·have tJ : (((rd_T112 ((rd_T81 l0_0 oA).f3) tA).f0) == a1_2) = false := beq_eq_false_iff_ne.mpr hJ
     have uJ : (((rd_T112 ((rd_T81 l0_0 oA).f3) tA).f0) != a1_2) = true := bne_iff_ne.mpr hJ
     have H' := am_ H
     clear H
     have zB : 0 ≤ (tA : Int) := oa_
     have aC : tA < (((rd_T81 l0_0 oA).f3).length : Int) := oa_
     obtain ⟨tH, qG, bB, cB, dB⟩ := at_T112 gB.out tA zB aC
     cases qG
     replace bB := pc_ HB.out bB
     replace cB := pc_ HB.out cB
     replace dB := pc_ HB.out dB
     replace zB := eq_true zB
     replace aC := eq_true aC
     go_wp2_with (first | ((with_reducible refine gate_dst (N := 10) rfl ?_); (try (refine gate_guard (by rfl) ?_; dsimp only)); refine bq_ (N := 10) #[.int .i64 0, .int .i64 0, .int .i64 0] 112 ?_; intro jB hg yQ aB hb; have fB := ge3_ hg eA fA sA; replace HB := nc3_ eA fA sA hb; have lA := nl_ bA hg; have pA := ng_ bA hg; replace bA := bK_ bA hb; have mA := nl_ aA hg; have qA := ng_ aA hg; replace aA := bK_ aA hb; have nA := nl_ jA hg; have rA := ng_ jA hg; replace jA := bK_ jA hb; clear hb hg; have uH := pA.out; have vH := lA.out; have wH := qA.out; have xH := mA.out; have yH := rA.out; have zH := nA.out; obtain ⟨wE, xE, yE, zE, aF, bF⟩ := cf3_ aB.out; have aI := hA.out; have bI := gA.out; have cI := cA.out; have dI := dA.out; obtain ⟨cF, dF, eF, fF, gF, hF, iF, jF⟩ := cf4_ aA.out))
     repeat (go_quiet (first | ((with_reducible refine gate_dst (N := 10) rfl ?_); (try (refine gate_guard (by rfl) ?_; dsimp only)); refine bq_ (N := 10) #[.int .i64 0, .int .i64 0, .int .i64 0] 112 ?_; intro jB hg yQ aB hb; have fB := ge3_ hg eA fA sA; replace HB := nc3_ eA fA sA hb; have lA := nl_ bA hg; have pA := ng_ bA hg; replace bA := bK_ bA hb; have mA := nl_ aA hg; have qA := ng_ aA hg; replace aA := bK_ aA hb; have nA := nl_ jA hg; have rA := ng_ jA hg; replace jA := bK_ jA hb; clear hb hg; have uH := pA.out; have vH := lA.out; have wH := qA.out; have xH := mA.out; have yH := rA.out; have zH := nA.out; obtain ⟨wE, xE, yE, zE, aF, bF⟩ := cf3_ aB.out; have aI := hA.out; have bI := gA.out; have cI := cA.out; have dI := dA.out; obtain ⟨cF, dF, eF, fF, gF, hF, iF, jF⟩ := cf4_ aA.out)); try go_wp2_with (first | ((with_reducible refine gate_dst (N := 10) rfl ?_); (try (refine gate_guard (by rfl) ?_; dsimp only)); refine bq_ (N := 10) #[.int .i64 0, .int .i64 0, .int .i64 0] 112 ?_; intro jB hg yQ aB hb; have fB := ge3_ hg eA fA sA; replace HB := nc3_ eA fA sA hb; have lA := nl_ bA hg; have pA := ng_ bA hg; replace bA := bK_ bA hb; have mA := nl_ aA hg; have qA := ng_ aA hg; replace aA := bK_ aA hb; have nA := nl_ jA hg; have rA := ng_ jA hg; replace jA := bK_ jA hb; clear hb hg; have uH := pA.out; have vH := lA.out; have wH := qA.out; have xH := mA.out; have yH := rA.out; have zH := nA.out; obtain ⟨wE, xE, yE, zE, aF, bF⟩ := cf3_ aB.out; have aI := hA.out; have bI := gA.out; have cI := cA.out; have dI := dA.out; obtain ⟨cF, dF, eF, fF, gF, hF, iF, jF⟩ := cf4_ aA.out)))
     go_roundg k1
     case measure => have := bN.out; omega
     case rel => exact ⟨(wrap64 (tA + 1)), sr_, H', ⟨by have := bN.out; omega⟩, ⟨uf_ bA lA.out⟩, ⟨uf_ aA mA.out⟩, ⟨uf_ jA nA.out⟩, ⟨hs4_ eA.out fA.out sA.out fB.out⟩⟩
    have tJ : (((rd_T112 ((rd_T81 l0_0 oA).f3) tA).f0) == a1_2) = true := beq_iff_eq.mpr hJ
    have uJ : (((rd_T112 ((rd_T81 l0_0 oA).f3) tA).f0) != a1_2) = false := bne_eq_false_iff_eq.mpr hJ
    clear hJ
    replace H := ite_ H
    obtain ⟨iJ, H⟩ | ⟨iJ, H⟩ := H
    ·have vJ : (((rd_T112 ((rd_T81 l0_0 oA).f3) tA).f1) == (l1_3.length : Int)) = true := beq_iff_eq.mpr iJ
     have wJ : (((rd_T112 ((rd_T81 l0_0 oA).f3) tA).f1) != (l1_3.length : Int)) = false := bne_eq_false_iff_eq.mpr iJ
     clear iJ
     simp only [Option.some.injEq, Prod.mk.injEq] at H
     obtain ⟨rfl, rfl⟩ := H
     have zB : 0 ≤ (tA : Int) := oa_
     have aC : tA < (((rd_T81 l0_0 oA).f3).length : Int) := oa_
     obtain ⟨tH, qG, bB, cB, dB⟩ := at_T112 gB.out tA zB aC
     cases qG
     replace bB := pc_ HB.out bB
     replace cB := pc_ HB.out cB
     replace dB := pc_ HB.out dB
     replace zB := eq_true zB
     replace aC := eq_true aC
     go_wp2_with (first | ((with_reducible refine gate_dst (N := 10) rfl ?_); (try (refine gate_guard (by rfl) ?_; dsimp only)); refine bq_ (N := 10) #[.int .i64 0, .int .i64 0, .int .i64 0] 112 ?_; intro jB hg zQ aB hb; have fB := ge3_ hg eA fA sA; replace HB := nc3_ eA fA sA hb; have lA := nl_ bA hg; have pA := ng_ bA hg; replace bA := bK_ bA hb; have mA := nl_ aA hg; have qA := ng_ aA hg; replace aA := bK_ aA hb; have nA := nl_ jA hg; have rA := ng_ jA hg; replace jA := bK_ jA hb; clear hb hg; have eI := pA.out; have fI := lA.out; have gI := qA.out; have hI := mA.out; have iI := rA.out; have jI := nA.out; obtain ⟨kF, lF, mF, nF, oF, pF⟩ := cf3_ aB.out; have kI := hA.out; have lI := gA.out; have mI := cA.out; have nI := dA.out; obtain ⟨qF, rF, sF, tF, uF, vF, wF, xF⟩ := cf4_ aA.out))
     repeat (go_quiet (first | ((with_reducible refine gate_dst (N := 10) rfl ?_); (try (refine gate_guard (by rfl) ?_; dsimp only)); refine bq_ (N := 10) #[.int .i64 0, .int .i64 0, .int .i64 0] 112 ?_; intro jB hg zQ aB hb; have fB := ge3_ hg eA fA sA; replace HB := nc3_ eA fA sA hb; have lA := nl_ bA hg; have pA := ng_ bA hg; replace bA := bK_ bA hb; have mA := nl_ aA hg; have qA := ng_ aA hg; replace aA := bK_ aA hb; have nA := nl_ jA hg; have rA := ng_ jA hg; replace jA := bK_ jA hb; clear hb hg; have eI := pA.out; have fI := lA.out; have gI := qA.out; have hI := mA.out; have iI := rA.out; have jI := nA.out; obtain ⟨kF, lF, mF, nF, oF, pF⟩ := cf3_ aB.out; have kI := hA.out; have lI := gA.out; have mI := cA.out; have nI := dA.out; obtain ⟨qF, rF, sF, tF, uF, vF, wF, xF⟩ := cf4_ aA.out)); try go_wp2_with (first | ((with_reducible refine gate_dst (N := 10) rfl ?_); (try (refine gate_guard (by rfl) ?_; dsimp only)); refine bq_ (N := 10) #[.int .i64 0, .int .i64 0, .int .i64 0] 112 ?_; intro jB hg zQ aB hb; have fB := ge3_ hg eA fA sA; replace HB := nc3_ eA fA sA hb; have lA := nl_ bA hg; have pA := ng_ bA hg; replace bA := bK_ bA hb; have mA := nl_ aA hg; have qA := ng_ aA hg; replace aA := bK_ aA hb; have nA := nl_ jA hg; have rA := ng_ jA hg; replace jA := bK_ jA hb; clear hb hg; have eI := pA.out; have fI := lA.out; have gI := qA.out; have hI := mA.out; have iI := rA.out; have jI := nA.out; obtain ⟨kF, lF, mF, nF, oF, pF⟩ := cf3_ aB.out; have kI := hA.out; have lI := gA.out; have mI := cA.out; have nI := dA.out; obtain ⟨qF, rF, sF, tF, uF, vF, wF, xF⟩ := cf4_ aA.out)))
     go_ret2
     exact ⟨er_, hs4_ eA.out fA.out sA.out fB.out⟩
    have vJ : (((rd_T112 ((rd_T81 l0_0 oA).f3) tA).f1) == (l1_3.length : Int)) = false := beq_eq_false_iff_ne.mpr iJ
    have wJ : (((rd_T112 ((rd_T81 l0_0 oA).f3) tA).f1) != (l1_3.length : Int)) = true := bne_iff_ne.mpr iJ
    have H' := am_ H
    clear H
    have zB : 0 ≤ (tA : Int) := oa_
    have aC : tA < (((rd_T81 l0_0 oA).f3).length : Int) := oa_
    obtain ⟨tH, qG, bB, cB, dB⟩ := at_T112 gB.out tA zB aC
    cases qG
    replace bB := pc_ HB.out bB
    replace cB := pc_ HB.out cB
    replace dB := pc_ HB.out dB
    replace zB := eq_true zB
    replace aC := eq_true aC
    go_wp2_with (first | ((with_reducible refine gate_dst (N := 10) rfl ?_); (try (refine gate_guard (by rfl) ?_; dsimp only)); refine bq_ (N := 10) #[.int .i64 0, .int .i64 0, .int .i64 0] 112 ?_; intro jB hg aR aB hb; have fB := ge3_ hg eA fA sA; replace HB := nc3_ eA fA sA hb; have lA := nl_ bA hg; have pA := ng_ bA hg; replace bA := bK_ bA hb; have mA := nl_ aA hg; have qA := ng_ aA hg; replace aA := bK_ aA hb; have nA := nl_ jA hg; have rA := ng_ jA hg; replace jA := bK_ jA hb; clear hb hg; have oI := pA.out; have pI := lA.out; have qI := qA.out; have rI := mA.out; have sI := rA.out; have tI := nA.out; obtain ⟨yF, zF, aG, bG, cG, dG⟩ := cf3_ aB.out; have uI := hA.out; have vI := gA.out; have wI := cA.out; have xI := dA.out; obtain ⟨eG, fG, gG, hG, iG, jG, kG, lG⟩ := cf4_ aA.out))
    repeat (go_quiet (first | ((with_reducible refine gate_dst (N := 10) rfl ?_); (try (refine gate_guard (by rfl) ?_; dsimp only)); refine bq_ (N := 10) #[.int .i64 0, .int .i64 0, .int .i64 0] 112 ?_; intro jB hg aR aB hb; have fB := ge3_ hg eA fA sA; replace HB := nc3_ eA fA sA hb; have lA := nl_ bA hg; have pA := ng_ bA hg; replace bA := bK_ bA hb; have mA := nl_ aA hg; have qA := ng_ aA hg; replace aA := bK_ aA hb; have nA := nl_ jA hg; have rA := ng_ jA hg; replace jA := bK_ jA hb; clear hb hg; have oI := pA.out; have pI := lA.out; have qI := qA.out; have rI := mA.out; have sI := rA.out; have tI := nA.out; obtain ⟨yF, zF, aG, bG, cG, dG⟩ := cf3_ aB.out; have uI := hA.out; have vI := gA.out; have wI := cA.out; have xI := dA.out; obtain ⟨eG, fG, gG, hG, iG, jG, kG, lG⟩ := cf4_ aA.out)); try go_wp2_with (first | ((with_reducible refine gate_dst (N := 10) rfl ?_); (try (refine gate_guard (by rfl) ?_; dsimp only)); refine bq_ (N := 10) #[.int .i64 0, .int .i64 0, .int .i64 0] 112 ?_; intro jB hg aR aB hb; have fB := ge3_ hg eA fA sA; replace HB := nc3_ eA fA sA hb; have lA := nl_ bA hg; have pA := ng_ bA hg; replace bA := bK_ bA hb; have mA := nl_ aA hg; have qA := ng_ aA hg; replace aA := bK_ aA hb; have nA := nl_ jA hg; have rA := ng_ jA hg; replace jA := bK_ jA hb; clear hb hg; have oI := pA.out; have pI := lA.out; have qI := qA.out; have rI := mA.out; have sI := rA.out; have tI := nA.out; obtain ⟨yF, zF, aG, bG, cG, dG⟩ := cf3_ aB.out; have uI := hA.out; have vI := gA.out; have wI := cA.out; have xI := dA.out; obtain ⟨eG, fG, gG, hG, iG, jG, kG, lG⟩ := cf4_ aA.out)))
    go_roundg k1
    case measure => have := bN.out; omega
    case rel => exact ⟨(wrap64 (tA + 1)), sr_, H', ⟨by have := bN.out; omega⟩, ⟨uf_ bA lA.out⟩, ⟨uf_ aA mA.out⟩, ⟨uf_ jA nA.out⟩, ⟨hs4_ eA.out fA.out sA.out fB.out⟩⟩
 case rest =>
  clear iP
  try clear lB
  try clear mB
  try clear nB
  try clear rB
  try clear sB
  try clear tB
  try clear uB
  try clear oB
  try clear pB
  try clear qB
  try clear vB
  try clear wB
  try clear xB
  try clear yB
  obtain ⟨kq, yI, rfl, HA, bR, bA, aA, HB⟩ := hcut
  cases kq with
  | zero => exact absurd HA.out (by simp [impl_Part_codeOf.j1])
  | succ kj3 =>
   have H := HA.out
   clear HA
   simp only [impl_Part_codeOf.j1] at H
   have bJ := am_ H
   clear H
   go_upto_region 18 with (fail)
   repeat (go_quiet (fail); go_upto_region 18 with (fail))
   go_cut [68] (fun lR wc => ∃ (kq : Nat) (yC : Bool), lR = .bool yC ∧ Aside0 (impl_Part_codeOf.j2 kq oA yC l0_0 l0_1 a0_2 a1_0 a1_1 a1_2 l1_3 = some (r1, r2)) ∧ Aside0 (kq ≤ kj3) ∧ Aside0 (wc.heap[vC]? = some (.cells #[(.slice A0_0 l0_0.length c0_0), (.slice A0_1 l0_1.length c0_1), .int .i64 a0_2] 33 (0, 0))) ∧ Aside0 (wc.heap[wC]? = some (.cells #[.int .i64 a1_0, .int .i64 a1_1, .int .i64 a1_2, (.slice A1_3 l1_3.length c1_3)] 57 (0, 0))) ∧ Aside0 (Below w.heap.size w wc))
   case first =>
    have H := bJ.out
    clear bJ
    replace H := ifb_ H
    obtain ⟨rfl, H⟩ | ⟨rfl, H⟩ := H
    ·have H' := am_ H
     clear H
     go_wp2
     repeat (go_quiet (fail); try go_wp2)
     go_meet
     case rel => exact ⟨_, (false), sr_, H', ⟨by have := bR.out; first | omega | exact Nat.le_refl _⟩, ⟨kb_ bA.out⟩, ⟨kb_ aA.out⟩, ⟨hs2_ eA.out fA.out⟩⟩
    have H' := am_ H
    clear H
    have cR := hA.out
    have dR := gA.out
    obtain ⟨iO, jO, kO, lO, mO, nO, oO, pO⟩ := cf4_ aA.out
    go_wp2
    repeat (go_quiet (fail); try go_wp2)
    go_meet
    case rel => exact ⟨_, ((a1_2 != 0)), sr_, H', ⟨by have := bR.out; first | omega | exact Nat.le_refl _⟩, ⟨kb_ bA.out⟩, ⟨kb_ aA.out⟩, ⟨hs2_ eA.out fA.out⟩⟩
   case rest =>
    clear bJ
    try clear lB
    try clear mB
    try clear nB
    try clear rB
    try clear sB
    try clear tB
    try clear uB
    try clear oB
    try clear pB
    try clear qB
    try clear vB
    try clear wB
    try clear xB
    try clear yB
    obtain ⟨kq, yC, rfl, HA, mR, bA, aA, HB⟩ := hcut
    cases kq with
    | zero => exact absurd HA.out (by simp [impl_Part_codeOf.j2])
    | succ kj84 =>
     have H := HA.out
     clear HA
     simp only [impl_Part_codeOf.j2] at H
     replace H := ifb_ H
     obtain ⟨rfl, H⟩ | ⟨rfl, H⟩ := H
     ·simp only [Option.some.injEq, Prod.mk.injEq] at H
      obtain ⟨rfl, rfl⟩ := H
      go_wp2
      repeat (go_quiet (fail); try go_wp2)
      go_ret2
      exact ⟨er_, hs2_ eA.out fA.out⟩
     replace H := ite_ H
     obtain ⟨xJ, H⟩ | ⟨xJ, H⟩ := H
     rotate_left
     ·have yJ := decide_eq_false xJ
      clear xJ
      replace H := ite_ H
      obtain ⟨mG, H⟩ | ⟨mG, H⟩ := H
      ·have cJ : ((l0_1.length : Int) == 60) = true := beq_iff_eq.mpr mG
       have dJ : ((l0_1.length : Int) != 60) = false := bne_eq_false_iff_eq.mpr mG
       clear mG
       simp only [Option.some.injEq, Prod.mk.injEq] at H
       obtain ⟨rfl, rfl⟩ := H
       have lP := gA.out
       have mP := hA.out
       obtain ⟨zJ, aK, bK, cK, dK, eK⟩ := cf3_ bA.out
       go_wp2
       repeat (go_quiet (fail); try go_wp2)
       go_ret2
       exact ⟨er_, hs2_ eA.out fA.out⟩
      have cJ : ((l0_1.length : Int) == 60) = false := beq_eq_false_iff_ne.mpr mG
      have dJ : ((l0_1.length : Int) != 60) = true := bne_iff_ne.mpr mG
      replace H := ite_ H
      obtain ⟨rG, H⟩ | ⟨rG, H⟩ := H
      rotate_left
      ·have eJ := dgf_ rG
       clear rG
       simp only [Option.some.injEq, Prod.mk.injEq] at H
       obtain ⟨rfl, rfl⟩ := H
       have nP := gA.out
       have oP := hA.out
       obtain ⟨fK, gK, hK, iK, jK, kK⟩ := cf3_ bA.out
       obtain ⟨lK, mK, nK, oK, pK, qK, rK, sK⟩ := cf4_ aA.out
       go_wp2
       repeat (go_quiet (fail); try go_wp2)
       go_ret2
       exact ⟨er_, hs2_ eA.out fA.out⟩
      have eJ := dgt_ rG
      clear rG
      simp only [Option.some.injEq, Prod.mk.injEq] at H
      obtain ⟨rfl, rfl⟩ := H
      have pP := gA.out
      have qP := hA.out
      obtain ⟨tK, uK, vK, wK, xK, yK⟩ := cf3_ bA.out
      obtain ⟨zK, aL, bL, cL, dL, eL, fL, gL⟩ := cf4_ aA.out
      go_wp2
      repeat (go_quiet (fail); try go_wp2)
      go_ret2
      exact ⟨er_, hs2_ eA.out fA.out⟩
     have yJ := decide_eq_true xJ
     clear xJ
     replace H := ite_ H
     obtain ⟨jJ, H⟩ | ⟨jJ, H⟩ := H
     ·have hL : ((l0_0.length : Int) == 4) = true := beq_iff_eq.mpr jJ
      have iL : ((l0_0.length : Int) != 4) = false := bne_eq_false_iff_eq.mpr jJ
      clear jJ
      simp only [Option.some.injEq, Prod.mk.injEq] at H
      obtain ⟨rfl, rfl⟩ := H
      have eR := gA.out
      have fR := hA.out
      obtain ⟨qO, rO, sO, tO, uO, vO⟩ := cf3_ bA.out
      go_wp2
      repeat (go_quiet (fail); try go_wp2)
      go_ret2
      exact ⟨er_, hs2_ eA.out fA.out⟩
     have hL : ((l0_0.length : Int) == 4) = false := beq_eq_false_iff_ne.mpr jJ
     have iL : ((l0_0.length : Int) != 4) = true := bne_iff_ne.mpr jJ
     replace H := ite_ H
     obtain ⟨kJ, H⟩ | ⟨kJ, H⟩ := H
     ·have jL : ((l0_1.length : Int) == 60) = true := beq_iff_eq.mpr kJ
      have kL : ((l0_1.length : Int) != 60) = false := bne_eq_false_iff_eq.mpr kJ
      clear kJ
      simp only [Option.some.injEq, Prod.mk.injEq] at H
      obtain ⟨rfl, rfl⟩ := H
      have gR := gA.out
      have hR := hA.out
      obtain ⟨wO, xO, yO, zO, aP, bP⟩ := cf3_ bA.out
      go_wp2
      repeat (go_quiet (fail); try go_wp2)
      go_ret2
      exact ⟨er_, hs2_ eA.out fA.out⟩
     have jL : ((l0_1.length : Int) == 60) = false := beq_eq_false_iff_ne.mpr kJ
     have kL : ((l0_1.length : Int) != 60) = true := bne_iff_ne.mpr kJ
     replace H := ite_ H
     obtain ⟨lL, H⟩ | ⟨lL, H⟩ := H
     ·have mL := dgt_ lL
      clear lL
      simp only [Option.some.injEq, Prod.mk.injEq] at H
      obtain ⟨rfl, rfl⟩ := H
      have iR := gA.out
      have jR := hA.out
      obtain ⟨cP, dP, eP, fP, gP, hP⟩ := cf3_ bA.out
      obtain ⟨nL, oL, pL, qL, rL, sL, tL, uL⟩ := cf4_ aA.out
      go_wp2
      repeat (go_quiet (fail); try go_wp2)
      go_ret2
      exact ⟨er_, hs2_ eA.out fA.out⟩
     have mL := dgf_ lL
     clear lL
     simp only [Option.some.injEq, Prod.mk.injEq] at H
     obtain ⟨rfl, rfl⟩ := H
     have rP := gA.out
     have sP := hA.out
     obtain ⟨vL, wL, xL, yL, zL, aM⟩ := cf3_ bA.out
     obtain ⟨bM, cM, dM, eM, fM, gM, hM, iM⟩ := cf4_ aA.out
     go_wp2
     repeat (go_quiet (fail); try go_wp2)
     go_ret2
     exact ⟨er_, hs2_ eA.out fA.out⟩
end Go.Proofs.Ytojdaolclcmalaa.QFnExactAskPart
