/- Functions that one statement reaches: of each a plain function, and the proof that calls come to it. Conditions: those that each contract names. Written by a program of this repository. -/
import Derived.Test.YtojdaolclcmalaaVAskParta
import Derived.Test.YtojdaolclcmalaaQFnExactAskPartx1
import Derived.Test.YtojdaolclcmalaaQFnExactAskPartx11
namespace Go.Proofs.Ytojdaolclcmalaa.QFnExactAskPart
open Go.RowKit Go.Proofs.YtojdaolclcmalaaW.PrintWords Go.Proofs.YtojdaolclcmalaaW.PrintLast Go.Proofs.YtojdaolclcmalaaW.PrintMore
attribute [local go_sem] max2_int min2_int max_two min_two max_three min_three max_four min_four Go.Proofs.YtojdaolclcmalaaW.PrintMore2.isSome_setCell   -- for this text's walks alone
set_option linter.unusedVariables false
set_option linter.unusedSimpArgs false

attribute [local go_sem high] eqA112
/-! ### spec_l5Same: function 69 -/
mutual
def spec_l5Same.j0 : Nat → Bool → Int → Int → Int → List (S112) → Int → Int → Int → List (S112) → Option (Bool)
 | 0, _, _, _, _, _, _, _, _, _ => none
 | k + 1, x33, x268000, x268001, x268002, x268003, x269000, x269001, x269002, x269003 => if x33 = true then (some false) else (spec_l5Same.l0 k (x268003.length : Int) 0 x268000 x268001 x268002 x268003 x269000 x269001 x269002 x269003)
def spec_l5Same.l0 : Nat → Int → Int → Int → Int → Int → List (S112) → Int → Int → Int → List (S112) → Option (Bool)
 | 0, _, _, _, _, _, _, _, _, _, _ => none
 | k + 1, x36, x37, x268000, x268001, x268002, x268003, x269000, x269001, x269002, x269003 => if x37 < x36 then (if 0 ≤ x37 then (if x37 < (x268003.length : Int) then (if x37 < (x269003.length : Int) then (if (!(((rd_T112 x268003 x37).f0) == ((rd_T112 x269003 x37).f0)) || (!(((rd_T112 x268003 x37).f1) == ((rd_T112 x269003 x37).f1)) || (!(((rd_T112 x268003 x37).f2) == ((rd_T112 x269003 x37).f2))))) = true then (some false) else (spec_l5Same.l0 k x36 (wrap64 (x37 + 1)) x268000 x268001 x268002 x268003 x269000 x269001 x269002 x269003)) else (none)) else (none)) else (none)) else (some true)
end
def spec_l5Same.f (k : Nat) (a0_0 : Int) (a0_1 : Int) (a0_2 : Int) (l0_3 : List (S112)) (a1_0 : Int) (a1_1 : Int) (a1_2 : Int) (l1_3 : List (S112)) : Option (Bool) := if a0_0 = a1_0 then (if a0_1 = a1_1 then (if a0_2 = a1_2 then (spec_l5Same.j0 k ((l0_3.length : Int) != (l1_3.length : Int)) a0_0 a0_1 a0_2 l0_3 a1_0 a1_1 a1_2 l1_3) else (spec_l5Same.j0 k true a0_0 a0_1 a0_2 l0_3 a1_0 a1_1 a1_2 l1_3)) else (spec_l5Same.j0 k true a0_0 a0_1 a0_2 l0_3 a1_0 a1_1 a1_2 l1_3)) else (spec_l5Same.j0 k true a0_0 a0_1 a0_2 l0_3 a1_0 a1_1 a1_2 l1_3)
theorem spec_l5Same.mono_l : ∀ k, (∀ y0 y1 y2 y3 y4 y5 y6 y7 y8, LeO (spec_l5Same.j0 k y0 y1 y2 y3 y4 y5 y6 y7 y8) (spec_l5Same.j0 (k + 1) y0 y1 y2 y3 y4 y5 y6 y7 y8)) ∧ (∀ y0 y1 y2 y3 y4 y5 y6 y7 y8 y9, LeO (spec_l5Same.l0 k y0 y1 y2 y3 y4 y5 y6 y7 y8 y9) (spec_l5Same.l0 (k + 1) y0 y1 y2 y3 y4 y5 y6 y7 y8 y9))
 | 0 => ⟨fun _ _ _ _ _ _ _ _ _ r h => by simp [spec_l5Same.j0] at h, fun _ _ _ _ _ _ _ _ _ _ r h => by simp [spec_l5Same.l0] at h⟩
 | k + 1 => by
  obtain ⟨ih0, ih1⟩ := spec_l5Same.mono_l k
  refine ⟨?_, ?_⟩
  all_goals intros; first | unfold spec_l5Same.j0 | unfold spec_l5Same.l0
  all_goals repeat' first | (with_reducible first | apply ih0 | apply ih1 | exact LeO.refl _ | exact LeO.none _ | refine LeO.ite ?_ ?_ | refine LeO.bind ?_ (fun _ => ?_))
theorem spec_l5Same.mono : ∀ a0 a1 a2 a3 a4 a5 a6 a7 k, LeO (spec_l5Same.f k a0 a1 a2 a3 a4 a5 a6 a7) (spec_l5Same.f (k + 1) a0 a1 a2 a3 a4 a5 a6 a7) := by
 intro a0 a1 a2 a3 a4 a5 a6 a7 k
 obtain ⟨ih0, ih1⟩ := spec_l5Same.mono_l k
 unfold spec_l5Same.f
 repeat' first
   | (with_reducible first | apply ih0 | apply ih1 | exact LeO.refl _ | exact LeO.none _ | refine LeO.ite ?_ ?_ | refine LeO.bind ?_ (fun _ => ?_))
set_option maxHeartbeats 8000000 in
set_option maxRecDepth 100000 in
theorem spec_l5Same.calls (k : Nat) (a0_0 : Int) (a0_1 : Int) (a0_2 : Int) (A0_3 : Option Addr) (c0_3 : Nat) (l0_3 : List (S112)) (a1_0 : Int) (a1_1 : Int) (a1_2 : Int) (A1_3 : Option Addr) (c1_3 : Nat) (l1_3 : List (S112)) (r : Bool) (w : World) (hr0_3 : Kd.C k112 w A0_3 l0_3.length l0_3) (hc0_3 : l0_3.length ≤ c0_3) (hr1_3 : Kd.C k112 w A1_3 l1_3.length l1_3) (hc1_3 : l1_3.length ≤ c1_3) (h : spec_l5Same.f k a0_0 a0_1 a0_2 l0_3 a1_0 a1_1 a1_2 l1_3 = some r) :
  Calls Try.prog 69 #[.agg #[.int .i64 a0_0, .int .i64 a0_1, .int .i64 a0_2, .slice A0_3 l0_3.length c0_3], .agg #[.int .i64 a1_0, .int .i64 a1_1, .int .i64 a1_2, .slice A1_3 l1_3.length c1_3]] w fun e w' => e = .returned (.bool r) ∧ Below w.heap.size w w' := by
 have hu81 := Try.underlying81
 have hu112 := Try.underlying112
 have dB := am_ hr0_3
 have lF := am_ hc0_3
 clear hr0_3 hc0_3
 have eB := am_ hr1_3
 have mF := am_ hc1_3
 clear hr1_3 hc1_3
 have HB := am_ (Below.refl w.heap.size w)
 have H : (if a0_0 = a1_0 then (if a0_1 = a1_1 then (if a0_2 = a1_2 then (spec_l5Same.j0 k ((l0_3.length : Int) != (l1_3.length : Int)) a0_0 a0_1 a0_2 l0_3 a1_0 a1_1 a1_2 l1_3) else (spec_l5Same.j0 k true a0_0 a0_1 a0_2 l0_3 a1_0 a1_1 a1_2 l1_3)) else (spec_l5Same.j0 k true a0_0 a0_1 a0_2 l0_3 a1_0 a1_1 a1_2 l1_3)) else (spec_l5Same.j0 k true a0_0 a0_1 a0_2 l0_3 a1_0 a1_1 a1_2 l1_3)) = some r := h
 clear h
 have gF := am_ H
 clear H
 go_enter Try.func69, Try.ntmps69
 go_upto_region 1 with (first | ((with_reducible refine gate_dst (N := 2) rfl ?_); (try (refine gate_guard (by rfl) ?_; dsimp only)); refine bq_ (N := 2) #[.int .i64 a0_0, .int .i64 a0_1, .int .i64 a0_2, .slice A0_3 l0_3.length c0_3] 81 ?_; intro rA hg w4 aA hb; have eA := ge_ hg; replace HB := nb_ hb; clear hb hg) | ((with_reducible refine gate_dst (N := 3) rfl ?_); (try (refine gate_guard (by rfl) ?_; dsimp only)); refine bq_ (N := 3) #[.int .i64 a1_0, .int .i64 a1_1, .int .i64 a1_2, .slice A1_3 l1_3.length c1_3] 81 ?_; intro sA hg w5 fA hb; have gA := ge1_ hg eA; replace HB := nc_ eA hb; have cA := nl_ aA hg; have dA := ng_ aA hg; replace aA := bK_ aA hb; clear hb hg))
 repeat (go_quiet (first | ((with_reducible refine gate_dst (N := 2) rfl ?_); (try (refine gate_guard (by rfl) ?_; dsimp only)); refine bq_ (N := 2) #[.int .i64 a0_0, .int .i64 a0_1, .int .i64 a0_2, .slice A0_3 l0_3.length c0_3] 81 ?_; intro rA hg w4 aA hb; have eA := ge_ hg; replace HB := nb_ hb; clear hb hg) | ((with_reducible refine gate_dst (N := 3) rfl ?_); (try (refine gate_guard (by rfl) ?_; dsimp only)); refine bq_ (N := 3) #[.int .i64 a1_0, .int .i64 a1_1, .int .i64 a1_2, .slice A1_3 l1_3.length c1_3] 81 ?_; intro sA hg w5 fA hb; have gA := ge1_ hg eA; replace HB := nc_ eA hb; have cA := nl_ aA hg; have dA := ng_ aA hg; replace aA := bK_ aA hb; clear hb hg)); go_upto_region 1 with (first | ((with_reducible refine gate_dst (N := 2) rfl ?_); (try (refine gate_guard (by rfl) ?_; dsimp only)); refine bq_ (N := 2) #[.int .i64 a0_0, .int .i64 a0_1, .int .i64 a0_2, .slice A0_3 l0_3.length c0_3] 81 ?_; intro rA hg w4 aA hb; have eA := ge_ hg; replace HB := nb_ hb; clear hb hg) | ((with_reducible refine gate_dst (N := 3) rfl ?_); (try (refine gate_guard (by rfl) ?_; dsimp only)); refine bq_ (N := 3) #[.int .i64 a1_0, .int .i64 a1_1, .int .i64 a1_2, .slice A1_3 l1_3.length c1_3] 81 ?_; intro sA hg w5 fA hb; have gA := ge1_ hg eA; replace HB := nc_ eA hb; have cA := nl_ aA hg; have dA := ng_ aA hg; replace aA := bK_ aA hb; clear hb hg)))
 (try simp only [Act.put, List.setIfInBounds_toArray, List.set_cons_zero, List.set_cons_succ])
 go_cut [33] (fun hG wc => ∃ (kq : Nat) (tA : Bool), hG = .bool tA ∧ Aside0 (spec_l5Same.j0 kq tA a0_0 a0_1 a0_2 l0_3 a1_0 a1_1 a1_2 l1_3 = some r) ∧ Aside0 (kq ≤ k) ∧ Aside0 (wc.heap[rA]? = some (.cells #[.int .i64 a0_0, .int .i64 a0_1, .int .i64 a0_2, (.slice A0_3 l0_3.length c0_3)] 81 (0, 0))) ∧ Aside0 (wc.heap[sA]? = some (.cells #[.int .i64 a1_0, .int .i64 a1_1, .int .i64 a1_2, (.slice A1_3 l1_3.length c1_3)] 81 (0, 0))) ∧ Aside0 (Below w.heap.size w wc))
 case first =>
  have H := gF.out
  clear gF
  replace H := ite_ H
  obtain ⟨c6, H⟩ | ⟨c6, H⟩ := H
  rotate_left
  ·have uA : (a0_0 == a1_0) = false := beq_eq_false_iff_ne.mpr c6
   have fB : (a0_0 != a1_0) = true := bne_iff_ne.mpr c6
   (first | rw [uA] | (simp only [i64_w, i32_w]; rw [uA]) | rw [fB] | skip)
   have H' := am_ H
   clear H
   have nF := cA.out
   have oF := dA.out
   obtain ⟨oB, pB, qB, rB, sB, tB, uB, vB⟩ := cf4_ aA.out
   obtain ⟨wB, xB, yB, zB, aC, bC, cC, dC⟩ := cf4_ fA.out
   go_wp2
   repeat (go_quiet (fail); try go_wp2)
   go_meet
   case rel => exact ⟨_, (true), sr_, H', ⟨by first | omega | exact Nat.le_refl _⟩, ⟨kb_ aA.out⟩, ⟨kb_ fA.out⟩, ⟨hs2_ eA.out gA.out⟩⟩
  have uA : (a0_0 == a1_0) = true := beq_iff_eq.mpr c6
  have fB : (a0_0 != a1_0) = false := bne_eq_false_iff_eq.mpr c6
  clear c6
  (first | rw [uA] | (simp only [i64_w, i32_w]; rw [uA]) | rw [fB] | skip)
  replace H := ite_ H
  obtain ⟨c7, H⟩ | ⟨c7, H⟩ := H
  rotate_left
  ·have hF : (a0_1 == a1_1) = false := beq_eq_false_iff_ne.mpr c7
   have iF : (a0_1 != a1_1) = true := bne_iff_ne.mpr c7
   have H' := am_ H
   clear H
   have pF := cA.out
   have qF := dA.out
   obtain ⟨eC, fC, gC, hC, iC, jC, kC, lC⟩ := cf4_ aA.out
   obtain ⟨mC, nC, oC, pC, qC, rC, sC, tC⟩ := cf4_ fA.out
   go_wp2
   repeat (go_quiet (fail); try go_wp2)
   go_meet
   case rel => exact ⟨_, (true), sr_, H', ⟨by first | omega | exact Nat.le_refl _⟩, ⟨kb_ aA.out⟩, ⟨kb_ fA.out⟩, ⟨hs2_ eA.out gA.out⟩⟩
  have hF : (a0_1 == a1_1) = true := beq_iff_eq.mpr c7
  have iF : (a0_1 != a1_1) = false := bne_eq_false_iff_eq.mpr c7
  clear c7
  replace H := ite_ H
  obtain ⟨c8, H⟩ | ⟨c8, H⟩ := H
  rotate_left
  ·have jF : (a0_2 == a1_2) = false := beq_eq_false_iff_ne.mpr c8
   have kF : (a0_2 != a1_2) = true := bne_iff_ne.mpr c8
   have H' := am_ H
   clear H
   have rF := cA.out
   have sF := dA.out
   obtain ⟨uC, vC, wC, xC, yC, zC, aD, bD⟩ := cf4_ aA.out
   obtain ⟨cD, dD, eD, fD, gD, hD, iD, jD⟩ := cf4_ fA.out
   go_wp2
   repeat (go_quiet (fail); try go_wp2)
   go_meet
   case rel => exact ⟨_, (true), sr_, H', ⟨by first | omega | exact Nat.le_refl _⟩, ⟨kb_ aA.out⟩, ⟨kb_ fA.out⟩, ⟨hs2_ eA.out gA.out⟩⟩
  have jF : (a0_2 == a1_2) = true := beq_iff_eq.mpr c8
  have kF : (a0_2 != a1_2) = false := bne_eq_false_iff_eq.mpr c8
  clear c8
  have H' := am_ H
  clear H
  have iG := cA.out
  have jG := dA.out
  obtain ⟨kD, lD, mD, nD, oD, pD, qD, rD⟩ := cf4_ aA.out
  obtain ⟨sD, tD, uD, vD, wD, xD, yD, zD⟩ := cf4_ fA.out
  go_wp2
  repeat (go_quiet (fail); try go_wp2)
  go_meet
  case rel => exact ⟨_, (((l0_3.length : Int) != (l1_3.length : Int))), sr_, H', ⟨by first | omega | exact Nat.le_refl _⟩, ⟨kb_ aA.out⟩, ⟨kb_ fA.out⟩, ⟨hs2_ eA.out gA.out⟩⟩
 case rest =>
  clear gF
  obtain ⟨kq, tA, rfl, HA, tF, aA, fA, HB⟩ := hcut
  cases kq with
  | zero => exact absurd HA.out (by simp [spec_l5Same.j0])
  | succ kj2 =>
   have H := HA.out
   clear HA
   simp only [spec_l5Same.j0] at H
   replace H := ifb_ H
   obtain ⟨rfl, H⟩ | ⟨rfl, H⟩ := H
   ·obtain rfl := Option.some.inj H
    go_wp2
    repeat (go_quiet (fail); try go_wp2)
    go_ret
    exact ⟨er_, hs2_ eA.out gA.out⟩
   have H' := am_ H
   clear H
   have uF := cA.out
   have vF := dA.out
   obtain ⟨vA, wA, xA, yA, zA, aB, bB, cB⟩ := cf4_ aA.out
   go_wp2
   repeat (go_quiet (fail); try go_wp2)
   go_loopg [37] kj2 (fun kq kG w' => ∃ (bA : Int), kG = .int .i64 bA ∧ Aside0 (spec_l5Same.l0 kq (l0_3.length : Int) bA a0_0 a0_1 a0_2 l0_3 a1_0 a1_1 a1_2 l1_3 = some r) ∧ Aside0 (kq ≤ kj2) ∧ Aside0 (w'.heap[rA]? = some (.cells #[.int .i64 a0_0, .int .i64 a0_1, .int .i64 a0_2, (.slice A0_3 l0_3.length c0_3)] 81 (0, 0))) ∧ Aside0 (w'.heap[sA]? = some (.cells #[.int .i64 a1_0, .int .i64 a1_1, .int .i64 a1_2, (.slice A1_3 l1_3.length c1_3)] 81 (0, 0))) ∧ Aside0 (Below w.heap.size w w'))
   case atStart => exact ⟨(0), sr_, H', ⟨Nat.le_refl _⟩, ⟨kb_ aA.out⟩, ⟨kb_ fA.out⟩, ⟨hs2_ eA.out gA.out⟩⟩
   case round =>
    clear H'
    try clear vA
    try clear wA
    try clear xA
    try clear yA
    try clear zA
    try clear aB
    try clear bB
    try clear cB
    obtain ⟨bA, rfl, HA, wF, aA, fA, HB⟩ := hrel
    cases gk with
    | zero => exact absurd HA.out (by simp [spec_l5Same.l0])
    | succ k2 =>
     have H := HA.out
     clear HA
     simp only [spec_l5Same.l0] at H
     replace H := ite_ H
     obtain ⟨iB, H⟩ | ⟨iB, H⟩ := H
     rotate_left
     ·have jB := decide_eq_false iB
      clear iB
      obtain rfl := Option.some.inj H
      go_wp2
      repeat (go_quiet (fail); try go_wp2)
      go_ret
      exact ⟨er_, hs2_ eA.out gA.out⟩
     have jB := decide_eq_true iB
     clear iB
     replace H := ifs_ H
     obtain ⟨xF, H⟩ := H
     have yF := decide_eq_true xF
     clear xF
     replace H := ifs_ H
     obtain ⟨zF, H⟩ := H
     have aG := decide_eq_true zF
     clear zF
     replace H := ifs_ H
     obtain ⟨bG, H⟩ := H
     have cG := decide_eq_true bG
     clear bG
     replace H := ite_ H
     obtain ⟨kB, H⟩ | ⟨kB, H⟩ := H
     ·have lB : (!(((rd_T112 l0_3 bA).f0) == ((rd_T112 l1_3 bA).f0)) || (!(((rd_T112 l0_3 bA).f1) == ((rd_T112 l1_3 bA).f1)) || (!(((rd_T112 l0_3 bA).f2) == ((rd_T112 l1_3 bA).f2))))) = true := kB
      clear kB
      obtain rfl := Option.some.inj H
      have dG := cA.out
      have eG := dA.out
      obtain ⟨aE, bE, cE, dE, eE, fE, gE, hE⟩ := cf4_ aA.out
      have nA : 0 ≤ (bA : Int) := oa_
      have oA : bA < (l0_3.length : Int) := oa_
      obtain ⟨mB, gB, hA, iA, jA⟩ := at_T112 dB.out bA nA oA
      cases gB
      replace hA := pc_ HB.out hA
      replace iA := pc_ HB.out iA
      replace jA := pc_ HB.out jA
      replace nA := eq_true nA
      replace oA := eq_true oA
      obtain ⟨iE, jE, kE, lE, mE, nE, oE, pE⟩ := cf4_ fA.out
      have pA : 0 ≤ (bA : Int) := oa_
      have qA : bA < (l1_3.length : Int) := oa_
      obtain ⟨nB, hB, kA, lA, mA⟩ := at_T112 eB.out bA pA qA
      cases hB
      replace kA := pc_ HB.out kA
      replace lA := pc_ HB.out lA
      replace mA := pc_ HB.out mA
      replace pA := eq_true pA
      replace qA := eq_true qA
      go_wp2
      repeat (go_quiet (fail); try go_wp2)
      go_ret
      exact ⟨er_, hs2_ eA.out gA.out⟩
     have lB : (!(((rd_T112 l0_3 bA).f0) == ((rd_T112 l1_3 bA).f0)) || (!(((rd_T112 l0_3 bA).f1) == ((rd_T112 l1_3 bA).f1)) || (!(((rd_T112 l0_3 bA).f2) == ((rd_T112 l1_3 bA).f2))))) = false := by simpa using kB
     clear kB
     have H' := am_ H
     clear H
     have fG := cA.out
     have gG := dA.out
     obtain ⟨qE, rE, sE, tE, uE, vE, wE, xE⟩ := cf4_ aA.out
     have nA : 0 ≤ (bA : Int) := oa_
     have oA : bA < (l0_3.length : Int) := oa_
     obtain ⟨mB, gB, hA, iA, jA⟩ := at_T112 dB.out bA nA oA
     cases gB
     replace hA := pc_ HB.out hA
     replace iA := pc_ HB.out iA
     replace jA := pc_ HB.out jA
     replace nA := eq_true nA
     replace oA := eq_true oA
     obtain ⟨yE, zE, aF, bF, cF, dF, eF, fF⟩ := cf4_ fA.out
     have pA : 0 ≤ (bA : Int) := oa_
     have qA : bA < (l1_3.length : Int) := oa_
     obtain ⟨nB, hB, kA, lA, mA⟩ := at_T112 eB.out bA pA qA
     cases hB
     replace kA := pc_ HB.out kA
     replace lA := pc_ HB.out lA
     replace mA := pc_ HB.out mA
     replace pA := eq_true pA
     replace qA := eq_true qA
     go_wp2
     repeat (go_quiet (fail); try go_wp2)
     go_roundg k2
     case measure => have := tF.out; have := wF.out; omega
     case rel => exact ⟨(wrap64 (bA + 1)), sr_, H', ⟨by have := tF.out; have := wF.out; omega⟩, ⟨kb_ aA.out⟩, ⟨kb_ fA.out⟩, ⟨hs2_ eA.out gA.out⟩⟩
/-! ### spec_GoodPart: function 37 -/
mutual
def spec_GoodPart.j0 : Nat → Bool → List (S81) → List (S78) → Int → List (S81) → List (S78) → Int → Option (Bool)
 | 0, _, _, _, _, _, _, _ => none
 | k + 1, x29, x272000, x272001, x272002, x281000, x281001, x281002 => if x29 = true then (some false) else (spec_GoodPart.l0 k (x281000.length : Int) 0 x272000 x272001 x272002 x281000 x281001 x281002)
def spec_GoodPart.l0 : Nat → Int → Int → List (S81) → List (S78) → Int → List (S81) → List (S78) → Int → Option (Bool)
 | 0, _, _, _, _, _, _, _, _ => none
 | k + 1, x32, x33, x272000, x272001, x272002, x281000, x281001, x281002 => if x33 < x32 then (if 0 ≤ x33 then (if x33 < (x281000.length : Int) then (if x33 < (x272000.length : Int) then ((spec_l5Same.f k ((rd_T81 x281000 x33).f0) ((rd_T81 x281000 x33).f1) ((rd_T81 x281000 x33).f2) ((rd_T81 x281000 x33).f3) ((rd_T81 x272000 x33).f0) ((rd_T81 x272000 x33).f1) ((rd_T81 x272000 x33).f2) ((rd_T81 x272000 x33).f3)).bind fun t283 => (if t283 = true then (spec_GoodPart.l0 k x32 (wrap64 (x33 + 1)) x272000 x272001 x272002 x281000 x281001 x281002) else (some false))) else (none)) else (none)) else (none)) else (some true)
end
def spec_GoodPart.f (k : Nat) (l0_0 : List (S81)) (l0_1 : List (S78)) (a0_2 : Int) : Option (Bool) := (spec_l5Rebuild.f k l0_1).bind fun bt272 => (if bt272.2.2.2 = true then (if bt272.2.2.1 = a0_2 then (spec_GoodPart.j0 k ((bt272.1.length : Int) != (l0_0.length : Int)) l0_0 l0_1 a0_2 bt272.1 bt272.2.1 bt272.2.2.1) else (spec_GoodPart.j0 k true l0_0 l0_1 a0_2 bt272.1 bt272.2.1 bt272.2.2.1)) else (spec_GoodPart.j0 k true l0_0 l0_1 a0_2 bt272.1 bt272.2.1 bt272.2.2.1))
theorem spec_GoodPart.mono_l : ∀ k, (∀ y0 y1 y2 y3 y4 y5 y6, LeO (spec_GoodPart.j0 k y0 y1 y2 y3 y4 y5 y6) (spec_GoodPart.j0 (k + 1) y0 y1 y2 y3 y4 y5 y6)) ∧ (∀ y0 y1 y2 y3 y4 y5 y6 y7, LeO (spec_GoodPart.l0 k y0 y1 y2 y3 y4 y5 y6 y7) (spec_GoodPart.l0 (k + 1) y0 y1 y2 y3 y4 y5 y6 y7))
 | 0 => ⟨fun _ _ _ _ _ _ _ r h => by simp [spec_GoodPart.j0] at h, fun _ _ _ _ _ _ _ _ r h => by simp [spec_GoodPart.l0] at h⟩
 | k + 1 => by
  obtain ⟨ih0, ih1⟩ := spec_GoodPart.mono_l k
  refine ⟨?_, ?_⟩
  all_goals intros; first | unfold spec_GoodPart.j0 | unfold spec_GoodPart.l0
  all_goals repeat' first | (with_reducible first | apply ih0 | apply ih1 | apply spec_l5Rebuild.mono | apply spec_l5Same.mono | exact LeO.refl _ | exact LeO.none _ | refine LeO.ite ?_ ?_ | refine LeO.bind ?_ (fun _ => ?_))
theorem spec_GoodPart.mono : ∀ a0 a1 a2 k, LeO (spec_GoodPart.f k a0 a1 a2) (spec_GoodPart.f (k + 1) a0 a1 a2) := by
 intro a0 a1 a2 k
 obtain ⟨ih0, ih1⟩ := spec_GoodPart.mono_l k
 unfold spec_GoodPart.f
 repeat' first
   | (with_reducible first | apply ih0 | apply ih1 | apply spec_l5Rebuild.mono | apply spec_l5Same.mono | exact LeO.refl _ | exact LeO.none _ | refine LeO.ite ?_ ?_ | refine LeO.bind ?_ (fun _ => ?_))
def spec_GoodPart.T7 : Bool × List (List Nat × List Nat) := (true, [([], []), ([0], [0]), ([], []), ([1, 2], [1, 2]), ([3], [3]), ([], []), ([5], [5]), ([], []), ([6, 7], [6, 7]), ([8], [8]), ([4, 9], [4, 9]), ([10], [10])])
def spec_GoodPart.B7 : List Nat := [0, 1, 0, 7, 15, 0, 32, 0, 224, 480, 1023, 2047]
theorem spec_GoodPart.tab7 : rtab .any (opsOf Try.f37 7) = spec_GoodPart.T7 := by kernel_rfl
theorem spec_GoodPart.bits7 : waitsOk spec_GoodPart.T7.2 spec_GoodPart.B7 = true := by kernel_rfl
set_option maxHeartbeats 8000000 in
set_option maxRecDepth 100000 in
theorem spec_GoodPart.calls (k : Nat) (A0_0 : Option Addr) (c0_0 : Nat) (l0_0 : List (S81)) (A0_1 : Option Addr) (c0_1 : Nat) (l0_1 : List (S78)) (a0_2 : Int) (r : Bool) (w : World) (hr0_0 : Kd.C k81 w A0_0 l0_0.length l0_0) (hc0_0 : l0_0.length ≤ c0_0) (hr0_1 : Kd.C k78 w A0_1 l0_1.length l0_1) (hc0_1 : l0_1.length ≤ c0_1) (h : spec_GoodPart.f k l0_0 l0_1 a0_2 = some r) :
  Calls Try.prog 37 #[.agg #[.slice A0_0 l0_0.length c0_0, .slice A0_1 l0_1.length c0_1, .int .i64 a0_2]] w fun e w' => e = .returned (.bool r) ∧ Below w.heap.size w w' := by
 have hu33 := Try.underlying33
 have hu81 := Try.underlying81
 have qC := am_ hr0_0
 have bE := am_ hc0_0
 clear hr0_0 hc0_0
 have vC := am_ hr0_1
 have wC := am_ hc0_1
 clear hr0_1 hc0_1
 have HB := am_ (Below.refl w.heap.size w)
 have H : ((spec_l5Rebuild.f k l0_1).bind fun tA => (if tA.2.2.2 = true then (if tA.2.2.1 = a0_2 then (spec_GoodPart.j0 k ((tA.1.length : Int) != (l0_0.length : Int)) l0_0 l0_1 a0_2 tA.1 tA.2.1 tA.2.2.1) else (spec_GoodPart.j0 k true l0_0 l0_1 a0_2 tA.1 tA.2.1 tA.2.2.1)) else (spec_GoodPart.j0 k true l0_0 l0_1 a0_2 tA.1 tA.2.1 tA.2.2.1))) = some r := h
 clear h
 replace H := bnd_ H
 obtain ⟨⟨fA, eB, fB, yD⟩, A2, H⟩ := H
 replace H := red_ H
 have zD := am_ H
 clear H
 go_enter Try.func37, Try.ntmps37
 go_upto_region 2 with (first | ((with_reducible refine gate_dst (N := 1) rfl ?_); (try (refine gate_guard (by rfl) ?_; dsimp only)); refine bq_ (N := 1) #[.slice A0_0 l0_0.length c0_0, .slice A0_1 l0_1.length c0_1, .int .i64 a0_2] 33 ?_; intro lA hg w4 cA hb; have qA := ge_ hg; replace HB := nb_ hb; clear hb hg; obtain ⟨cC, dC, eC, fC, gC, hC⟩ := cf3_ cA.out) | ((with_reducible refine gate_callee (f := 67) rfl ?_); refine gl_ 9 Try.func67 #[.slice A0_1 l0_1.length c0_1] rfl ma_ ?_; (with_reducible refine (spec_l5Rebuild.calls k _ _ l0_1 fA eB fB yD _ ?side1 ?side2 A2.out).mono ?_); (case side1 => exact cs_ ((Kd.C_below vC.out HB.out))); (case side2 => exact wC.out); rintro e w6 ⟨tE, uE, rfl, cE, dE, hb⟩; refine ⟨_, rfl, ?_⟩; have lB := am_ (Kd.V_lower (Kd.V_mono (ok' := fun k_ => k_ ≠ lA) cE (fun k_ hk_ => (Kd.freshB (g := lA) (o := .cells #[.slice A0_0 l0_0.length c0_0, .slice A0_1 l0_1.length c0_1, .int .i64 a0_2] 33 (0, 0)) (kb_ cA.out) k_ hk_))) (below_size (hs_ qA.out))); have mB := am_ (Kd.V_lower (Kd.V_mono (ok' := fun k_ => k_ ≠ lA) dE (fun k_ hk_ => (Kd.freshB (g := lA) (o := .cells #[.slice A0_0 l0_0.length c0_0, .slice A0_1 l0_1.length c0_1, .int .i64 a0_2] 33 (0, 0)) (kb_ cA.out) k_ hk_))) (below_size (hs_ qA.out))); replace cA := bK_ cA hb; replace HB := nc_ qA hb; (try clear hb); (try clear hb2); (try clear hk); (try clear hi); (try clear cE); (try clear dE)) | ((with_reducible refine gate_dst (N := 3) rfl ?_); (try (refine gate_guard (by rfl) ?_; dsimp only)); refine bq_ (N := 3) #[.slice none 0 0, .slice none 0 0, .int .i64 0] 33 ?_; intro hA hg w7 dA hb; replace lB := am_ (Kd.V_below (Kd.V_elderB (vF_ lB.out) hA (Nat.le_of_eq hg.symm)) hb); replace mB := am_ (Kd.V_below (Kd.V_elderB (vF_ mB.out) hA (Nat.le_of_eq hg.symm)) hb); have vA := ge1_ hg qA; replace HB := nc_ qA hb; have iA := nl_ cA hg; have uA := ng_ cA hg; replace cA := bK_ cA hb; clear hb hg; obtain ⟨zC, tC, vE⟩ := Kd.V_slice lB.out; subst vE; have wE := uA.out; have xE := iA.out; obtain ⟨uB, vB, wB, xB, yB, zB⟩ := cf3_ dA.out; obtain ⟨aC, bC, aE⟩ := Kd.V_slice mB.out; subst aE))
 (try simp only [Act.put, List.setIfInBounds_toArray, List.set_cons_zero, List.set_cons_succ])
 go_cut [29] (fun yE wc => ∃ (kq : Nat) (iC : Bool), yE = .bool iC ∧ Aside0 (spec_GoodPart.j0 kq iC l0_0 l0_1 a0_2 fA eB fB = some r) ∧ Aside0 (kq ≤ k) ∧ Aside0 (Kd.V k81 81 wc w.heap.size (fun k_ => k_ ≠ lA ∧ k_ ≠ hA) (.slice zC fA.length tC) fA) ∧ Aside0 (Kd.V k78 78 wc w.heap.size (fun k_ => k_ ≠ lA ∧ k_ ≠ hA) (.slice aC eB.length bC) eB) ∧ Aside0 (wc.heap[lA]? = some (.cells #[(.slice A0_0 l0_0.length c0_0), (.slice A0_1 l0_1.length c0_1), .int .i64 a0_2] 33 (0, 0))) ∧ Aside0 (wc.heap[hA]? = some (.cells #[(.slice zC fA.length tC), (.slice aC eB.length bC), .int .i64 fB] 33 (0, 0))) ∧ Aside0 (Below w.heap.size w wc))
 case first =>
  have H := zD.out
  clear zD
  replace H := ifb_ H
  obtain ⟨rfl, H⟩ | ⟨rfl, H⟩ := H
  rotate_left
  ·have H' := am_ H
   clear H
   go_wp2
   go_meet
   case rel => exact ⟨_, (true), sr_, H', ⟨by first | omega | exact Nat.le_refl _⟩, ⟨Kd.V_mono (vF_ (Kd.V_mono lB.out (fun k_ hk => (⟨hk, hk.2⟩ : _ ∧ k_ ≠ hA)))) (fun _ hk => ⟨hk.1.1, hk.1.2⟩)⟩, ⟨Kd.V_mono (vF_ (Kd.V_mono mB.out (fun k_ hk => (⟨hk, hk.2⟩ : _ ∧ k_ ≠ hA)))) (fun _ hk => ⟨hk.1.1, hk.1.2⟩)⟩, ⟨uf_ cA iA.out⟩, ⟨up_ dA⟩, ⟨hs2_ qA.out vA.out⟩⟩
  replace H := ite_ H
  obtain ⟨uC, H⟩ | ⟨uC, H⟩ := H
  rotate_left
  ·have rB : (fB == a0_2) = false := beq_eq_false_iff_ne.mpr uC
   have jC : (fB != a0_2) = true := bne_iff_ne.mpr uC
   (first | rw [rB] | (simp only [i64_w, i32_w]; rw [rB]) | rw [jC] | skip)
   have H' := am_ H
   clear H
   have eE := uA.out
   have fE := iA.out
   obtain ⟨aD, bD, cD, dD, eD, fD⟩ := cf3_ dA.out
   obtain ⟨gD, hD, iD, jD, kD, lD⟩ := cf3_ cA.out
   go_wp2
   go_meet
   case rel => exact ⟨_, (true), sr_, H', ⟨by first | omega | exact Nat.le_refl _⟩, ⟨Kd.V_mono (vF_ (Kd.V_mono lB.out (fun k_ hk => (⟨hk, hk.2⟩ : _ ∧ k_ ≠ hA)))) (fun _ hk => ⟨hk.1.1, hk.1.2⟩)⟩, ⟨Kd.V_mono (vF_ (Kd.V_mono mB.out (fun k_ hk => (⟨hk, hk.2⟩ : _ ∧ k_ ≠ hA)))) (fun _ hk => ⟨hk.1.1, hk.1.2⟩)⟩, ⟨uf_ cA iA.out⟩, ⟨up_ dA⟩, ⟨hs2_ qA.out vA.out⟩⟩
  have rB : (fB == a0_2) = true := beq_iff_eq.mpr uC
  have jC : (fB != a0_2) = false := bne_eq_false_iff_eq.mpr uC
  clear uC
  (first | rw [rB] | (simp only [i64_w, i32_w]; rw [rB]) | rw [jC] | skip)
  have H' := am_ H
  clear H
  have gE := uA.out
  have hE := iA.out
  obtain ⟨mD, nD, oD, pD, qD, rD⟩ := cf3_ dA.out
  obtain ⟨sD, tD, uD, vD, wD, xD⟩ := cf3_ cA.out
  go_wp2
  go_meet
  case rel => exact ⟨_, (((fA.length : Int) != (l0_0.length : Int))), sr_, H', ⟨by first | omega | exact Nat.le_refl _⟩, ⟨Kd.V_mono (vF_ (Kd.V_mono lB.out (fun k_ hk => (⟨hk, hk.2⟩ : _ ∧ k_ ≠ hA)))) (fun _ hk => ⟨hk.1.1, hk.1.2⟩)⟩, ⟨Kd.V_mono (vF_ (Kd.V_mono mB.out (fun k_ hk => (⟨hk, hk.2⟩ : _ ∧ k_ ≠ hA)))) (fun _ hk => ⟨hk.1.1, hk.1.2⟩)⟩, ⟨uf_ cA iA.out⟩, ⟨up_ dA⟩, ⟨hs2_ qA.out vA.out⟩⟩
 case rest =>
  clear zD
  try clear uB
  try clear vB
  try clear wB
  try clear cC
  try clear dC
  try clear eC
  try clear xB
  try clear yB
  try clear zB
  try clear fC
  try clear gC
  try clear hC
  obtain ⟨kq, iC, rfl, HA, iE, bA, eA, cA, dA, HB⟩ := hcut
  cases kq with
  | zero => exact absurd HA.out (by simp [spec_GoodPart.j0])
  | succ kj2 =>
   have H := HA.out
   clear HA
   simp only [spec_GoodPart.j0] at H
   replace H := ifb_ H
   obtain ⟨rfl, H⟩ | ⟨rfl, H⟩ := H
   ·obtain rfl := Option.some.inj H
    go_wp2
    go_ret
    exact ⟨er_, hs2_ qA.out vA.out⟩
   have H' := am_ H
   clear H
   have jE := uA.out
   have kE := iA.out
   obtain ⟨kC, lC, mC, nC, oC, pC⟩ := cf3_ dA.out
   go_wp2
   go_loopg [33] kj2 (fun kq zE w' => ∃ (aA : Int), zE = .int .i64 aA ∧ Aside0 (spec_GoodPart.l0 kq (fA.length : Int) aA l0_0 l0_1 a0_2 fA eB fB = some r) ∧ Aside0 (kq ≤ kj2) ∧ Aside0 (Kd.V k81 81 w' w.heap.size (fun k_ => k_ ≠ lA ∧ k_ ≠ hA) (.slice zC fA.length tC) fA) ∧ Aside0 (Kd.V k78 78 w' w.heap.size (fun k_ => k_ ≠ lA ∧ k_ ≠ hA) (.slice aC eB.length bC) eB) ∧ Aside0 (w'.heap[lA]? = some (.cells #[(.slice A0_0 l0_0.length c0_0), (.slice A0_1 l0_1.length c0_1), .int .i64 a0_2] 33 (0, 0))) ∧ Aside0 (w'.heap[hA]? = some (.cells #[(.slice zC fA.length tC), (.slice aC eB.length bC), .int .i64 fB] 33 (0, 0))) ∧ Aside0 (Below w.heap.size w w'))
   case atStart => exact ⟨(0), sr_, H', ⟨Nat.le_refl _⟩, ⟨vF_ bA.out⟩, ⟨vF_ eA.out⟩, ⟨kb_ cA.out⟩, ⟨kb_ dA.out⟩, ⟨hs2_ qA.out vA.out⟩⟩
   case round =>
    clear H'
    try clear uB
    try clear vB
    try clear wB
    try clear kC
    try clear lC
    try clear mC
    try clear cC
    try clear dC
    try clear eC
    try clear xB
    try clear yB
    try clear zB
    try clear nC
    try clear oC
    try clear pC
    try clear fC
    try clear gC
    try clear hC
    obtain ⟨aA, rfl, HA, lE, bA, eA, cA, dA, HB⟩ := hrel
    cases gk with
    | zero => exact absurd HA.out (by simp [spec_GoodPart.l0])
    | succ k2 =>
     have H := HA.out
     clear HA
     simp only [spec_GoodPart.l0] at H
     replace H := ite_ H
     obtain ⟨xC, H⟩ | ⟨xC, H⟩ := H
     rotate_left
     ·have yC := decide_eq_false xC
      clear xC
      obtain rfl := Option.some.inj H
      go_wp2
      go_ret
      exact ⟨er_, hs2_ qA.out vA.out⟩
     have yC := decide_eq_true xC
     clear xC
     replace H := ifs_ H
     obtain ⟨mE, H⟩ := H
     have nE := decide_eq_true mE
     clear mE
     replace H := ifs_ H
     obtain ⟨oE, H⟩ := H
     have pE := decide_eq_true oE
     clear oE
     replace H := ifs_ H
     obtain ⟨qE, H⟩ := H
     have rE := decide_eq_true qE
     clear qE
     replace H := bnd_ H
     obtain ⟨aF, sE, H⟩ := H
     replace H := ifb_ H
     obtain ⟨rfl, H⟩ | ⟨rfl, H⟩ := H
     rotate_left
     ·obtain rfl := Option.some.inj H
      try go_wp2
      replace bA := am_ (Kd.V_drew bA.out)
      replace eA := am_ (Kd.V_drew eA.out)
      replace cA := qK_ cA
      replace dA := qK_ dA
      replace HB := qH_ HB
      have nB : 0 ≤ (aA : Int) := oa_
      have oB : aA < (fA.length : Int) := oa_
      obtain ⟨jA, gB, hB, rC, wA, xA, yA, rA, zA, aB⟩ := at_T81 (Kd.V_reads' bA.out).2.2 aA nB oB
      cases rC
      obtain ⟨ce281, hce281, hMe281, iB⟩ := Kd.V_get bA.out z81 aA nB (by first | exact oB | exact oa_ | (have e_ := (Kd.V_reads' bA.out).1; omega))
      obtain ⟨ua281_3, uc281_3, rfl, ul281_3, ge281_3⟩ := k81_openF hMe281
      have hv281_3 := iB 3 _ rfl
      rw [add_field _ _ 3 (by omega)] at hv281_3
      replace hv281_3 := Option.some.inj (hv281_3.symm.trans rA)
      injection hv281_3 with hva_ hvn_ hvc_
      rw [hva_] at ge281_3
      rw [hvc_] at ul281_3
      have sA := am_ (show Kd.V k112 112 _ w.heap.size _ _ ((rd_T81 fA aA).f3) from Kd.V_mk ul281_3 ge281_3)
      clear hva_ hvn_ hvc_ ge281_3 ul281_3
      clear iB hce281
      have gA := am_ aB
      have pB := am_ zA
      clear aB zA
      replace nB := eq_true nB
      replace oB := eq_true oB
      have sB : 0 ≤ (aA : Int) := oa_
      have tB : aA < (l0_0.length : Int) := oa_
      obtain ⟨kA, jB, kB, sC, mA, nA, oA, pA, bB, cB⟩ := at_T81 qC.out aA sB tB
      have hw282_3 := pA
      have hw282_2 := oA
      have hw282_1 := nA
      have hw282_0 := mA
      cases sC
      replace mA := pc_ HB.out mA
      replace nA := pc_ HB.out nA
      replace oA := pc_ HB.out oA
      replace pA := pc_ HB.out pA
      have dB := am_ cB
      have qB := am_ bB
      clear cB bB
      replace sB := eq_true sB
      replace tB := eq_true tB
      refine start_ (n := 12) (S := fun w' => w'.cell? ⟨hA, 0, none⟩ = some (.slice (some jA) fA.length tC) ∧ w'.cell? ⟨hA, 1, none⟩ = some (.slice aC eB.length bC) ∧ w'.cell? ⟨hA, 2, none⟩ = some (.int .i64 fB) ∧ w'.cell? ⟨lA, 0, none⟩ = some (.slice (some kA) l0_0.length c0_0) ∧ w'.cell? ⟨lA, 1, none⟩ = some (.slice A0_1 l0_1.length c0_1) ∧ w'.cell? ⟨lA, 2, none⟩ = some (.int .i64 a0_2) ∧ w'.cell? (jA.add ((aA).toNat * 4)) = some (.int .i64 ((rd_T81 fA aA).f0)) ∧ w'.cell? ⟨(jA.add ((aA).toNat * 4)).block, (jA.add ((aA).toNat * 4)).off + 1, none⟩ = some (.int .i64 ((rd_T81 fA aA).f1)) ∧ w'.cell? ⟨(jA.add ((aA).toNat * 4)).block, (jA.add ((aA).toNat * 4)).off + 2, none⟩ = some (.int .i64 ((rd_T81 fA aA).f2)) ∧ w'.cell? ⟨(jA.add ((aA).toNat * 4)).block, (jA.add ((aA).toNat * 4)).off + 3, none⟩ = some (.slice gB ((rd_T81 fA aA).f3).length hB) ∧ w'.cell? (kA.add ((aA).toNat * 4)) = some (.int .i64 ((rd_T81 l0_0 aA).f0)) ∧ w'.cell? ⟨(kA.add ((aA).toNat * 4)).block, (kA.add ((aA).toNat * 4)).off + 1, none⟩ = some (.int .i64 ((rd_T81 l0_0 aA).f1)) ∧ w'.cell? ⟨(kA.add ((aA).toNat * 4)).block, (kA.add ((aA).toNat * 4)).off + 2, none⟩ = some (.int .i64 ((rd_T81 l0_0 aA).f2)) ∧ w'.cell? ⟨(kA.add ((aA).toNat * 4)).block, (kA.add ((aA).toNat * 4)).off + 3, none⟩ = some (.slice jB ((rd_T81 l0_0 aA).f3).length kB)) (ds := []) (List.replicate 12 false).toArray (by kernel_rfl) rfl rfl ⟨bt_ dA 0, bt_ dA 1, bt_ dA 2, bt_ cA 0, bt_ cA 1, bt_ cA 2, wA, xA, yA, rA, (pc_ HB.out hw282_0), (pc_ HB.out hw282_1), (pc_ HB.out hw282_2), (pc_ HB.out hw282_3)⟩ (fun hHeld => ?_); refine with_tabW spec_GoodPart.tab7 spec_GoodPart.bits7 (fun HT_ HW_ => ?_)
      generalize wr.drew = bF at bA eA cA dA HB sA gA dB wA xA yA rA mA nA oA pA hHeld ⊢
      refine pv_ 0 36 ?_
      refine pv_ 2 38 ?_
      refine pv_ 5 41 ?_
      refine pv_ 7 43 ?_
      refine tk_ 1 37 ?_
      refine pv_ 3 39 ?_
      refine tk_ 4 40 ?_
      refine tk_ 6 42 ?_
      refine pv_ 8 44 ?_
      refine tk_ 9 45 ?_
      refine on_ 10 46 (fun K hK => ?_)
      refine gs_ Try.func69 #[.agg #[.int .i64 ((rd_T81 fA aA).f0), .int .i64 ((rd_T81 fA aA).f1), .int .i64 ((rd_T81 fA aA).f2), .slice gB ((rd_T81 fA aA).f3).length hB], .agg #[.int .i64 ((rd_T81 l0_0 aA).f0), .int .i64 ((rd_T81 l0_0 aA).f1), .int .i64 ((rd_T81 l0_0 aA).f2), .slice jB ((rd_T81 l0_0 aA).f3).length kB]] rfl ma_ ?_
      with_reducible refine (spec_l5Same.calls k2 ((rd_T81 fA aA).f0) ((rd_T81 fA aA).f1) ((rd_T81 fA aA).f2) _ _ ((rd_T81 fA aA).f3) ((rd_T81 l0_0 aA).f0) ((rd_T81 l0_0 aA).f1) ((rd_T81 l0_0 aA).f2) _ _ ((rd_T81 l0_0 aA).f3) false _ ?side1 ?side2 ?side3 ?side4 sE.out).mono ?_
      (case side1 => repeat (first | exact (by repeat (first | (with_reducible exact gA.out) | (with_reducible refine Kd.C_alloc ?_ _) | (with_reducible refine Kd.C_drewN ?_ _) | (with_reducible refine Kd.C_drew ?_) | exact gA.out)) | (with_reducible refine Kd.C_alloc ?_ _) | (with_reducible refine Kd.C_drewN ?_ _) | (with_reducible refine Kd.C_drew ?_)))
      (case side2 => exact pB.out)
      (case side3 => exact cs_ ((Kd.C_below dB.out HB.out)))
      (case side4 => exact qB.out)
      rintro e cF ⟨rfl, hb⟩
      have HS6_ := (hb.cell (World.block_lt_of_cell? _ _ (hHeld.2.2.2.2.2.2.1))).trans (hHeld.2.2.2.2.2.2.1)
      have HS7_ := (hb.cell (World.block_lt_of_cell? _ _ (hHeld.2.2.2.2.2.2.2.1))).trans (hHeld.2.2.2.2.2.2.2.1)
      have HS8_ := (hb.cell (World.block_lt_of_cell? _ _ (hHeld.2.2.2.2.2.2.2.2.1))).trans (hHeld.2.2.2.2.2.2.2.2.1)
      have HS9_ := (hb.cell (World.block_lt_of_cell? _ _ (hHeld.2.2.2.2.2.2.2.2.2.1))).trans (hHeld.2.2.2.2.2.2.2.2.2.1)
      refine ⟨_, rfl, ?_⟩
      replace bA := am_ (Kd.V_below (vF_ bA.out) hb)
      replace eA := am_ (Kd.V_below (vF_ eA.out) hb)
      replace sA := am_ (Kd.V_below (vF_ sA.out) hb)
      replace cA := bK_ cA hb
      replace dA := bK_ dA hb
      replace gA := am_ (Kd.C_below (by repeat (first | (with_reducible exact gA.out) | (with_reducible refine Kd.C_alloc ?_ _) | (with_reducible refine Kd.C_drewN ?_ _) | (with_reducible refine Kd.C_drew ?_) | exact gA.out)) hb)
      replace HB := nc2_ qA vA hb
      (try clear hb)
      (try clear hb2)
      (try clear hk)
      (try clear hi)
      refine hK.out _ _ ⟨bt_ dA 0, bt_ dA 1, bt_ dA 2, bt_ cA 0, bt_ cA 1, bt_ cA 2, HS6_, HS7_, HS8_, HS9_, (pc_ HB.out hw282_0), (pc_ HB.out hw282_1), (pc_ HB.out hw282_2), (pc_ HB.out hw282_3)⟩ (fun hHeld => ?_)
      clear hK K
      refine no_ ?_
      refine pv_ 11 47 ?_
      refine done_ (done_of HT_.out (by kernel_rfl)) ?_
      try go_wp2
      go_ret
      exact ⟨er_, hs2_ qA.out vA.out⟩
     have H' := am_ H
     clear H
     try go_wp2
     replace bA := am_ (Kd.V_drew bA.out)
     replace eA := am_ (Kd.V_drew eA.out)
     replace cA := qK_ cA
     replace dA := qK_ dA
     replace HB := qH_ HB
     have nB : 0 ≤ (aA : Int) := oa_
     have oB : aA < (fA.length : Int) := oa_
     obtain ⟨jA, gB, hB, rC, wA, xA, yA, rA, zA, aB⟩ := at_T81 (Kd.V_reads' bA.out).2.2 aA nB oB
     cases rC
     obtain ⟨ce281, hce281, hMe281, iB⟩ := Kd.V_get bA.out z81 aA nB (by first | exact oB | exact oa_ | (have e_ := (Kd.V_reads' bA.out).1; omega))
     obtain ⟨ua281_3, uc281_3, rfl, ul281_3, ge281_3⟩ := k81_openF hMe281
     have hv281_3 := iB 3 _ rfl
     rw [add_field _ _ 3 (by omega)] at hv281_3
     replace hv281_3 := Option.some.inj (hv281_3.symm.trans rA)
     injection hv281_3 with hva_ hvn_ hvc_
     rw [hva_] at ge281_3
     rw [hvc_] at ul281_3
     have sA := am_ (show Kd.V k112 112 _ w.heap.size _ _ ((rd_T81 fA aA).f3) from Kd.V_mk ul281_3 ge281_3)
     clear hva_ hvn_ hvc_ ge281_3 ul281_3
     clear iB hce281
     have gA := am_ aB
     have pB := am_ zA
     clear aB zA
     replace nB := eq_true nB
     replace oB := eq_true oB
     have sB : 0 ≤ (aA : Int) := oa_
     have tB : aA < (l0_0.length : Int) := oa_
     obtain ⟨kA, jB, kB, sC, mA, nA, oA, pA, bB, cB⟩ := at_T81 qC.out aA sB tB
     have hw282_3 := pA
     have hw282_2 := oA
     have hw282_1 := nA
     have hw282_0 := mA
     cases sC
     replace mA := pc_ HB.out mA
     replace nA := pc_ HB.out nA
     replace oA := pc_ HB.out oA
     replace pA := pc_ HB.out pA
     have dB := am_ cB
     have qB := am_ bB
     clear cB bB
     replace sB := eq_true sB
     replace tB := eq_true tB
     refine start_ (n := 12) (S := fun w' => w'.cell? ⟨hA, 0, none⟩ = some (.slice (some jA) fA.length tC) ∧ w'.cell? ⟨hA, 1, none⟩ = some (.slice aC eB.length bC) ∧ w'.cell? ⟨hA, 2, none⟩ = some (.int .i64 fB) ∧ w'.cell? ⟨lA, 0, none⟩ = some (.slice (some kA) l0_0.length c0_0) ∧ w'.cell? ⟨lA, 1, none⟩ = some (.slice A0_1 l0_1.length c0_1) ∧ w'.cell? ⟨lA, 2, none⟩ = some (.int .i64 a0_2) ∧ w'.cell? (jA.add ((aA).toNat * 4)) = some (.int .i64 ((rd_T81 fA aA).f0)) ∧ w'.cell? ⟨(jA.add ((aA).toNat * 4)).block, (jA.add ((aA).toNat * 4)).off + 1, none⟩ = some (.int .i64 ((rd_T81 fA aA).f1)) ∧ w'.cell? ⟨(jA.add ((aA).toNat * 4)).block, (jA.add ((aA).toNat * 4)).off + 2, none⟩ = some (.int .i64 ((rd_T81 fA aA).f2)) ∧ w'.cell? ⟨(jA.add ((aA).toNat * 4)).block, (jA.add ((aA).toNat * 4)).off + 3, none⟩ = some (.slice gB ((rd_T81 fA aA).f3).length hB) ∧ w'.cell? (kA.add ((aA).toNat * 4)) = some (.int .i64 ((rd_T81 l0_0 aA).f0)) ∧ w'.cell? ⟨(kA.add ((aA).toNat * 4)).block, (kA.add ((aA).toNat * 4)).off + 1, none⟩ = some (.int .i64 ((rd_T81 l0_0 aA).f1)) ∧ w'.cell? ⟨(kA.add ((aA).toNat * 4)).block, (kA.add ((aA).toNat * 4)).off + 2, none⟩ = some (.int .i64 ((rd_T81 l0_0 aA).f2)) ∧ w'.cell? ⟨(kA.add ((aA).toNat * 4)).block, (kA.add ((aA).toNat * 4)).off + 3, none⟩ = some (.slice jB ((rd_T81 l0_0 aA).f3).length kB)) (ds := []) (List.replicate 12 false).toArray (by kernel_rfl) rfl rfl ⟨bt_ dA 0, bt_ dA 1, bt_ dA 2, bt_ cA 0, bt_ cA 1, bt_ cA 2, wA, xA, yA, rA, (pc_ HB.out hw282_0), (pc_ HB.out hw282_1), (pc_ HB.out hw282_2), (pc_ HB.out hw282_3)⟩ (fun hHeld => ?_); refine with_tabW spec_GoodPart.tab7 spec_GoodPart.bits7 (fun HT_ HW_ => ?_)
     generalize wr.drew = dF at bA eA cA dA HB sA gA dB wA xA yA rA mA nA oA pA hHeld ⊢
     refine pv_ 0 36 ?_
     refine pv_ 2 38 ?_
     refine pv_ 5 41 ?_
     refine pv_ 7 43 ?_
     refine tk_ 1 37 ?_
     refine pv_ 3 39 ?_
     refine tk_ 4 40 ?_
     refine tk_ 6 42 ?_
     refine pv_ 8 44 ?_
     refine tk_ 9 45 ?_
     refine on_ 10 46 (fun K hK => ?_)
     refine gs_ Try.func69 #[.agg #[.int .i64 ((rd_T81 fA aA).f0), .int .i64 ((rd_T81 fA aA).f1), .int .i64 ((rd_T81 fA aA).f2), .slice gB ((rd_T81 fA aA).f3).length hB], .agg #[.int .i64 ((rd_T81 l0_0 aA).f0), .int .i64 ((rd_T81 l0_0 aA).f1), .int .i64 ((rd_T81 l0_0 aA).f2), .slice jB ((rd_T81 l0_0 aA).f3).length kB]] rfl ma_ ?_
     with_reducible refine (spec_l5Same.calls k2 ((rd_T81 fA aA).f0) ((rd_T81 fA aA).f1) ((rd_T81 fA aA).f2) _ _ ((rd_T81 fA aA).f3) ((rd_T81 l0_0 aA).f0) ((rd_T81 l0_0 aA).f1) ((rd_T81 l0_0 aA).f2) _ _ ((rd_T81 l0_0 aA).f3) true _ ?side1 ?side2 ?side3 ?side4 sE.out).mono ?_
     (case side1 => repeat (first | exact (by repeat (first | (with_reducible exact gA.out) | (with_reducible refine Kd.C_alloc ?_ _) | (with_reducible refine Kd.C_drewN ?_ _) | (with_reducible refine Kd.C_drew ?_) | exact gA.out)) | (with_reducible refine Kd.C_alloc ?_ _) | (with_reducible refine Kd.C_drewN ?_ _) | (with_reducible refine Kd.C_drew ?_)))
     (case side2 => exact pB.out)
     (case side3 => exact cs_ ((Kd.C_below dB.out HB.out)))
     (case side4 => exact qB.out)
     rintro e eF ⟨rfl, hb⟩
     have HS6_ := (hb.cell (World.block_lt_of_cell? _ _ (hHeld.2.2.2.2.2.2.1))).trans (hHeld.2.2.2.2.2.2.1)
     have HS7_ := (hb.cell (World.block_lt_of_cell? _ _ (hHeld.2.2.2.2.2.2.2.1))).trans (hHeld.2.2.2.2.2.2.2.1)
     have HS8_ := (hb.cell (World.block_lt_of_cell? _ _ (hHeld.2.2.2.2.2.2.2.2.1))).trans (hHeld.2.2.2.2.2.2.2.2.1)
     have HS9_ := (hb.cell (World.block_lt_of_cell? _ _ (hHeld.2.2.2.2.2.2.2.2.2.1))).trans (hHeld.2.2.2.2.2.2.2.2.2.1)
     refine ⟨_, rfl, ?_⟩
     replace bA := am_ (Kd.V_below (vF_ bA.out) hb)
     replace eA := am_ (Kd.V_below (vF_ eA.out) hb)
     replace sA := am_ (Kd.V_below (vF_ sA.out) hb)
     replace cA := bK_ cA hb
     replace dA := bK_ dA hb
     replace gA := am_ (Kd.C_below (by repeat (first | (with_reducible exact gA.out) | (with_reducible refine Kd.C_alloc ?_ _) | (with_reducible refine Kd.C_drewN ?_ _) | (with_reducible refine Kd.C_drew ?_) | exact gA.out)) hb)
     replace HB := nc2_ qA vA hb
     (try clear hb)
     (try clear hb2)
     (try clear hk)
     (try clear hi)
     refine hK.out _ _ ⟨bt_ dA 0, bt_ dA 1, bt_ dA 2, bt_ cA 0, bt_ cA 1, bt_ cA 2, HS6_, HS7_, HS8_, HS9_, (pc_ HB.out hw282_0), (pc_ HB.out hw282_1), (pc_ HB.out hw282_2), (pc_ HB.out hw282_3)⟩ (fun hHeld => ?_)
     clear hK K
     refine no_ ?_
     refine pv_ 11 47 ?_
     refine done_ (done_of HT_.out (by kernel_rfl)) ?_
     try go_wp2
     go_roundg k2
     case measure => have := iE.out; have := lE.out; omega
     case rel => exact ⟨(wrap64 (aA + 1)), sr_, H', ⟨by have := iE.out; have := lE.out; omega⟩, ⟨vF_ bA.out⟩, ⟨vF_ eA.out⟩, ⟨kb_ cA.out⟩, ⟨kb_ dA.out⟩, ⟨hs2_ qA.out vA.out⟩⟩
end Go.Proofs.Ytojdaolclcmalaa.QFnExactAskPart
