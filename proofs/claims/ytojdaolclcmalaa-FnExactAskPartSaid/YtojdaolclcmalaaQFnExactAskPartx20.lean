/- Functions that one statement reaches: of each a plain function, and the proof that calls come to it. Conditions: those that each contract names. Written by a program of this repository. -/
import Derived.Test.YtojdaolclcmalaaVAskParta
import Derived.Test.YtojdaolclcmalaaQFnExactAskPartx1
import Derived.Test.YtojdaolclcmalaaQFnExactAskPartx2
import Derived.Test.YtojdaolclcmalaaQFnExactAskPartx3
import Derived.Test.YtojdaolclcmalaaQFnExactAskPartx5
import Derived.Test.YtojdaolclcmalaaQFnExactAskPartx6
import Derived.Test.YtojdaolclcmalaaQFnExactAskPartx8
import Derived.Test.YtojdaolclcmalaaQFnExactAskPartx14
import Derived.Test.YtojdaolclcmalaaQFnExactAskPartx19
namespace Go.Proofs.Ytojdaolclcmalaa.QFnExactAskPart
open Go.RowKit Go.Proofs.YtojdaolclcmalaaW.PrintWords Go.Proofs.YtojdaolclcmalaaW.PrintLast Go.Proofs.YtojdaolclcmalaaW.PrintMore
attribute [local go_sem] max2_int min2_int max_two min_two max_three min_three max_four min_four Go.Proofs.YtojdaolclcmalaaW.PrintMore2.isSome_setCell   -- for this text's walks alone
set_option linter.unusedVariables false
set_option linter.unusedSimpArgs false

/-! ### laws_FnExactAskPart: function 5 -/
def laws_FnExactAskPart.f (k : Nat) (l0_0 : List S105) (l0_1 : List S99) (a0_2 : Int) (a1_0 : Int) (a1_1 : Int) (a1_2 : Int) (l1_3 : List ByteArray) : Option (Bool) :=
 (laws_szPart.f k l0_0 l0_1 a0_2 1048576).bind fun z0 => if z0 < 0 then some true else
 (laws_szAsk.f k a1_0 a1_1 a1_2 l1_3 z0).bind fun z1 => if z1 < 0 then some true else
 (laws_toPart.f k l0_0 l0_1 a0_2).bind fun x0 => (laws_toAsk.f k a1_0 a1_1 a1_2 l1_3).bind fun x1 => (spec_AskPart.f k x0.1 x0.2.1 x0.2.2 x1.1 x1.2.1 x1.2.2.1 x1.2.2.2).bind fun w => (impl_AskPart.f k x0.1 x0.2.1 x0.2.2 x1.1 x1.2.1 x1.2.2.1 x1.2.2.2).bind fun g => (laws_eqPart.f k g.1 g.2.1 g.2.2.1 w.1 w.2.1 w.2.2.1).bind fun e0 => if e0 = true ∧ g.2.2.2.1 = w.2.2.2.1 ∧ g.2.2.2.2.1 = w.2.2.2.2.1 ∧ g.2.2.2.2.2 = w.2.2.2.2.2 then
 (laws_eqPart.f k x0.1 x0.2.1 x0.2.2 x0.1 x0.2.1 x0.2.2).bind fun f0 => (laws_eqAsk.f k x1.1 x1.2.1 x1.2.2.1 x1.2.2.2 x1.1 x1.2.1 x1.2.2.1 x1.2.2.2).bind fun f1 => (laws_markPart.f k x0.1 x0.2.1 x0.2.2 1).bind fun k0 => (laws_markAsk.f k x1.1 x1.2.1 x1.2.2.1 x1.2.2.2 k0.1).bind fun k1 => if f0 = true ∧ f1 = true ∧ 0 ≤ k1.1 then
 (laws_markPart.f k g.1 g.2.1 g.2.2.1 1).bind fun m0 => (laws_heldPart.f k m0.2.1 m0.2.2 g.2.2.1 1).bind fun q0 => if 0 ≤ q0 ∧ q0 = m0.1 then some true else none else none else none
set_option maxHeartbeats 8000000 in
set_option maxRecDepth 100000 in
theorem laws_FnExactAskPart.calls (k : Nat) (A0_0 : Option Addr) (c0_0 : Nat) (l0_0 : List S105) (A0_1 : Option Addr) (c0_1 : Nat) (l0_1 : List S99) (a0_2 : Int) (a1_0 : Int) (a1_1 : Int) (a1_2 : Int) (A1_3 : Option Addr) (c1_3 : Nat) (l1_3 : List ByteArray) (r : Bool) (w : World) (hr0_0 : Kd.C k105 w A0_0 l0_0.length l0_0) (hc0_0 : l0_0.length ≤ c0_0) (hr0_1 : Kd.C k99 w A0_1 l0_1.length l0_1) (hc0_1 : l0_1.length ≤ c0_1) (hr1_3 : Kd.C Kd.string w A1_3 l1_3.length l1_3) (hc1_3 : l1_3.length ≤ c1_3) (h : laws_FnExactAskPart.f k l0_0 l0_1 a0_2 a1_0 a1_1 a1_2 l1_3 = some r) :
  Calls Try.prog 5 #[.agg #[.slice A0_0 l0_0.length c0_0, .slice A0_1 l0_1.length c0_1, .int .i64 a0_2], .agg #[.int .i64 a1_0, .int .i64 a1_1, .int .i64 a1_2, .slice A1_3 l1_3.length c1_3]] w fun e w' => e = .returned (.bool r) ∧ Below w.heap.size w w' := by
 have qC := am_ hr0_0
 have rC := am_ hc0_0
 clear hr0_0 hc0_0
 have sC := am_ hr0_1
 have tC := am_ hc0_1
 clear hr0_1 hc0_1
 have lC := am_ hr1_3
 have mC := am_ hc1_3
 clear hr1_3 hc1_3
 unfold laws_FnExactAskPart.f at h
 obtain ⟨z0, hz0, g1⟩ := Option.bind_eq_some_iff.1 h
 clear h
 have cP := am_ hz0
 clear hz0
 by_cases eN : z0 < 0
 ·rw [if_pos eN] at g1
  obtain rfl : true = r := Option.some.inj g1
  have hd0 : decide (z0 < 0) = true := decide_eq_true eN
  clear eN g1
  go_enter Try.func5, Try.ntmps5
  have HL := am_ trivial
  have nG := am_ (Below.refl w.heap.size w)
  have oG := am_ (below_alloc nG.out (.cells #[.slice A0_0 l0_0.length c0_0, .slice A0_1 l0_1.length c0_1, .int .i64 a0_2] 25))
  clear nG
  replace HL := am_ (And.intro (show (w.alloc (.cells #[.slice A0_0 l0_0.length c0_0, .slice A0_1 l0_1.length c0_1, .int .i64 a0_2] 25)).heap.size = w.heap.size + 1 by rw [World.alloc]; exact Array.size_push _) HL.out)
  have mE := am_ (show (w.alloc (.cells #[.slice A0_0 l0_0.length c0_0, .slice A0_1 l0_1.length c0_1, .int .i64 a0_2] 25)).heap[w.heap.size]? = some (.cells #[.slice A0_0 l0_0.length c0_0, .slice A0_1 l0_1.length c0_1, .int .i64 a0_2] 25 (0, 0)) by rw [World.alloc]; exact Array.getElem?_push_size)
  have uC := am_ (below_alloc oG.out (.cells #[.int .i64 a1_0, .int .i64 a1_1, .int .i64 a1_2, .slice A1_3 l1_3.length c1_3] 53))
  clear oG
  have lB := am_ (blk_alloc mE.out (.cells #[.int .i64 a1_0, .int .i64 a1_1, .int .i64 a1_2, .slice A1_3 l1_3.length c1_3] 53))
  clear mE
  replace HL := am_ (And.intro (show ((w.alloc (.cells #[.slice A0_0 l0_0.length c0_0, .slice A0_1 l0_1.length c0_1, .int .i64 a0_2] 25)).alloc (.cells #[.int .i64 a1_0, .int .i64 a1_1, .int .i64 a1_2, .slice A1_3 l1_3.length c1_3] 53)).heap.size = (w.alloc (.cells #[.slice A0_0 l0_0.length c0_0, .slice A0_1 l0_1.length c0_1, .int .i64 a0_2] 25)).heap.size + 1 by rw [World.alloc]; exact Array.size_push _) HL.out)
  have nE := am_ (show ((w.alloc (.cells #[.slice A0_0 l0_0.length c0_0, .slice A0_1 l0_1.length c0_1, .int .i64 a0_2] 25)).alloc (.cells #[.int .i64 a1_0, .int .i64 a1_1, .int .i64 a1_2, .slice A1_3 l1_3.length c1_3] 53)).heap[w.heap.size + 1]? = some (.cells #[.int .i64 a1_0, .int .i64 a1_1, .int .i64 a1_2, .slice A1_3 l1_3.length c1_3] 53 (0, 0)) by rw [← (show (w.alloc (.cells #[.slice A0_0 l0_0.length c0_0, .slice A0_1 l0_1.length c0_1, .int .i64 a0_2] 25)).heap.size = w.heap.size + 1 from by simp only [World.alloc, Array.size_push])]; rw [World.alloc]; exact Array.getElem?_push_size)
  have xB : ((w.alloc (.cells #[.slice A0_0 l0_0.length c0_0, .slice A0_1 l0_1.length c0_1, .int .i64 a0_2] 25)).alloc (.cells #[.int .i64 a1_0, .int .i64 a1_1, .int .i64 a1_2, .slice A1_3 l1_3.length c1_3] 53)).cell? ⟨w.heap.size, 0, none⟩ = some (.slice A0_0 l0_0.length c0_0) := bt_ lB 0
  have yB : ((w.alloc (.cells #[.slice A0_0 l0_0.length c0_0, .slice A0_1 l0_1.length c0_1, .int .i64 a0_2] 25)).alloc (.cells #[.int .i64 a1_0, .int .i64 a1_1, .int .i64 a1_2, .slice A1_3 l1_3.length c1_3] 53)).cell? ⟨w.heap.size, 1, none⟩ = some (.slice A0_1 l0_1.length c0_1) := bt_ lB 1
  have zB : ((w.alloc (.cells #[.slice A0_0 l0_0.length c0_0, .slice A0_1 l0_1.length c0_1, .int .i64 a0_2] 25)).alloc (.cells #[.int .i64 a1_0, .int .i64 a1_1, .int .i64 a1_2, .slice A1_3 l1_3.length c1_3] 53)).cell? ⟨w.heap.size, 2, none⟩ = some (.int .i64 a0_2) := bt_ lB 2
  go_wp2_with fail
  refine (laws_szPart.calls k _ _ l0_0 _ _ l0_1 a0_2 1048576 z0 _ (Kd.C_below qC.out uC.out) rC.out (Kd.C_below sC.out uC.out) tC.out cP.out).mono ?_
  rintro e w3 ⟨rfl, pG⟩
  clear xB
  clear yB
  clear zB
  have aG := am_ (below_step uC.out pG)
  clear uC
  have wF := am_ (blk_below lB.out pG)
  clear lB
  have oB := am_ (blk_below nE.out pG)
  clear nE
  replace HL := am_ (And.intro (show ((w.alloc (.cells #[.slice A0_0 l0_0.length c0_0, .slice A0_1 l0_1.length c0_1, .int .i64 a0_2] 25)).alloc (.cells #[.int .i64 a1_0, .int .i64 a1_1, .int .i64 a1_2, .slice A1_3 l1_3.length c1_3] 53)).heap.size ≤ w3.heap.size from pG.size) HL.out)
  clear pG
  go_wp2_with fail
  go_ret
  exact ⟨rfl, aG.out⟩
 ·as_aux_lemma =>
   rw [if_neg eN] at g1
   have hd0 : decide (z0 < 0) = false := decide_eq_false eN
   clear eN
   obtain ⟨z1, hz1, g2⟩ := Option.bind_eq_some_iff.1 g1
   clear g1
   have lP := am_ hz1
   clear hz1
   by_cases iO : z1 < 0
   ·rw [if_pos iO] at g2
    obtain rfl : true = r := Option.some.inj g2
    have hd1 : decide (z1 < 0) = true := decide_eq_true iO
    clear iO g2
    go_enter Try.func5, Try.ntmps5
    have HL := am_ trivial
    have nG := am_ (Below.refl w.heap.size w)
    have oG := am_ (below_alloc nG.out (.cells #[.slice A0_0 l0_0.length c0_0, .slice A0_1 l0_1.length c0_1, .int .i64 a0_2] 25))
    clear nG
    replace HL := am_ (And.intro (show (w.alloc (.cells #[.slice A0_0 l0_0.length c0_0, .slice A0_1 l0_1.length c0_1, .int .i64 a0_2] 25)).heap.size = w.heap.size + 1 by rw [World.alloc]; exact Array.size_push _) HL.out)
    have mE := am_ (show (w.alloc (.cells #[.slice A0_0 l0_0.length c0_0, .slice A0_1 l0_1.length c0_1, .int .i64 a0_2] 25)).heap[w.heap.size]? = some (.cells #[.slice A0_0 l0_0.length c0_0, .slice A0_1 l0_1.length c0_1, .int .i64 a0_2] 25 (0, 0)) by rw [World.alloc]; exact Array.getElem?_push_size)
    have uC := am_ (below_alloc oG.out (.cells #[.int .i64 a1_0, .int .i64 a1_1, .int .i64 a1_2, .slice A1_3 l1_3.length c1_3] 53))
    clear oG
    have lB := am_ (blk_alloc mE.out (.cells #[.int .i64 a1_0, .int .i64 a1_1, .int .i64 a1_2, .slice A1_3 l1_3.length c1_3] 53))
    clear mE
    replace HL := am_ (And.intro (show ((w.alloc (.cells #[.slice A0_0 l0_0.length c0_0, .slice A0_1 l0_1.length c0_1, .int .i64 a0_2] 25)).alloc (.cells #[.int .i64 a1_0, .int .i64 a1_1, .int .i64 a1_2, .slice A1_3 l1_3.length c1_3] 53)).heap.size = (w.alloc (.cells #[.slice A0_0 l0_0.length c0_0, .slice A0_1 l0_1.length c0_1, .int .i64 a0_2] 25)).heap.size + 1 by rw [World.alloc]; exact Array.size_push _) HL.out)
    have nE := am_ (show ((w.alloc (.cells #[.slice A0_0 l0_0.length c0_0, .slice A0_1 l0_1.length c0_1, .int .i64 a0_2] 25)).alloc (.cells #[.int .i64 a1_0, .int .i64 a1_1, .int .i64 a1_2, .slice A1_3 l1_3.length c1_3] 53)).heap[w.heap.size + 1]? = some (.cells #[.int .i64 a1_0, .int .i64 a1_1, .int .i64 a1_2, .slice A1_3 l1_3.length c1_3] 53 (0, 0)) by rw [← (show (w.alloc (.cells #[.slice A0_0 l0_0.length c0_0, .slice A0_1 l0_1.length c0_1, .int .i64 a0_2] 25)).heap.size = w.heap.size + 1 from by simp only [World.alloc, Array.size_push])]; rw [World.alloc]; exact Array.getElem?_push_size)
    have xB : ((w.alloc (.cells #[.slice A0_0 l0_0.length c0_0, .slice A0_1 l0_1.length c0_1, .int .i64 a0_2] 25)).alloc (.cells #[.int .i64 a1_0, .int .i64 a1_1, .int .i64 a1_2, .slice A1_3 l1_3.length c1_3] 53)).cell? ⟨w.heap.size, 0, none⟩ = some (.slice A0_0 l0_0.length c0_0) := bt_ lB 0
    have yB : ((w.alloc (.cells #[.slice A0_0 l0_0.length c0_0, .slice A0_1 l0_1.length c0_1, .int .i64 a0_2] 25)).alloc (.cells #[.int .i64 a1_0, .int .i64 a1_1, .int .i64 a1_2, .slice A1_3 l1_3.length c1_3] 53)).cell? ⟨w.heap.size, 1, none⟩ = some (.slice A0_1 l0_1.length c0_1) := bt_ lB 1
    have zB : ((w.alloc (.cells #[.slice A0_0 l0_0.length c0_0, .slice A0_1 l0_1.length c0_1, .int .i64 a0_2] 25)).alloc (.cells #[.int .i64 a1_0, .int .i64 a1_1, .int .i64 a1_2, .slice A1_3 l1_3.length c1_3] 53)).cell? ⟨w.heap.size, 2, none⟩ = some (.int .i64 a0_2) := bt_ lB 2
    go_wp2_with fail
    refine (laws_szPart.calls k _ _ l0_0 _ _ l0_1 a0_2 1048576 z0 _ (Kd.C_below qC.out uC.out) rC.out (Kd.C_below sC.out uC.out) tC.out cP.out).mono ?_
    rintro e w3 ⟨rfl, pG⟩
    clear xB
    clear yB
    clear zB
    have aG := am_ (below_step uC.out pG)
    clear uC
    have wF := am_ (blk_below lB.out pG)
    clear lB
    have oB := am_ (blk_below nE.out pG)
    clear nE
    replace HL := am_ (And.intro (show ((w.alloc (.cells #[.slice A0_0 l0_0.length c0_0, .slice A0_1 l0_1.length c0_1, .int .i64 a0_2] 25)).alloc (.cells #[.int .i64 a1_0, .int .i64 a1_1, .int .i64 a1_2, .slice A1_3 l1_3.length c1_3] 53)).heap.size ≤ w3.heap.size from pG.size) HL.out)
    clear pG
    have qE : w3.cell? ⟨w.heap.size + 1, 0, none⟩ = some (.int .i64 a1_0) := bt_ oB 0
    have rE : w3.cell? ⟨w.heap.size + 1, 1, none⟩ = some (.int .i64 a1_1) := bt_ oB 1
    have sE : w3.cell? ⟨w.heap.size + 1, 2, none⟩ = some (.int .i64 a1_2) := bt_ oB 2
    have tE : w3.cell? ⟨w.heap.size + 1, 3, none⟩ = some (.slice A1_3 l1_3.length c1_3) := bt_ oB 3
    go_wp2_with fail
    refine (laws_szAsk.calls k a1_0 a1_1 a1_2 _ _ l1_3 z0 z1 _ (Kd.C_below lC.out aG.out) mC.out lP.out).mono ?_
    rintro e w4 ⟨rfl, hL⟩
    clear qE
    clear rE
    clear sE
    clear tE
    have wM := am_ (below_step aG.out hL)
    clear aG
    have iL := am_ (blk_below wF.out hL)
    clear wF
    have jL := am_ (blk_below oB.out hL)
    clear oB
    replace HL := am_ (And.intro (show w3.heap.size ≤ w4.heap.size from hL.size) HL.out)
    clear hL
    go_wp2_with fail
    go_ret
    exact ⟨rfl, wM.out⟩
   ·as_aux_lemma =>
     rw [if_neg iO] at g2
     have hd1 : decide (z1 < 0) = false := decide_eq_false iO
     clear iO
     obtain ⟨⟨jA, kA, lA⟩, ht0, g3⟩ := Option.bind_eq_some_iff.1 g2
     clear g2
     obtain ⟨⟨dA, eA, fA, gA⟩, ht1, g4⟩ := Option.bind_eq_some_iff.1 g3
     clear g3
     obtain ⟨⟨tA, yA, bB, gB, hB, iB⟩, hw, g5⟩ := Option.bind_eq_some_iff.1 g4
     clear g4
     obtain ⟨⟨aA, cA, bA, mO, nO, oO⟩, hg, g6⟩ := Option.bind_eq_some_iff.1 g5
     clear g5
     obtain ⟨e0, he0, g7⟩ := Option.bind_eq_some_iff.1 g6
     clear g6
     obtain ⟨⟨he0', hs1, hs2, hs3⟩, g8⟩ := Option.ite_none_right_eq_some.1 g7
     clear g7
     subst he0'
     obtain rfl : gB = mO := hs1.symm
     obtain rfl : hB = nO := hs2.symm
     obtain rfl : iB = oO := hs3.symm
     obtain ⟨f0, hf0, g9⟩ := Option.bind_eq_some_iff.1 g8
     clear g8
     obtain ⟨f1, hf1, g10⟩ := Option.bind_eq_some_iff.1 g9
     clear g9
     obtain ⟨⟨k0, ⟨fN, gN⟩⟩, hk0, g11⟩ := Option.bind_eq_some_iff.1 g10
     clear g10
     obtain ⟨⟨k1, hN⟩, hk1, g12⟩ := Option.bind_eq_some_iff.1 g11
     clear g11
     obtain ⟨⟨hf0', hf1', hkn⟩, g13⟩ := Option.ite_none_right_eq_some.1 g12
     clear g12
     subst hf0'
     subst hf1'
     obtain ⟨⟨m0, ⟨uE, vE⟩⟩, hm0, g14⟩ := Option.bind_eq_some_iff.1 g13
     clear g13
     obtain ⟨q0, hq0, g15⟩ := Option.bind_eq_some_iff.1 g14
     clear g14
     obtain ⟨⟨eN, hqm⟩, g16⟩ := Option.ite_none_right_eq_some.1 g15
     clear g15
     obtain rfl : q0 = m0 := hqm
     obtain rfl : true = r := Option.some.inj g16
     clear g16
     have hqd0 : decide (q0 < 0) = false := decide_eq_false (by omega)
     have hkd : decide (k1 < 0) = false := decide_eq_false (by have : 0 ≤ k1 := hkn; omega)
     have jO := am_ (show laws_toPart.f k l0_0 l0_1 a0_2 = some (jA, kA, lA) from ht0)
     have iN := am_ (show laws_toAsk.f k a1_0 a1_1 a1_2 l1_3 = some (dA, eA, fA, gA) from ht1)
     have HWS := am_ (show spec_AskPart.f k jA kA lA dA eA fA gA = some (tA, yA, bB, gB, hB, iB) from hw)
     have HGI := am_ (show impl_AskPart.f k jA kA lA dA eA fA gA = some (aA, cA, bA, gB, hB, iB) from hg)
     have dP := am_ (show laws_eqPart.f k aA cA bA tA yA bB = some true from he0)
     have pP := am_ (show laws_eqPart.f k jA kA lA jA kA lA = some true from hf0)
     have qP := am_ (show laws_eqAsk.f k dA eA fA gA dA eA fA gA = some true from hf1)
     have rP := am_ (show laws_markPart.f k jA kA lA 1 = some (k0, (fN, gN)) from hk0)
     have sP := am_ (show laws_markAsk.f k dA eA fA gA k0 = some (k1, hN) from hk1)
     have tP := am_ (show laws_markPart.f k aA cA bA 1 = some (q0, (uE, vE)) from hm0)
     have mP := am_ (show laws_heldPart.f k uE vE bA 1 = some q0 from hq0)
     clear ht0 ht1 hw hg he0 hf0 hf1 hk0 hk1 hm0 hq0 eN hkn
     go_enter Try.func5, Try.ntmps5
     have HL := am_ trivial
     have nG := am_ (Below.refl w.heap.size w)
     have oG := am_ (below_alloc nG.out (.cells #[.slice A0_0 l0_0.length c0_0, .slice A0_1 l0_1.length c0_1, .int .i64 a0_2] 25))
     clear nG
     replace HL := am_ (And.intro (show (w.alloc (.cells #[.slice A0_0 l0_0.length c0_0, .slice A0_1 l0_1.length c0_1, .int .i64 a0_2] 25)).heap.size = w.heap.size + 1 by rw [World.alloc]; exact Array.size_push _) HL.out)
     have mE := am_ (show (w.alloc (.cells #[.slice A0_0 l0_0.length c0_0, .slice A0_1 l0_1.length c0_1, .int .i64 a0_2] 25)).heap[w.heap.size]? = some (.cells #[.slice A0_0 l0_0.length c0_0, .slice A0_1 l0_1.length c0_1, .int .i64 a0_2] 25 (0, 0)) by rw [World.alloc]; exact Array.getElem?_push_size)
     have uC := am_ (below_alloc oG.out (.cells #[.int .i64 a1_0, .int .i64 a1_1, .int .i64 a1_2, .slice A1_3 l1_3.length c1_3] 53))
     clear oG
     have lB := am_ (blk_alloc mE.out (.cells #[.int .i64 a1_0, .int .i64 a1_1, .int .i64 a1_2, .slice A1_3 l1_3.length c1_3] 53))
     clear mE
     replace HL := am_ (And.intro (show ((w.alloc (.cells #[.slice A0_0 l0_0.length c0_0, .slice A0_1 l0_1.length c0_1, .int .i64 a0_2] 25)).alloc (.cells #[.int .i64 a1_0, .int .i64 a1_1, .int .i64 a1_2, .slice A1_3 l1_3.length c1_3] 53)).heap.size = (w.alloc (.cells #[.slice A0_0 l0_0.length c0_0, .slice A0_1 l0_1.length c0_1, .int .i64 a0_2] 25)).heap.size + 1 by rw [World.alloc]; exact Array.size_push _) HL.out)
     have nE := am_ (show ((w.alloc (.cells #[.slice A0_0 l0_0.length c0_0, .slice A0_1 l0_1.length c0_1, .int .i64 a0_2] 25)).alloc (.cells #[.int .i64 a1_0, .int .i64 a1_1, .int .i64 a1_2, .slice A1_3 l1_3.length c1_3] 53)).heap[w.heap.size + 1]? = some (.cells #[.int .i64 a1_0, .int .i64 a1_1, .int .i64 a1_2, .slice A1_3 l1_3.length c1_3] 53 (0, 0)) by rw [← (show (w.alloc (.cells #[.slice A0_0 l0_0.length c0_0, .slice A0_1 l0_1.length c0_1, .int .i64 a0_2] 25)).heap.size = w.heap.size + 1 from by simp only [World.alloc, Array.size_push])]; rw [World.alloc]; exact Array.getElem?_push_size)
     have xB : ((w.alloc (.cells #[.slice A0_0 l0_0.length c0_0, .slice A0_1 l0_1.length c0_1, .int .i64 a0_2] 25)).alloc (.cells #[.int .i64 a1_0, .int .i64 a1_1, .int .i64 a1_2, .slice A1_3 l1_3.length c1_3] 53)).cell? ⟨w.heap.size, 0, none⟩ = some (.slice A0_0 l0_0.length c0_0) := bt_ lB 0
     have yB : ((w.alloc (.cells #[.slice A0_0 l0_0.length c0_0, .slice A0_1 l0_1.length c0_1, .int .i64 a0_2] 25)).alloc (.cells #[.int .i64 a1_0, .int .i64 a1_1, .int .i64 a1_2, .slice A1_3 l1_3.length c1_3] 53)).cell? ⟨w.heap.size, 1, none⟩ = some (.slice A0_1 l0_1.length c0_1) := bt_ lB 1
     have zB : ((w.alloc (.cells #[.slice A0_0 l0_0.length c0_0, .slice A0_1 l0_1.length c0_1, .int .i64 a0_2] 25)).alloc (.cells #[.int .i64 a1_0, .int .i64 a1_1, .int .i64 a1_2, .slice A1_3 l1_3.length c1_3] 53)).cell? ⟨w.heap.size, 2, none⟩ = some (.int .i64 a0_2) := bt_ lB 2
     go_wp2_with fail
     refine (laws_szPart.calls k _ _ l0_0 _ _ l0_1 a0_2 1048576 z0 _ (Kd.C_below qC.out uC.out) rC.out (Kd.C_below sC.out uC.out) tC.out cP.out).mono ?_
     rintro e w3 ⟨rfl, pG⟩
     clear xB
     clear yB
     clear zB
     have aG := am_ (below_step uC.out pG)
     clear uC
     have wF := am_ (blk_below lB.out pG)
     clear lB
     have oB := am_ (blk_below nE.out pG)
     clear nE
     replace HL := am_ (And.intro (show ((w.alloc (.cells #[.slice A0_0 l0_0.length c0_0, .slice A0_1 l0_1.length c0_1, .int .i64 a0_2] 25)).alloc (.cells #[.int .i64 a1_0, .int .i64 a1_1, .int .i64 a1_2, .slice A1_3 l1_3.length c1_3] 53)).heap.size ≤ w3.heap.size from pG.size) HL.out)
     clear pG
     have qE : w3.cell? ⟨w.heap.size + 1, 0, none⟩ = some (.int .i64 a1_0) := bt_ oB 0
     have rE : w3.cell? ⟨w.heap.size + 1, 1, none⟩ = some (.int .i64 a1_1) := bt_ oB 1
     have sE : w3.cell? ⟨w.heap.size + 1, 2, none⟩ = some (.int .i64 a1_2) := bt_ oB 2
     have tE : w3.cell? ⟨w.heap.size + 1, 3, none⟩ = some (.slice A1_3 l1_3.length c1_3) := bt_ oB 3
     go_wp2_with fail
     refine (laws_szAsk.calls k a1_0 a1_1 a1_2 _ _ l1_3 z0 z1 _ (Kd.C_below lC.out aG.out) mC.out lP.out).mono ?_
     rintro e w4 ⟨rfl, hL⟩
     clear qE
     clear rE
     clear sE
     clear tE
     have wM := am_ (below_step aG.out hL)
     clear aG
     have iL := am_ (blk_below wF.out hL)
     clear wF
     have jL := am_ (blk_below oB.out hL)
     clear oB
     replace HL := am_ (And.intro (show w3.heap.size ≤ w4.heap.size from hL.size) HL.out)
     clear hL
     try go_wp2
     have vF := qH_ wM
     clear wM
     have xF := qK_ iL
     clear iL
     have wE := qK_ jL
     clear jL
     replace HL := am_ (And.intro (show w4.heap.size = w4.drew.heap.size from rfl) HL.out)
     refine start_ (n := 15) (S := fun w' => w'.cell? ⟨w.heap.size, 0, none⟩ = some (.slice A0_0 l0_0.length c0_0) ∧ w'.cell? ⟨w.heap.size, 1, none⟩ = some (.slice A0_1 l0_1.length c0_1) ∧ w'.cell? ⟨w.heap.size, 2, none⟩ = some (.int .i64 a0_2) ∧ w'.cell? ⟨w.heap.size + 1, 0, none⟩ = some (.int .i64 a1_0) ∧ w'.cell? ⟨w.heap.size + 1, 1, none⟩ = some (.int .i64 a1_1) ∧ w'.cell? ⟨w.heap.size + 1, 2, none⟩ = some (.int .i64 a1_2) ∧ w'.cell? ⟨w.heap.size + 1, 3, none⟩ = some (.slice A1_3 l1_3.length c1_3)) (ds := [11]) (List.replicate 15 false).toArray (by kernel_rfl) rfl rfl ⟨bt_ xF 0, bt_ xF 1, bt_ xF 2, bt_ wE 0, bt_ wE 1, bt_ wE 2, bt_ wE 3⟩ (fun hHeld => ?_)
     generalize w4.drew = w5 at vF xF wE HL hHeld ⊢
     have HBw := am_ (Below.refl w5.heap.size w5)
     have HH := am_ hHeld
     refine tx_ 0 34 ?_
     refine tx_ 2 36 ?_
     refine join_ (σ := Nat × Value × Value × Value × Value) 4 #[true, true, true, true, true, true, true, true, true, true, true, false, false, false, false] (fun s_ => [(35, s_.2.1), (37, s_.2.2.1), (38, .tuple #[.agg #[s_.2.2.2.1, s_.2.2.2.2, .int .i64 bB], .int .i64 gB, .int .i64 hB, .bool iB]), (33, .tuple #[.agg #[s_.2.2.2.1, s_.2.2.2.2, .int .i64 bB], .int .i64 gB, .int .i64 hB, .bool iB]), (39, .agg #[s_.2.2.2.1, s_.2.2.2.2, .int .i64 bB]), (40, .int .i64 gB), (41, .int .i64 hB), (42, .bool iB), (6, .pointer (some ⟨s_.1, 0, none⟩))]) (fun s_ w' => (w'.cell? ⟨w.heap.size, 0, none⟩ = some (.slice A0_0 l0_0.length c0_0) ∧ w'.cell? ⟨w.heap.size, 1, none⟩ = some (.slice A0_1 l0_1.length c0_1) ∧ w'.cell? ⟨w.heap.size, 2, none⟩ = some (.int .i64 a0_2) ∧ w'.cell? ⟨w.heap.size + 1, 0, none⟩ = some (.int .i64 a1_0) ∧ w'.cell? ⟨w.heap.size + 1, 1, none⟩ = some (.int .i64 a1_1) ∧ w'.cell? ⟨w.heap.size + 1, 2, none⟩ = some (.int .i64 a1_2) ∧ w'.cell? ⟨w.heap.size + 1, 3, none⟩ = some (.slice A1_3 l1_3.length c1_3)) ∧ w'.heap[s_.1]? = some (.cells #[.slice none 0 0, .slice none 0 0, .int .i64 0] 33 (0, 0)) ∧ w5.heap.size ≤ s_.1 ∧ Kd.S k81 81 w' w5.heap.size (fun _ => True) (s_.2.2.2.1) tA ∧ Kd.S k78 78 w' w5.heap.size (fun _ => True) (s_.2.2.2.2) yA ∧ Below w5.heap.size w5 w') ?_ ?_
     rotate_left
     ·intro hCont
      refine two_ (i := 1) (j := 10) (Ni := some 35) (Nj := some 6) #[true, true, true, false, false, false, false, false, false, false, false, false, false, false, false] #[true, false, true, false, false, false, false, false, false, false, true, false, false, false, false] rfl rfl rfl rfl (by kernel_rfl) (by decide) (by decide) (fun K hK => ?_) (fun K hK => ?_)
      ·skip
       refine gs_ Try.func12 #[.agg #[.slice A0_0 l0_0.length c0_0, .slice A0_1 l0_1.length c0_1, .int .i64 a0_2]] rfl (by (try simp only [List.map_toArray, List.map_cons, List.map_nil]); first | done | rfl) ?_
       refine (laws_toPart.calls k _ _ l0_0 _ _ l0_1 a0_2 jA kA lA _ (Kd.C_below qC.out (below_step vF.out HBw.out)) rC.out (Kd.C_below sC.out (below_step vF.out HBw.out)) tC.out jO.out).mono ?_
       rintro e wq1 ⟨xM, yM, rfl, mB, nB, hb⟩
       refine ⟨_, rfl, ?_⟩
       have hA := am_ mB
       obtain ⟨cB, dB, e9_⟩ := Kd.S_slice mB
       subst e9_
       have iA := am_ nB
       obtain ⟨eB, fB, e9_⟩ := Kd.S_slice nB
       subst e9_
       replace HBw := am_ (below_step HBw.out hb)
       clear mB nB hb
       refine hK.out _ _ (hc_ HH) fun hHeld => ?_
       clear hK K
       refine no_ ?_
       refine two_ (i := 3) (j := 10) (Ni := some 37) (Nj := some 6) #[true, true, true, true, false, false, false, false, false, false, false, false, false, false, false] #[true, true, true, false, false, false, false, false, false, false, true, false, false, false, false] rfl rfl rfl rfl (by kernel_rfl) (by decide) (by decide) (fun K hK => ?_) (fun K hK => ?_)
       ·skip
        refine gs_ Try.func31 #[.agg #[.int .i64 a1_0, .int .i64 a1_1, .int .i64 a1_2, .slice A1_3 l1_3.length c1_3]] rfl (by (try simp only [List.map_toArray, List.map_cons, List.map_nil]); first | done | rfl) ?_
        refine (laws_toAsk.calls k a1_0 a1_1 a1_2 _ _ l1_3 dA eA fA gA _ (Kd.C_below lC.out (below_step vF.out HBw.out)) mC.out iN.out).mono ?_
        rintro e wq2 ⟨bL, rfl, oE, hb⟩
        refine ⟨_, rfl, ?_⟩
        replace hA := am_ (Kd.S_below hA.out hb)
        replace iA := am_ (Kd.S_below iA.out hb)
        have mA := am_ oE
        obtain ⟨zA, aB, e9_⟩ := Kd.R_slice oE
        subst e9_
        replace HBw := am_ (below_step HBw.out hb)
        clear oE hb
        refine hK.out _ _ (hc_ HH) fun hHeld => ?_
        clear hK K
        refine no_ ?_
        refine two_ (i := 4) (j := 10) (Ni := some 38) (Nj := some 6) #[true, true, true, true, true, false, false, false, false, false, false, false, false, false, false] #[true, true, true, true, false, false, false, false, false, false, true, false, false, false, false] rfl rfl rfl rfl (by kernel_rfl) (by decide) (by decide) (fun K hK => ?_) (fun K hK => ?_)
        ·skip
         refine gs_ Try.func30 #[.agg #[.slice cB jA.length dB, .slice eB kA.length fB, .int .i64 lA], .agg #[.int .i64 dA, .int .i64 eA, .int .i64 fA, .slice zA gA.length aB]] rfl (by (try simp only [List.map_toArray, List.map_cons, List.map_nil]); first | done | rfl) ?_
         refine (spec_AskPart.calls k _ _ jA _ _ kA lA dA eA fA _ _ gA tA yA bB gB hB iB _ (Kd.S_reads' hA.out).2.2 (Kd.S_reads' hA.out).2.1 (Kd.S_reads' iA.out).2.2 (Kd.S_reads' iA.out).2.1 (Kd.R_reads' mA.out).2.2 (Kd.R_reads' mA.out).2.1 HWS.out).mono ?_
         rintro e wq3 ⟨uw0, uw1, rfl, mB, nB, hb⟩
         refine ⟨_, rfl, ?_⟩
         have yD := am_ (Kd.S_lower mB HBw.out.size)
         have zD := am_ (Kd.S_lower nB HBw.out.size)
         replace HBw := am_ (below_step HBw.out hb)
         clear mB nB hA iA mA hb
         refine hK.out _ _ (hc_ HH) fun hHeld => ?_
         clear hK K
         refine no_ ?_
         refine px_ 5 33 ?_
         refine px_ 6 39 ?_
         refine px_ 7 40 ?_
         refine px_ 8 41 ?_
         refine px_ 9 42 ?_
         refine ox_ 10 6 fun K hK => ?_
         refine bs_ (N := 6) #[.slice none 0 0, .slice none 0 0, .int .i64 0] 33 ?_
         intro gQ hg_ wq4 hbox_ hb
         have HGE := am_ (show w5.heap.size ≤ gQ from by rw [hg_]; exact HBw.out.size)
         have HBX := am_ hbox_
         replace yD := am_ (Kd.S_below yD.out hb)
         replace zD := am_ (Kd.S_below zD.out hb)
         replace HBw := am_ (below_step HBw.out hb)
         clear hg_ hbox_ hb
         refine hK.out _ _ (hc_ HH) fun hHeld => ?_
         clear hK K
         refine no_ ?_
         exact nq_ (hCont (gQ, .agg #[.slice cB jA.length dB, .slice eB kA.length fB, .int .i64 lA], .agg #[.int .i64 dA, .int .i64 eA, .int .i64 fA, .slice zA gA.length aB], uw0, uw1) _ ⟨hHeld, HBX.out, HGE.out, yD.out, zD.out, HBw.out⟩)
        ·skip
         refine bs_ (N := 6) #[.slice none 0 0, .slice none 0 0, .int .i64 0] 33 ?_
         intro gQ hg_ wq5 hbox_ hb
         have HGE := am_ (show w5.heap.size ≤ gQ from by rw [hg_]; exact HBw.out.size)
         have HBX := am_ hbox_
         replace hA := am_ (Kd.S_below hA.out hb)
         replace iA := am_ (Kd.S_below iA.out hb)
         replace mA := am_ (Kd.R_below mA.out hb)
         replace HBw := am_ (below_step HBw.out hb)
         clear hg_ hbox_ hb
         refine hK.out _ _ (hc_ HH) fun hHeld => ?_
         clear hK K
         refine no_ ?_
         refine ox_ 4 38 fun K hK => ?_
         refine gs_ Try.func30 #[.agg #[.slice cB jA.length dB, .slice eB kA.length fB, .int .i64 lA], .agg #[.int .i64 dA, .int .i64 eA, .int .i64 fA, .slice zA gA.length aB]] rfl (by (try simp only [List.map_toArray, List.map_cons, List.map_nil]); first | done | rfl) ?_
         refine (spec_AskPart.calls k _ _ jA _ _ kA lA dA eA fA _ _ gA tA yA bB gB hB iB _ (Kd.S_reads' hA.out).2.2 (Kd.S_reads' hA.out).2.1 (Kd.S_reads' iA.out).2.2 (Kd.S_reads' iA.out).2.1 (Kd.R_reads' mA.out).2.2 (Kd.R_reads' mA.out).2.1 HWS.out).mono ?_
         rintro e wq6 ⟨uw0, uw1, rfl, mB, nB, hb⟩
         refine ⟨_, rfl, ?_⟩
         replace HBX := am_ (blk_below HBX.out hb)
         have yD := am_ (Kd.S_lower mB HBw.out.size)
         have zD := am_ (Kd.S_lower nB HBw.out.size)
         replace HBw := am_ (below_step HBw.out hb)
         clear mB nB hA iA mA hb
         refine hK.out _ _ (hc_ HH) fun hHeld => ?_
         clear hK K
         refine no_ ?_
         refine px_ 5 33 ?_
         refine px_ 6 39 ?_
         refine px_ 7 40 ?_
         refine px_ 8 41 ?_
         refine px_ 9 42 ?_
         exact nq_ (hCont (gQ, .agg #[.slice cB jA.length dB, .slice eB kA.length fB, .int .i64 lA], .agg #[.int .i64 dA, .int .i64 eA, .int .i64 fA, .slice zA gA.length aB], uw0, uw1) _ ⟨hHeld, HBX.out, HGE.out, yD.out, zD.out, HBw.out⟩)
       ·skip
        refine bs_ (N := 6) #[.slice none 0 0, .slice none 0 0, .int .i64 0] 33 ?_
        intro gQ hg_ wq7 hbox_ hb
        have HGE := am_ (show w5.heap.size ≤ gQ from by rw [hg_]; exact HBw.out.size)
        have HBX := am_ hbox_
        replace hA := am_ (Kd.S_below hA.out hb)
        replace iA := am_ (Kd.S_below iA.out hb)
        replace HBw := am_ (below_step HBw.out hb)
        clear hg_ hbox_ hb
        refine hK.out _ _ (hc_ HH) fun hHeld => ?_
        clear hK K
        refine no_ ?_
        refine ox_ 3 37 fun K hK => ?_
        refine gs_ Try.func31 #[.agg #[.int .i64 a1_0, .int .i64 a1_1, .int .i64 a1_2, .slice A1_3 l1_3.length c1_3]] rfl (by (try simp only [List.map_toArray, List.map_cons, List.map_nil]); first | done | rfl) ?_
        refine (laws_toAsk.calls k a1_0 a1_1 a1_2 _ _ l1_3 dA eA fA gA _ (Kd.C_below lC.out (below_step vF.out HBw.out)) mC.out iN.out).mono ?_
        rintro e wq8 ⟨bL, rfl, oE, hb⟩
        refine ⟨_, rfl, ?_⟩
        replace hA := am_ (Kd.S_below hA.out hb)
        replace iA := am_ (Kd.S_below iA.out hb)
        replace HBX := am_ (blk_below HBX.out hb)
        have mA := am_ oE
        obtain ⟨zA, aB, e9_⟩ := Kd.R_slice oE
        subst e9_
        replace HBw := am_ (below_step HBw.out hb)
        clear oE hb
        refine hK.out _ _ (hc_ HH) fun hHeld => ?_
        clear hK K
        refine no_ ?_
        refine ox_ 4 38 fun K hK => ?_
        refine gs_ Try.func30 #[.agg #[.slice cB jA.length dB, .slice eB kA.length fB, .int .i64 lA], .agg #[.int .i64 dA, .int .i64 eA, .int .i64 fA, .slice zA gA.length aB]] rfl (by (try simp only [List.map_toArray, List.map_cons, List.map_nil]); first | done | rfl) ?_
        refine (spec_AskPart.calls k _ _ jA _ _ kA lA dA eA fA _ _ gA tA yA bB gB hB iB _ (Kd.S_reads' hA.out).2.2 (Kd.S_reads' hA.out).2.1 (Kd.S_reads' iA.out).2.2 (Kd.S_reads' iA.out).2.1 (Kd.R_reads' mA.out).2.2 (Kd.R_reads' mA.out).2.1 HWS.out).mono ?_
        rintro e wq9 ⟨uw0, uw1, rfl, mB, nB, hb⟩
        refine ⟨_, rfl, ?_⟩
        replace HBX := am_ (blk_below HBX.out hb)
        have yD := am_ (Kd.S_lower mB HBw.out.size)
        have zD := am_ (Kd.S_lower nB HBw.out.size)
        replace HBw := am_ (below_step HBw.out hb)
        clear mB nB hA iA mA hb
        refine hK.out _ _ (hc_ HH) fun hHeld => ?_
        clear hK K
        refine no_ ?_
        refine px_ 5 33 ?_
        refine px_ 6 39 ?_
        refine px_ 7 40 ?_
        refine px_ 8 41 ?_
        refine px_ 9 42 ?_
        exact nq_ (hCont (gQ, .agg #[.slice cB jA.length dB, .slice eB kA.length fB, .int .i64 lA], .agg #[.int .i64 dA, .int .i64 eA, .int .i64 fA, .slice zA gA.length aB], uw0, uw1) _ ⟨hHeld, HBX.out, HGE.out, yD.out, zD.out, HBw.out⟩)
      ·skip
       refine bs_ (N := 6) #[.slice none 0 0, .slice none 0 0, .int .i64 0] 33 ?_
       intro gQ hg_ wq10 hbox_ hb
       have HGE := am_ (show w5.heap.size ≤ gQ from by rw [hg_]; exact HBw.out.size)
       have HBX := am_ hbox_
       replace HBw := am_ (below_step HBw.out hb)
       clear hg_ hbox_ hb
       refine hK.out _ _ (hc_ HH) fun hHeld => ?_
       clear hK K
       refine no_ ?_
       refine ox_ 1 35 fun K hK => ?_
       refine gs_ Try.func12 #[.agg #[.slice A0_0 l0_0.length c0_0, .slice A0_1 l0_1.length c0_1, .int .i64 a0_2]] rfl (by (try simp only [List.map_toArray, List.map_cons, List.map_nil]); first | done | rfl) ?_
       refine (laws_toPart.calls k _ _ l0_0 _ _ l0_1 a0_2 jA kA lA _ (Kd.C_below qC.out (below_step vF.out HBw.out)) rC.out (Kd.C_below sC.out (below_step vF.out HBw.out)) tC.out jO.out).mono ?_
       rintro e wq11 ⟨xM, yM, rfl, mB, nB, hb⟩
       refine ⟨_, rfl, ?_⟩
       replace HBX := am_ (blk_below HBX.out hb)
       have hA := am_ mB
       obtain ⟨cB, dB, e9_⟩ := Kd.S_slice mB
       subst e9_
       have iA := am_ nB
       obtain ⟨eB, fB, e9_⟩ := Kd.S_slice nB
       subst e9_
       replace HBw := am_ (below_step HBw.out hb)
       clear mB nB hb
       refine hK.out _ _ (hc_ HH) fun hHeld => ?_
       clear hK K
       refine no_ ?_
       refine ox_ 3 37 fun K hK => ?_
       refine gs_ Try.func31 #[.agg #[.int .i64 a1_0, .int .i64 a1_1, .int .i64 a1_2, .slice A1_3 l1_3.length c1_3]] rfl (by (try simp only [List.map_toArray, List.map_cons, List.map_nil]); first | done | rfl) ?_
       refine (laws_toAsk.calls k a1_0 a1_1 a1_2 _ _ l1_3 dA eA fA gA _ (Kd.C_below lC.out (below_step vF.out HBw.out)) mC.out iN.out).mono ?_
       rintro e wq12 ⟨bL, rfl, oE, hb⟩
       refine ⟨_, rfl, ?_⟩
       replace HBX := am_ (blk_below HBX.out hb)
       replace hA := am_ (Kd.S_below hA.out hb)
       replace iA := am_ (Kd.S_below iA.out hb)
       have mA := am_ oE
       obtain ⟨zA, aB, e9_⟩ := Kd.R_slice oE
       subst e9_
       replace HBw := am_ (below_step HBw.out hb)
       clear oE hb
       refine hK.out _ _ (hc_ HH) fun hHeld => ?_
       clear hK K
       refine no_ ?_
       refine ox_ 4 38 fun K hK => ?_
       refine gs_ Try.func30 #[.agg #[.slice cB jA.length dB, .slice eB kA.length fB, .int .i64 lA], .agg #[.int .i64 dA, .int .i64 eA, .int .i64 fA, .slice zA gA.length aB]] rfl (by (try simp only [List.map_toArray, List.map_cons, List.map_nil]); first | done | rfl) ?_
       refine (spec_AskPart.calls k _ _ jA _ _ kA lA dA eA fA _ _ gA tA yA bB gB hB iB _ (Kd.S_reads' hA.out).2.2 (Kd.S_reads' hA.out).2.1 (Kd.S_reads' iA.out).2.2 (Kd.S_reads' iA.out).2.1 (Kd.R_reads' mA.out).2.2 (Kd.R_reads' mA.out).2.1 HWS.out).mono ?_
       rintro e wq13 ⟨uw0, uw1, rfl, mB, nB, hb⟩
       refine ⟨_, rfl, ?_⟩
       replace HBX := am_ (blk_below HBX.out hb)
       have yD := am_ (Kd.S_lower mB HBw.out.size)
       have zD := am_ (Kd.S_lower nB HBw.out.size)
       replace HBw := am_ (below_step HBw.out hb)
       clear mB nB hA iA mA hb
       refine hK.out _ _ (hc_ HH) fun hHeld => ?_
       clear hK K
       refine no_ ?_
       refine px_ 5 33 ?_
       refine px_ 6 39 ?_
       refine px_ 7 40 ?_
       refine px_ 8 41 ?_
       refine px_ 9 42 ?_
       exact nq_ (hCont (gQ, .agg #[.slice cB jA.length dB, .slice eB kA.length fB, .int .i64 lA], .agg #[.int .i64 dA, .int .i64 eA, .int .i64 fA, .slice zA gA.length aB], uw0, uw1) _ ⟨hHeld, HBX.out, HGE.out, yD.out, zD.out, HBw.out⟩)
     rintro ⟨gQ, d0, d1, u0, u1⟩ w6 ⟨hS_, hbx_, hge_, h0_, h1_, hB_⟩
     have HBX := am_ hbx_
     have HGE := am_ hge_
     have yD := am_ h0_
     have zD := am_ h1_
     have HBe := am_ hB_
     clear HBw hS_ hbx_ hge_ h0_ h1_ hB_ hHeld
     refine np_ ?_
     obtain ⟨jB, kB, e9_⟩ := Kd.S_slice yD.out
     subst e9_
     obtain ⟨rB, sB, e9_⟩ := Kd.S_slice zD.out
     subst e9_
     obtain ⟨hq0_, hq1_, hq2_, hqf0_, hqf1_, hqf2_⟩ := cf3_ HBX.out
     refine last_ (i := 11) (N := none) #[true, true, true, true, true, true, true, true, true, true, true, true, false, false, false] rfl rfl (by kernel_rfl) (by decide) (fun K hK => ?_)
     refine skip_ (w1 := (((w6.setCell ⟨gQ, 0, none⟩ (.slice jB tA.length kB)).setCell ⟨gQ, 1, none⟩ (.slice rB yA.length sB)).setCell ⟨gQ, 2, none⟩ (.int .i64 bB))) (by rfl) rfl ?_ ?_
     ·first | (go_simp; done) | (go_simp; rfl)
     refine hK.out _ _ ?_
     clear hK K hq0_ hqf0_ hq1_ hqf1_ hq2_ hqf2_
     refine px_ 12 7 ?_
     refine px_ 13 8 ?_
     refine px_ 14 9 ?_
     refine done_ (by kernel_rfl) ?_
     have hu0_ := (Kd.S_set (Kd.S_set (Kd.S_set yD.out HBX.out (by decide) 0 (.slice jB tA.length kB)) (blk_put (cs := #[.slice none 0 0, .slice none 0 0, .int .i64 0]) HBX.out 0 (.slice jB tA.length kB) rfl) (by decide) 1 (.slice rB yA.length sB)) (blk_put (cs := #[.slice jB tA.length kB, .slice none 0 0, .int .i64 0]) (blk_put (cs := #[.slice none 0 0, .slice none 0 0, .int .i64 0]) HBX.out 0 (.slice jB tA.length kB) rfl) 1 (.slice rB yA.length sB) rfl) (by decide) 2 (.int .i64 bB))
     have hu1_ := (Kd.S_set (Kd.S_set (Kd.S_set zD.out HBX.out (by decide) 0 (.slice jB tA.length kB)) (blk_put (cs := #[.slice none 0 0, .slice none 0 0, .int .i64 0]) HBX.out 0 (.slice jB tA.length kB) rfl) (by decide) 1 (.slice rB yA.length sB)) (blk_put (cs := #[.slice jB tA.length kB, .slice none 0 0, .int .i64 0]) (blk_put (cs := #[.slice none 0 0, .slice none 0 0, .int .i64 0]) HBX.out 0 (.slice jB tA.length kB) rfl) 1 (.slice rB yA.length sB) rfl) (by decide) 2 (.int .i64 bB))
     have hbx_ := (blk_put (cs := #[.slice jB tA.length kB, .slice rB yA.length sB, .int .i64 0]) (blk_put (cs := #[.slice jB tA.length kB, .slice none 0 0, .int .i64 0]) (blk_put (cs := #[.slice none 0 0, .slice none 0 0, .int .i64 0]) HBX.out 0 (.slice jB tA.length kB) rfl) 1 (.slice rB yA.length sB) rfl) 2 (.int .i64 bB) rfl)
     have kO : Below w5.heap.size w5 (((w6.setCell ⟨gQ, 0, none⟩ (.slice jB tA.length kB)).setCell ⟨gQ, 1, none⟩ (.slice rB yA.length sB)).setCell ⟨gQ, 2, none⟩ (.int .i64 bB)) := (below_set (below_set (below_set HBe.out HGE.out) HGE.out) HGE.out)
     have hlt_ := blk_lt (blk_put (cs := #[.slice jB tA.length kB, .slice rB yA.length sB, .int .i64 0]) (blk_put (cs := #[.slice jB tA.length kB, .slice none 0 0, .int .i64 0]) (blk_put (cs := #[.slice none 0 0, .slice none 0 0, .int .i64 0]) HBX.out 0 (.slice jB tA.length kB) rfl) 1 (.slice rB yA.length sB) rfl) 2 (.int .i64 bB) rfl)
     clear HBX yD zD HBe
     generalize (((w6.setCell ⟨gQ, 0, none⟩ (.slice jB tA.length kB)).setCell ⟨gQ, 1, none⟩ (.slice rB yA.length sB)).setCell ⟨gQ, 2, none⟩ (.int .i64 bB)) = w7 at hu0_ hu1_ hbx_ kO hlt_ ⊢
     have zM := am_ (below_step vF.out kO)
     clear vF
     have qG := am_ (blk_below xF.out kO)
     clear xF
     have jN := am_ (blk_below wE.out kO)
     clear wE
     replace HL := am_ (And.intro (show w5.heap.size ≤ gQ ∧ gQ < w7.heap.size from ⟨HGE.out, hlt_⟩) HL.out)
     clear HGE hlt_
     replace HL := am_ (And.intro (show w5.heap.size ≤ w7.heap.size from kO.size) HL.out)
     have yF := am_ (Kd.S_lower (Kd.S_mono (ok' := fun k_ => (w5.heap.size ≤ k_ ∧ k_ < w7.heap.size) ∧ ∃ q_, q_ ∈ 81 :: (k81).E ∧ ∃ c_, w7.heap[k_]? = some (.cells c_ q_ (0, 0))) (Kd.S_bound hu0_) (fun k_ h_ => ⟨⟨h_.2.1, h_.2.2.1⟩, h_.2.2.2⟩)) (show w.heap.size ≤ w5.heap.size by have l_ := HL.out; omega))
     have zF := am_ (Kd.S_lower (Kd.S_mono (ok' := fun k_ => (w5.heap.size ≤ k_ ∧ k_ < w7.heap.size) ∧ ∃ q_, q_ ∈ 78 :: (k78).E ∧ ∃ c_, w7.heap[k_]? = some (.cells c_ q_ (0, 0))) (Kd.S_bound hu1_) (fun k_ h_ => ⟨⟨h_.2.1, h_.2.2.1⟩, h_.2.2.2⟩)) (show w.heap.size ≤ w5.heap.size by have l_ := HL.out; omega))
     have kL := am_ (hbx_)
     clear hbx_
     clear hu0_ hu1_ kO
     have lL : w7.cell? ⟨w.heap.size, 0, none⟩ = some (.slice A0_0 l0_0.length c0_0) := bt_ qG 0
     have mL : w7.cell? ⟨w.heap.size, 1, none⟩ = some (.slice A0_1 l0_1.length c0_1) := bt_ qG 1
     have nL : w7.cell? ⟨w.heap.size, 2, none⟩ = some (.int .i64 a0_2) := bt_ qG 2
     go_wp2_with fail
     refine (laws_toPart.calls k _ _ l0_0 _ _ l0_1 a0_2 jA kA lA _ (Kd.C_below qC.out zM.out) rC.out (Kd.C_below sC.out zM.out) tC.out jO.out).mono ?_
     rintro e w9 ⟨uP, vP, rfl, ho0_0, ho0_1, kN⟩
     clear lL
     clear mL
     clear nL
     have pO := am_ (below_step zM.out kN)
     clear zM
     have lN := am_ (blk_below qG.out kN)
     clear qG
     have mN := am_ (blk_below jN.out kN)
     clear jN
     have nJ := am_ (Kd.S_below yF.out kN)
     clear yF
     have oJ := am_ (Kd.S_below zF.out kN)
     clear zF
     have oL := am_ (blk_below kL.out kN)
     clear kL
     replace HL := am_ (And.intro (show w7.heap.size ≤ w9.heap.size from kN.size) HL.out)
     have aE := am_ (Kd.S_lower (Kd.S_mono (ok' := fun k_ => (w7.heap.size ≤ k_ ∧ k_ < w9.heap.size) ∧ ∃ q_, q_ ∈ 81 :: (k81).E ∧ ∃ c_, w9.heap[k_]? = some (.cells c_ q_ (0, 0))) (Kd.S_bound ho0_0) (fun k_ h_ => ⟨⟨h_.2.1, h_.2.2.1⟩, h_.2.2.2⟩)) (show w.heap.size ≤ w7.heap.size by have l_ := HL.out; omega))
     have bE := am_ (Kd.S_lower (Kd.S_mono (ok' := fun k_ => (w7.heap.size ≤ k_ ∧ k_ < w9.heap.size) ∧ ∃ q_, q_ ∈ 78 :: (k78).E ∧ ∃ c_, w9.heap[k_]? = some (.cells c_ q_ (0, 0))) (Kd.S_bound ho0_1) (fun k_ h_ => ⟨⟨h_.2.1, h_.2.2.1⟩, h_.2.2.2⟩)) (show w.heap.size ≤ w7.heap.size by have l_ := HL.out; omega))
     clear ho0_0 ho0_1 kN
     obtain ⟨uA, vA, rfl⟩ := Kd.S_slice aE.out
     obtain ⟨wA, xA, rfl⟩ := Kd.S_slice bE.out
     have pL := am_ (below_alloc pO.out (.cells #[.slice uA jA.length vA, .slice wA kA.length xA, .int .i64 lA] 33))
     clear pO
     have qL := am_ (blk_alloc lN.out (.cells #[.slice uA jA.length vA, .slice wA kA.length xA, .int .i64 lA] 33))
     clear lN
     have cE := am_ (blk_alloc mN.out (.cells #[.slice uA jA.length vA, .slice wA kA.length xA, .int .i64 lA] 33))
     clear mN
     have rG := am_ (Kd.S_alloc nJ.out (.cells #[.slice uA jA.length vA, .slice wA kA.length xA, .int .i64 lA] 33))
     clear nJ
     have sG := am_ (Kd.S_alloc oJ.out (.cells #[.slice uA jA.length vA, .slice wA kA.length xA, .int .i64 lA] 33))
     clear oJ
     have pJ := am_ (blk_alloc oL.out (.cells #[.slice uA jA.length vA, .slice wA kA.length xA, .int .i64 lA] 33))
     clear oL
     have tG := am_ (Kd.S_alloc aE.out (.cells #[.slice uA jA.length vA, .slice wA kA.length xA, .int .i64 lA] 33))
     clear aE
     have uG := am_ (Kd.S_alloc bE.out (.cells #[.slice uA jA.length vA, .slice wA kA.length xA, .int .i64 lA] 33))
     clear bE
     replace HL := am_ (And.intro (show (w9.alloc (.cells #[.slice uA jA.length vA, .slice wA kA.length xA, .int .i64 lA] 33)).heap.size = w9.heap.size + 1 by rw [World.alloc]; exact Array.size_push _) HL.out)
     have qJ := am_ (show (w9.alloc (.cells #[.slice uA jA.length vA, .slice wA kA.length xA, .int .i64 lA] 33)).heap[w9.heap.size]? = some (.cells #[.slice uA jA.length vA, .slice wA kA.length xA, .int .i64 lA] 33 (0, 0)) by rw [World.alloc]; exact Array.getElem?_push_size)
     have cL : (w9.alloc (.cells #[.slice uA jA.length vA, .slice wA kA.length xA, .int .i64 lA] 33)).cell? ⟨w.heap.size + 1, 0, none⟩ = some (.int .i64 a1_0) := bt_ cE 0
     have dL : (w9.alloc (.cells #[.slice uA jA.length vA, .slice wA kA.length xA, .int .i64 lA] 33)).cell? ⟨w.heap.size + 1, 1, none⟩ = some (.int .i64 a1_1) := bt_ cE 1
     have eL : (w9.alloc (.cells #[.slice uA jA.length vA, .slice wA kA.length xA, .int .i64 lA] 33)).cell? ⟨w.heap.size + 1, 2, none⟩ = some (.int .i64 a1_2) := bt_ cE 2
     have fL : (w9.alloc (.cells #[.slice uA jA.length vA, .slice wA kA.length xA, .int .i64 lA] 33)).cell? ⟨w.heap.size + 1, 3, none⟩ = some (.slice A1_3 l1_3.length c1_3) := bt_ cE 3
     go_wp2_with fail
     refine (laws_toAsk.calls k a1_0 a1_1 a1_2 _ _ l1_3 dA eA fA gA _ (Kd.C_below lC.out pL.out) mC.out iN.out).mono ?_
     rintro e tB ⟨wP, rfl, ho1_3, xE⟩
     clear cL
     clear dL
     clear eL
     clear fL
     have nN := am_ (below_step pL.out xE)
     clear pL
     have rL := am_ (blk_below qL.out xE)
     clear qL
     have sL := am_ (blk_below cE.out xE)
     clear cE
     have vG := am_ (Kd.S_below rG.out xE)
     clear rG
     have wG := am_ (Kd.S_below sG.out xE)
     clear sG
     have rJ := am_ (blk_below pJ.out xE)
     clear pJ
     have xG := am_ (Kd.S_below tG.out xE)
     clear tG
     have yG := am_ (Kd.S_below uG.out xE)
     clear uG
     have sJ := am_ (blk_below qJ.out xE)
     clear qJ
     replace HL := am_ (And.intro (show (w9.alloc (.cells #[.slice uA jA.length vA, .slice wA kA.length xA, .int .i64 lA] 33)).heap.size ≤ tB.heap.size from xE.size) HL.out)
     have dE := am_ (Kd.R_lower (Kd.R_mono (ok' := fun k_ => ((w9.alloc (.cells #[.slice uA jA.length vA, .slice wA kA.length xA, .int .i64 lA] 33)).heap.size ≤ k_ ∧ k_ < tB.heap.size) ∧ ∃ q_, q_ ∈ 9 :: (Kd.string).E ∧ ∃ c_, tB.heap[k_]? = some (.cells c_ q_ (0, 0))) (Kd.R_bound ho1_3) (fun k_ h_ => ⟨⟨h_.2.1, h_.2.2.1⟩, h_.2.2.2⟩)) (show w.heap.size ≤ (w9.alloc (.cells #[.slice uA jA.length vA, .slice wA kA.length xA, .int .i64 lA] 33)).heap.size by have l_ := HL.out; omega))
     clear ho1_3 xE
     obtain ⟨nA, oA, rfl⟩ := Kd.R_slice dE.out
     have oN := am_ (below_alloc nN.out (.cells #[.int .i64 dA, .int .i64 eA, .int .i64 fA, .slice nA gA.length oA] 57))
     clear nN
     have tL := am_ (blk_alloc rL.out (.cells #[.int .i64 dA, .int .i64 eA, .int .i64 fA, .slice nA gA.length oA] 57))
     clear rL
     have uL := am_ (blk_alloc sL.out (.cells #[.int .i64 dA, .int .i64 eA, .int .i64 fA, .slice nA gA.length oA] 57))
     clear sL
     have zG := am_ (Kd.S_alloc vG.out (.cells #[.int .i64 dA, .int .i64 eA, .int .i64 fA, .slice nA gA.length oA] 57))
     clear vG
     have aH := am_ (Kd.S_alloc wG.out (.cells #[.int .i64 dA, .int .i64 eA, .int .i64 fA, .slice nA gA.length oA] 57))
     clear wG
     have tJ := am_ (blk_alloc rJ.out (.cells #[.int .i64 dA, .int .i64 eA, .int .i64 fA, .slice nA gA.length oA] 57))
     clear rJ
     have vC := am_ (Kd.S_alloc xG.out (.cells #[.int .i64 dA, .int .i64 eA, .int .i64 fA, .slice nA gA.length oA] 57))
     clear xG
     have wC := am_ (Kd.S_alloc yG.out (.cells #[.int .i64 dA, .int .i64 eA, .int .i64 fA, .slice nA gA.length oA] 57))
     clear yG
     have xC := am_ (blk_alloc sJ.out (.cells #[.int .i64 dA, .int .i64 eA, .int .i64 fA, .slice nA gA.length oA] 57))
     clear sJ
     have yC := am_ (Kd.R_alloc dE.out (.cells #[.int .i64 dA, .int .i64 eA, .int .i64 fA, .slice nA gA.length oA] 57))
     clear dE
     replace HL := am_ (And.intro (show (tB.alloc (.cells #[.int .i64 dA, .int .i64 eA, .int .i64 fA, .slice nA gA.length oA] 57)).heap.size = tB.heap.size + 1 by rw [World.alloc]; exact Array.size_push _) HL.out)
     have aC := am_ (show (tB.alloc (.cells #[.int .i64 dA, .int .i64 eA, .int .i64 fA, .slice nA gA.length oA] 57)).heap[tB.heap.size]? = some (.cells #[.int .i64 dA, .int .i64 eA, .int .i64 fA, .slice nA gA.length oA] 57 (0, 0)) by rw [World.alloc]; exact Array.getElem?_push_size)
     have hxYD0_12_0 : (tB.alloc (.cells #[.int .i64 dA, .int .i64 eA, .int .i64 fA, .slice nA gA.length oA] 57)).cell? ⟨w9.heap.size, 0, none⟩ = some (.slice uA jA.length vA) := bt_ xC 0
     have hxYD0_12_1 : (tB.alloc (.cells #[.int .i64 dA, .int .i64 eA, .int .i64 fA, .slice nA gA.length oA] 57)).cell? ⟨w9.heap.size, 1, none⟩ = some (.slice wA kA.length xA) := bt_ xC 1
     have hxYD0_12_2 : (tB.alloc (.cells #[.int .i64 dA, .int .i64 eA, .int .i64 fA, .slice nA gA.length oA] 57)).cell? ⟨w9.heap.size, 2, none⟩ = some (.int .i64 lA) := bt_ xC 2
     have hxYD1_12_0 : (tB.alloc (.cells #[.int .i64 dA, .int .i64 eA, .int .i64 fA, .slice nA gA.length oA] 57)).cell? ⟨tB.heap.size, 0, none⟩ = some (.int .i64 dA) := bt_ aC 0
     have hxYD1_12_1 : (tB.alloc (.cells #[.int .i64 dA, .int .i64 eA, .int .i64 fA, .slice nA gA.length oA] 57)).cell? ⟨tB.heap.size, 1, none⟩ = some (.int .i64 eA) := bt_ aC 1
     have hxYD1_12_2 : (tB.alloc (.cells #[.int .i64 dA, .int .i64 eA, .int .i64 fA, .slice nA gA.length oA] 57)).cell? ⟨tB.heap.size, 2, none⟩ = some (.int .i64 fA) := bt_ aC 2
     have hxYD1_12_3 : (tB.alloc (.cells #[.int .i64 dA, .int .i64 eA, .int .i64 fA, .slice nA gA.length oA] 57)).cell? ⟨tB.heap.size, 3, none⟩ = some (.slice nA gA.length oA) := bt_ aC 3
     go_wp2_with fail
     refine (impl_AskPart.calls k _ _ jA _ _ kA lA dA eA fA _ _ gA aA cA bA gB hB iB _ (Kd.S_reads' vC.out).2.2 (Kd.S_reads' vC.out).2.1 (Kd.S_reads' wC.out).2.2 (Kd.S_reads' wC.out).2.1 (Kd.R_reads' yC.out).2.2 (Kd.R_reads' yC.out).2.1 HGI.out).mono ?_
     rintro e pB ⟨ug0, ug1, rfl, mB, nB, eE⟩
     clear hxYD0_12_0
     clear hxYD0_12_1
     clear hxYD0_12_2
     clear hxYD1_12_0
     clear hxYD1_12_1
     clear hxYD1_12_2
     clear hxYD1_12_3
     have pN := am_ (below_step oN.out eE)
     clear oN
     have vL := am_ (blk_below tL.out eE)
     clear tL
     have wL := am_ (blk_below uL.out eE)
     clear uL
     have bH := am_ (Kd.S_below zG.out eE)
     clear zG
     have cH := am_ (Kd.S_below aH.out eE)
     clear aH
     have uJ := am_ (blk_below tJ.out eE)
     clear tJ
     have dH := am_ (Kd.S_below vC.out eE)
     clear vC
     have eH := am_ (Kd.S_below wC.out eE)
     clear wC
     have vJ := am_ (blk_below xC.out eE)
     clear xC
     have fH := am_ (Kd.R_below yC.out eE)
     clear yC
     have wJ := am_ (blk_below aC.out eE)
     clear aC
     replace HL := am_ (And.intro (show (tB.alloc (.cells #[.int .i64 dA, .int .i64 eA, .int .i64 fA, .slice nA gA.length oA] 57)).heap.size ≤ pB.heap.size from eE.size) HL.out)
     have fE := am_ (Kd.S_lower (Kd.S_mono (ok' := fun k_ => ((tB.alloc (.cells #[.int .i64 dA, .int .i64 eA, .int .i64 fA, .slice nA gA.length oA] 57)).heap.size ≤ k_ ∧ k_ < pB.heap.size) ∧ ∃ q_, q_ ∈ 81 :: (k81).E ∧ ∃ c_, pB.heap[k_]? = some (.cells c_ q_ (0, 0))) (Kd.S_bound mB) (fun k_ h_ => ⟨⟨h_.2.1, h_.2.2.1⟩, h_.2.2.2⟩)) (show w.heap.size ≤ (tB.alloc (.cells #[.int .i64 dA, .int .i64 eA, .int .i64 fA, .slice nA gA.length oA] 57)).heap.size by have l_ := HL.out; omega))
     have gE := am_ (Kd.S_lower (Kd.S_mono (ok' := fun k_ => ((tB.alloc (.cells #[.int .i64 dA, .int .i64 eA, .int .i64 fA, .slice nA gA.length oA] 57)).heap.size ≤ k_ ∧ k_ < pB.heap.size) ∧ ∃ q_, q_ ∈ 78 :: (k78).E ∧ ∃ c_, pB.heap[k_]? = some (.cells c_ q_ (0, 0))) (Kd.S_bound nB) (fun k_ h_ => ⟨⟨h_.2.1, h_.2.2.1⟩, h_.2.2.2⟩)) (show w.heap.size ≤ (tB.alloc (.cells #[.int .i64 dA, .int .i64 eA, .int .i64 fA, .slice nA gA.length oA] 57)).heap.size by have l_ := HL.out; omega))
     clear mB nB eE
     obtain ⟨pA, qA, rfl⟩ := Kd.S_slice fE.out
     obtain ⟨rA, sA, rfl⟩ := Kd.S_slice gE.out
     have qN := am_ (below_alloc pN.out (.cells #[.slice pA aA.length qA, .slice rA cA.length sA, .int .i64 bA] 33))
     clear pN
     have xL := am_ (blk_alloc vL.out (.cells #[.slice pA aA.length qA, .slice rA cA.length sA, .int .i64 bA] 33))
     clear vL
     have yL := am_ (blk_alloc wL.out (.cells #[.slice pA aA.length qA, .slice rA cA.length sA, .int .i64 bA] 33))
     clear wL
     have zC := am_ (Kd.S_alloc bH.out (.cells #[.slice pA aA.length qA, .slice rA cA.length sA, .int .i64 bA] 33))
     clear bH
     have aD := am_ (Kd.S_alloc cH.out (.cells #[.slice pA aA.length qA, .slice rA cA.length sA, .int .i64 bA] 33))
     clear cH
     have bD := am_ (blk_alloc uJ.out (.cells #[.slice pA aA.length qA, .slice rA cA.length sA, .int .i64 bA] 33))
     clear uJ
     have gH := am_ (Kd.S_alloc dH.out (.cells #[.slice pA aA.length qA, .slice rA cA.length sA, .int .i64 bA] 33))
     clear dH
     have hH := am_ (Kd.S_alloc eH.out (.cells #[.slice pA aA.length qA, .slice rA cA.length sA, .int .i64 bA] 33))
     clear eH
     have xJ := am_ (blk_alloc vJ.out (.cells #[.slice pA aA.length qA, .slice rA cA.length sA, .int .i64 bA] 33))
     clear vJ
     have iH := am_ (Kd.R_alloc fH.out (.cells #[.slice pA aA.length qA, .slice rA cA.length sA, .int .i64 bA] 33))
     clear fH
     have yJ := am_ (blk_alloc wJ.out (.cells #[.slice pA aA.length qA, .slice rA cA.length sA, .int .i64 bA] 33))
     clear wJ
     have cD := am_ (Kd.S_alloc fE.out (.cells #[.slice pA aA.length qA, .slice rA cA.length sA, .int .i64 bA] 33))
     clear fE
     have dD := am_ (Kd.S_alloc gE.out (.cells #[.slice pA aA.length qA, .slice rA cA.length sA, .int .i64 bA] 33))
     clear gE
     replace HL := am_ (And.intro (show (pB.alloc (.cells #[.slice pA aA.length qA, .slice rA cA.length sA, .int .i64 bA] 33)).heap.size = pB.heap.size + 1 by rw [World.alloc]; exact Array.size_push _) HL.out)
     have eD := am_ (show (pB.alloc (.cells #[.slice pA aA.length qA, .slice rA cA.length sA, .int .i64 bA] 33)).heap[pB.heap.size]? = some (.cells #[.slice pA aA.length qA, .slice rA cA.length sA, .int .i64 bA] 33 (0, 0)) by rw [World.alloc]; exact Array.getElem?_push_size)
     have hxYG0_14_0 : (pB.alloc (.cells #[.slice pA aA.length qA, .slice rA cA.length sA, .int .i64 bA] 33)).cell? ⟨pB.heap.size, 0, none⟩ = some (.slice pA aA.length qA) := bt_ eD 0
     have hxYG0_14_1 : (pB.alloc (.cells #[.slice pA aA.length qA, .slice rA cA.length sA, .int .i64 bA] 33)).cell? ⟨pB.heap.size, 1, none⟩ = some (.slice rA cA.length sA) := bt_ eD 1
     have hxYG0_14_2 : (pB.alloc (.cells #[.slice pA aA.length qA, .slice rA cA.length sA, .int .i64 bA] 33)).cell? ⟨pB.heap.size, 2, none⟩ = some (.int .i64 bA) := bt_ eD 2
     have hxYW0_14_0 : (pB.alloc (.cells #[.slice pA aA.length qA, .slice rA cA.length sA, .int .i64 bA] 33)).cell? ⟨gQ, 0, none⟩ = some (.slice jB tA.length kB) := bt_ bD 0
     have hxYW0_14_1 : (pB.alloc (.cells #[.slice pA aA.length qA, .slice rA cA.length sA, .int .i64 bA] 33)).cell? ⟨gQ, 1, none⟩ = some (.slice rB yA.length sB) := bt_ bD 1
     have hxYW0_14_2 : (pB.alloc (.cells #[.slice pA aA.length qA, .slice rA cA.length sA, .int .i64 bA] 33)).cell? ⟨gQ, 2, none⟩ = some (.int .i64 bB) := bt_ bD 2
     go_wp2_with fail
     refine (laws_eqPart.calls k _ _ aA _ _ cA bA _ _ tA _ _ yA bB true _ (Kd.S_reads' cD.out).2.2 (Kd.S_reads' cD.out).2.1 (Kd.S_reads' dD.out).2.2 (Kd.S_reads' dD.out).2.1 (Kd.S_reads' zC.out).2.2 (Kd.S_reads' zC.out).2.1 (Kd.S_reads' aD.out).2.2 (Kd.S_reads' aD.out).2.1 dP.out).mono ?_
     rintro e yO ⟨rfl, uB⟩
     try replace uB := uB.below
     clear hxYG0_14_0
     clear hxYG0_14_1
     clear hxYG0_14_2
     clear hxYW0_14_0
     clear hxYW0_14_1
     clear hxYW0_14_2
     have rN := am_ (below_step qN.out uB)
     clear qN
     have zL := am_ (blk_below xL.out uB)
     clear xL
     have aM := am_ (blk_below yL.out uB)
     clear yL
     have jH := am_ (Kd.S_below zC.out uB)
     clear zC
     have kH := am_ (Kd.S_below aD.out uB)
     clear aD
     have zJ := am_ (blk_below bD.out uB)
     clear bD
     have lH := am_ (Kd.S_below gH.out uB)
     clear gH
     have mH := am_ (Kd.S_below hH.out uB)
     clear hH
     have aK := am_ (blk_below xJ.out uB)
     clear xJ
     have nH := am_ (Kd.R_below iH.out uB)
     clear iH
     have bK := am_ (blk_below yJ.out uB)
     clear yJ
     have oH := am_ (Kd.S_below cD.out uB)
     clear cD
     have pH := am_ (Kd.S_below dD.out uB)
     clear dD
     have cK := am_ (blk_below eD.out uB)
     clear eD
     replace HL := am_ (And.intro (show (pB.alloc (.cells #[.slice pA aA.length qA, .slice rA cA.length sA, .int .i64 bA] 33)).heap.size ≤ yO.heap.size from uB.size) HL.out)
     clear uB
     try go_wp2
     have qH := qH_ rN
     clear rN
     have hE := qK_ zL
     clear zL
     have jJ := qK_ aM
     clear aM
     have yE := am_ (Kd.S_drew jH.out)
     clear jH
     have zE := am_ (Kd.S_drew kH.out)
     clear kH
     have bG := qK_ zJ
     clear zJ
     have aF := am_ (Kd.S_drew lH.out)
     clear lH
     have bF := am_ (Kd.S_drew mH.out)
     clear mH
     have bC := qK_ aK
     clear aK
     have cF := qR_ nH
     clear nH
     have cG := qK_ bK
     clear bK
     have dF := am_ (Kd.S_drew oH.out)
     clear oH
     have eF := am_ (Kd.S_drew pH.out)
     clear pH
     have dG := qK_ cK
     clear cK
     replace HL := am_ (And.intro (show yO.heap.size = yO.drew.heap.size from rfl) HL.out)
     refine start_ (n := 5) (S := fun w' => w'.cell? ⟨w9.heap.size, 0, none⟩ = some (.slice uA jA.length vA) ∧ w'.cell? ⟨w9.heap.size, 1, none⟩ = some (.slice wA kA.length xA) ∧ w'.cell? ⟨w9.heap.size, 2, none⟩ = some (.int .i64 lA) ∧ w'.cell? ⟨w.heap.size, 0, none⟩ = some (.slice A0_0 l0_0.length c0_0) ∧ w'.cell? ⟨w.heap.size, 1, none⟩ = some (.slice A0_1 l0_1.length c0_1) ∧ w'.cell? ⟨w.heap.size, 2, none⟩ = some (.int .i64 a0_2)) (ds := []) #[false, false, false, false, false] (by kernel_rfl) rfl rfl ⟨bt_ bC 0, bt_ bC 1, bt_ bC 2, bt_ hE 0, bt_ hE 1, bt_ hE 2⟩ (fun hHeld => ?_)
     generalize yO.drew = xP at qH hE jJ yE zE bG aF bF bC cF cG dF eF dG HL hHeld ⊢
     refine tx_ 0 74 ?_
     refine tx_ 1 75 ?_
     refine ox_ 2 76 fun K hK => ?_
     refine gs_ Try.func12 #[.agg #[.slice A0_0 l0_0.length c0_0, .slice A0_1 l0_1.length c0_1, .int .i64 a0_2]] rfl (by (try simp only [List.map_toArray, List.map_cons, List.map_nil]); first | done | rfl) ?_
     refine (laws_toPart.calls k _ _ l0_0 _ _ l0_1 a0_2 jA kA lA _ (Kd.C_below qC.out qH.out) rC.out (Kd.C_below sC.out qH.out) tC.out jO.out).mono ?_
     rintro e nP ⟨xM, yM, rfl, mB, nB, jC⟩
     have sN := am_ (below_step qH.out jC)
     clear qH
     have fF := am_ (blk_below hE.out jC)
     clear hE
     have bM := am_ (blk_below jJ.out jC)
     clear jJ
     have rH := am_ (Kd.S_below yE.out jC)
     clear yE
     have sH := am_ (Kd.S_below zE.out jC)
     clear zE
     have dK := am_ (blk_below bG.out jC)
     clear bG
     have fD := am_ (Kd.S_below aF.out jC)
     clear aF
     have gD := am_ (Kd.S_below bF.out jC)
     clear bF
     have hD := am_ (blk_below bC.out jC)
     clear bC
     have tH := am_ (Kd.R_below cF.out jC)
     clear cF
     have eK := am_ (blk_below cG.out jC)
     clear cG
     have uH := am_ (Kd.S_below dF.out jC)
     clear dF
     have vH := am_ (Kd.S_below eF.out jC)
     clear eF
     have fK := am_ (blk_below dG.out jC)
     clear dG
     replace HL := am_ (And.intro (show xP.heap.size ≤ nP.heap.size from jC.size) HL.out)
     refine ⟨_, rfl, ?_⟩
     have gK := am_ mB
     obtain ⟨eP, fP, rfl⟩ := Kd.S_slice gK.out
     have iK := am_ nB
     obtain ⟨gP, hP, rfl⟩ := Kd.S_slice iK.out
     clear mB nB jC
     refine hK.out _ _ ⟨bt_ hD 0, bt_ hD 1, bt_ hD 2, bt_ fF 0, bt_ fF 1, bt_ fF 2⟩ (fun hHeld => ?_)
     clear hK K
     refine no_ ?_
     refine ox_ 3 77 fun K hK => ?_
     refine gs_ Try.func15 #[.agg #[.slice uA jA.length vA, .slice wA kA.length xA, .int .i64 lA], .agg #[.slice eP jA.length fP, .slice gP kA.length hP, .int .i64 lA]] rfl (by (try simp only [List.map_toArray, List.map_cons, List.map_nil]); first | done | rfl) ?_
     refine (laws_eqPart.calls k _ _ jA _ _ kA lA _ _ jA _ _ kA lA true _ (Kd.S_reads' fD.out).2.2 (Kd.S_reads' fD.out).2.1 (Kd.S_reads' gD.out).2.2 (Kd.S_reads' gD.out).2.1 (Kd.S_reads' gK.out).2.2 (Kd.S_reads' gK.out).2.1 (Kd.S_reads' iK.out).2.2 (Kd.S_reads' iK.out).2.1 pP.out).mono ?_
     rintro e zO ⟨rfl, vB⟩
     try replace vB := vB.below
     have tN := am_ (below_step sN.out vB)
     clear sN
     have gF := am_ (blk_below fF.out vB)
     clear fF
     have cM := am_ (blk_below bM.out vB)
     clear bM
     have wH := am_ (Kd.S_below rH.out vB)
     clear rH
     have xH := am_ (Kd.S_below sH.out vB)
     clear sH
     have jK := am_ (blk_below dK.out vB)
     clear dK
     have yH := am_ (Kd.S_below fD.out vB)
     clear fD
     have zH := am_ (Kd.S_below gD.out vB)
     clear gD
     have iD := am_ (blk_below hD.out vB)
     clear hD
     have aI := am_ (Kd.R_below tH.out vB)
     clear tH
     have kK := am_ (blk_below eK.out vB)
     clear eK
     have bI := am_ (Kd.S_below uH.out vB)
     clear uH
     have cI := am_ (Kd.S_below vH.out vB)
     clear vH
     have lK := am_ (blk_below fK.out vB)
     clear fK
     replace HL := am_ (And.intro (show nP.heap.size ≤ zO.heap.size from vB.size) HL.out)
     refine ⟨_, rfl, ?_⟩
     clear gK iK vB
     refine hK.out _ _ ⟨bt_ iD 0, bt_ iD 1, bt_ iD 2, bt_ gF 0, bt_ gF 1, bt_ gF 2⟩ (fun hHeld => ?_)
     clear hK K
     refine no_ ?_
     refine px_ 4 78 ?_
     refine done_ (by kernel_rfl) ?_
     try go_wp2
     have mK := qH_ tN
     clear tN
     have kJ := qK_ gF
     clear gF
     have oC := qK_ cM
     clear cM
     have hF := am_ (Kd.S_drew wH.out)
     clear wH
     have iF := am_ (Kd.S_drew xH.out)
     clear xH
     have eG := qK_ jK
     clear jK
     have jF := am_ (Kd.S_drew yH.out)
     clear yH
     have kF := am_ (Kd.S_drew zH.out)
     clear zH
     have fG := qK_ iD
     clear iD
     have lF := qR_ aI
     clear aI
     have qB := qK_ kK
     clear kK
     have mF := am_ (Kd.S_drew bI.out)
     clear bI
     have nF := am_ (Kd.S_drew cI.out)
     clear cI
     have gG := qK_ lK
     clear lK
     replace HL := am_ (And.intro (show zO.heap.size = zO.drew.heap.size from rfl) HL.out)
     refine start_ (n := 5) (S := fun w' => w'.cell? ⟨tB.heap.size, 0, none⟩ = some (.int .i64 dA) ∧ w'.cell? ⟨tB.heap.size, 1, none⟩ = some (.int .i64 eA) ∧ w'.cell? ⟨tB.heap.size, 2, none⟩ = some (.int .i64 fA) ∧ w'.cell? ⟨tB.heap.size, 3, none⟩ = some (.slice nA gA.length oA) ∧ w'.cell? ⟨w.heap.size + 1, 0, none⟩ = some (.int .i64 a1_0) ∧ w'.cell? ⟨w.heap.size + 1, 1, none⟩ = some (.int .i64 a1_1) ∧ w'.cell? ⟨w.heap.size + 1, 2, none⟩ = some (.int .i64 a1_2) ∧ w'.cell? ⟨w.heap.size + 1, 3, none⟩ = some (.slice A1_3 l1_3.length c1_3)) (ds := []) #[false, false, false, false, false] (by kernel_rfl) rfl rfl ⟨bt_ qB 0, bt_ qB 1, bt_ qB 2, bt_ qB 3, bt_ oC 0, bt_ oC 1, bt_ oC 2, bt_ oC 3⟩ (fun hHeld => ?_)
     generalize zO.drew = yP at mK kJ oC hF iF eG jF kF fG lF qB mF nF gG HL hHeld ⊢
     refine tx_ 0 79 ?_
     refine tx_ 1 80 ?_
     refine ox_ 2 81 fun K hK => ?_
     refine gs_ Try.func31 #[.agg #[.int .i64 a1_0, .int .i64 a1_1, .int .i64 a1_2, .slice A1_3 l1_3.length c1_3]] rfl (by (try simp only [List.map_toArray, List.map_cons, List.map_nil]); first | done | rfl) ?_
     refine (laws_toAsk.calls k a1_0 a1_1 a1_2 _ _ l1_3 dA eA fA gA _ (Kd.C_below lC.out mK.out) mC.out iN.out).mono ?_
     rintro e oP ⟨bL, rfl, oE, kC⟩
     have uN := am_ (below_step mK.out kC)
     clear mK
     have dM := am_ (blk_below kJ.out kC)
     clear kJ
     have iE := am_ (blk_below oC.out kC)
     clear oC
     have dI := am_ (Kd.S_below hF.out kC)
     clear hF
     have eI := am_ (Kd.S_below iF.out kC)
     clear iF
     have nK := am_ (blk_below eG.out kC)
     clear eG
     have fI := am_ (Kd.S_below jF.out kC)
     clear jF
     have gI := am_ (Kd.S_below kF.out kC)
     clear kF
     have oK := am_ (blk_below fG.out kC)
     clear fG
     have jD := am_ (Kd.R_below lF.out kC)
     clear lF
     have cC := am_ (blk_below qB.out kC)
     clear qB
     have hI := am_ (Kd.S_below mF.out kC)
     clear mF
     have iI := am_ (Kd.S_below nF.out kC)
     clear nF
     have pK := am_ (blk_below gG.out kC)
     clear gG
     replace HL := am_ (And.intro (show yP.heap.size ≤ oP.heap.size from kC.size) HL.out)
     refine ⟨_, rfl, ?_⟩
     have qK := am_ oE
     obtain ⟨iP, jP, rfl⟩ := Kd.R_slice qK.out
     clear oE kC
     refine hK.out _ _ ⟨bt_ cC 0, bt_ cC 1, bt_ cC 2, bt_ cC 3, bt_ iE 0, bt_ iE 1, bt_ iE 2, bt_ iE 3⟩ (fun hHeld => ?_)
     clear hK K
     refine no_ ?_
     refine ox_ 3 82 fun K hK => ?_
     refine gs_ Try.func33 #[.agg #[.int .i64 dA, .int .i64 eA, .int .i64 fA, .slice nA gA.length oA], .agg #[.int .i64 dA, .int .i64 eA, .int .i64 fA, .slice iP gA.length jP]] rfl (by (try simp only [List.map_toArray, List.map_cons, List.map_nil]); first | done | rfl) ?_
     refine (laws_eqAsk.calls k dA eA fA _ _ gA dA eA fA _ _ gA true _ (Kd.R_reads' jD.out).2.2 (Kd.R_reads' jD.out).2.1 (Kd.R_reads' qK.out).2.2 (Kd.R_reads' qK.out).2.1 qP.out).mono ?_
     rintro e qO ⟨rfl, wB⟩
     try replace wB := wB.below
     have vN := am_ (below_step uN.out wB)
     clear uN
     have eM := am_ (blk_below dM.out wB)
     clear dM
     have jE := am_ (blk_below iE.out wB)
     clear iE
     have jI := am_ (Kd.S_below dI.out wB)
     clear dI
     have kI := am_ (Kd.S_below eI.out wB)
     clear eI
     have rK := am_ (blk_below nK.out wB)
     clear nK
     have lI := am_ (Kd.S_below fI.out wB)
     clear fI
     have mI := am_ (Kd.S_below gI.out wB)
     clear gI
     have kD := am_ (blk_below oK.out wB)
     clear oK
     have nI := am_ (Kd.R_below jD.out wB)
     clear jD
     have dC := am_ (blk_below cC.out wB)
     clear cC
     have oI := am_ (Kd.S_below hI.out wB)
     clear hI
     have pI := am_ (Kd.S_below iI.out wB)
     clear iI
     have sK := am_ (blk_below pK.out wB)
     clear pK
     replace HL := am_ (And.intro (show oP.heap.size ≤ qO.heap.size from wB.size) HL.out)
     refine ⟨_, rfl, ?_⟩
     clear qK wB
     refine hK.out _ _ ⟨bt_ dC 0, bt_ dC 1, bt_ dC 2, bt_ dC 3, bt_ jE 0, bt_ jE 1, bt_ jE 2, bt_ jE 3⟩ (fun hHeld => ?_)
     clear hK K
     refine no_ ?_
     refine px_ 4 83 ?_
     refine done_ (by kernel_rfl) ?_
     have hxYD0_21_0 : qO.cell? ⟨w9.heap.size, 0, none⟩ = some (.slice uA jA.length vA) := bt_ kD 0
     have hxYD0_21_1 : qO.cell? ⟨w9.heap.size, 1, none⟩ = some (.slice wA kA.length xA) := bt_ kD 1
     have hxYD0_21_2 : qO.cell? ⟨w9.heap.size, 2, none⟩ = some (.int .i64 lA) := bt_ kD 2
     go_wp2_with fail
     refine (laws_markPart.calls k (fun k_ => (w7.heap.size ≤ k_ ∧ k_ < w9.heap.size) ∧ ∃ q_, q_ ∈ 81 :: (k81).E ∧ ∃ c_, w9.heap[k_]? = some (.cells c_ q_ (0, 0))) _ jA (fun k_ => (w7.heap.size ≤ k_ ∧ k_ < w9.heap.size) ∧ ∃ q_, q_ ∈ 78 :: (k78).E ∧ ∃ c_, w9.heap[k_]? = some (.cells c_ q_ (0, 0))) _ kA lA 1 k0 fN gN w _ vN.out lI.out mI.out (fun k_ h_ h2_ => by obtain ⟨_, q_, hq_, c_, hc_⟩ := h_; obtain ⟨_, q2_, hq2_, c2_, hc2_⟩ := h2_; rw [hc_] at hc2_; injection hc2_ with e1_; injection e1_ with _ e2_ _; subst e2_; exact (by decide : ∀ x_ ∈ (81 :: (k81).E), x_ ∉ (78 :: (k78).E)) _ hq_ hq2_) rP.out).mono ?_
     rintro e lO ⟨rfl, wN, rO, hb, hk⟩
     clear hxYD0_21_0
     clear hxYD0_21_1
     clear hxYD0_21_2
     have xN := am_ (hb)
     clear vN
     have fM := am_ (blk_kept eM.out hk (fun h2_ => by rcases h2_ with h2_ | h2_; (· have h3_ := h2_.1.1; have h4_ := h2_.1.2; clear h2_; have l_ := HL.out; omega); (· have h3_ := h2_.1.1; have h4_ := h2_.1.2; clear h2_; have l_ := HL.out; omega)))
     clear eM
     have gM := am_ (blk_kept jE.out hk (fun h2_ => by rcases h2_ with h2_ | h2_; (· have h3_ := h2_.1.1; have h4_ := h2_.1.2; clear h2_; have l_ := HL.out; omega); (· have h3_ := h2_.1.1; have h4_ := h2_.1.2; clear h2_; have l_ := HL.out; omega)))
     clear jE
     have qI := am_ (Kd.S_kept jI.out hk (fun k_ h_ h2_ => by rcases h2_ with h2_ | h2_; (· have h3_ := h_.1.1; have h4_ := h_.1.2; have h5_ := h2_.1.1; have h6_ := h2_.1.2; clear h_ h2_; have l_ := HL.out; omega); (· have h3_ := h_.1.1; have h4_ := h_.1.2; have h5_ := h2_.1.1; have h6_ := h2_.1.2; clear h_ h2_; have l_ := HL.out; omega)))
     clear jI
     have rI := am_ (Kd.S_kept kI.out hk (fun k_ h_ h2_ => by rcases h2_ with h2_ | h2_; (· have h3_ := h_.1.1; have h4_ := h_.1.2; have h5_ := h2_.1.1; have h6_ := h2_.1.2; clear h_ h2_; have l_ := HL.out; omega); (· have h3_ := h_.1.1; have h4_ := h_.1.2; have h5_ := h2_.1.1; have h6_ := h2_.1.2; clear h_ h2_; have l_ := HL.out; omega)))
     clear kI
     have tK := am_ (blk_kept rK.out hk (fun h2_ => by rcases h2_ with h2_ | h2_; (· have h3_ := h2_.1.1; have h4_ := h2_.1.2; clear h2_; have l_ := HL.out; omega); (· have h3_ := h2_.1.1; have h4_ := h2_.1.2; clear h2_; have l_ := HL.out; omega)))
     clear rK
     have uK := am_ (blk_kept kD.out hk (fun h2_ => by rcases h2_ with h2_ | h2_; (· have h3_ := h2_.1.1; have h4_ := h2_.1.2; clear h2_; have l_ := HL.out; omega); (· have h3_ := h2_.1.1; have h4_ := h2_.1.2; clear h2_; have l_ := HL.out; omega)))
     clear kD
     have sI := am_ (Kd.R_kept nI.out hk (fun k_ h_ h2_ => by rcases h2_ with h2_ | h2_; (· have h3_ := h_.1.1; have h4_ := h_.1.2; have h5_ := h2_.1.1; have h6_ := h2_.1.2; clear h_ h2_; have l_ := HL.out; omega); (· have h3_ := h_.1.1; have h4_ := h_.1.2; have h5_ := h2_.1.1; have h6_ := h2_.1.2; clear h_ h2_; have l_ := HL.out; omega)))
     clear nI
     have eC := am_ (blk_kept dC.out hk (fun h2_ => by rcases h2_ with h2_ | h2_; (· have h3_ := h2_.1.1; have h4_ := h2_.1.2; clear h2_; have l_ := HL.out; omega); (· have h3_ := h2_.1.1; have h4_ := h2_.1.2; clear h2_; have l_ := HL.out; omega)))
     clear dC
     have tI := am_ (Kd.S_kept oI.out hk (fun k_ h_ h2_ => by rcases h2_ with h2_ | h2_; (· have h3_ := h_.1.1; have h4_ := h_.1.2; have h5_ := h2_.1.1; have h6_ := h2_.1.2; clear h_ h2_; have l_ := HL.out; omega); (· have h3_ := h_.1.1; have h4_ := h_.1.2; have h5_ := h2_.1.1; have h6_ := h2_.1.2; clear h_ h2_; have l_ := HL.out; omega)))
     clear oI
     have uI := am_ (Kd.S_kept pI.out hk (fun k_ h_ h2_ => by rcases h2_ with h2_ | h2_; (· have h3_ := h_.1.1; have h4_ := h_.1.2; have h5_ := h2_.1.1; have h6_ := h2_.1.2; clear h_ h2_; have l_ := HL.out; omega); (· have h3_ := h_.1.1; have h4_ := h_.1.2; have h5_ := h2_.1.1; have h6_ := h2_.1.2; clear h_ h2_; have l_ := HL.out; omega)))
     clear pI
     have vK := am_ (blk_kept sK.out hk (fun h2_ => by rcases h2_ with h2_ | h2_; (· have h3_ := h2_.1.1; have h4_ := h2_.1.2; clear h2_; have l_ := HL.out; omega); (· have h3_ := h2_.1.1; have h4_ := h2_.1.2; clear h2_; have l_ := HL.out; omega)))
     clear sK
     have vI := am_ (wN)
     clear lI
     have wI := am_ (rO)
     clear mI
     replace HL := am_ (And.intro (show qO.heap.size ≤ lO.heap.size from hk.1) HL.out)
     clear hb hk wN rO
     have hxYD1_22_0 : lO.cell? ⟨tB.heap.size, 0, none⟩ = some (.int .i64 dA) := bt_ eC 0
     have hxYD1_22_1 : lO.cell? ⟨tB.heap.size, 1, none⟩ = some (.int .i64 eA) := bt_ eC 1
     have hxYD1_22_2 : lO.cell? ⟨tB.heap.size, 2, none⟩ = some (.int .i64 fA) := bt_ eC 2
     have hxYD1_22_3 : lO.cell? ⟨tB.heap.size, 3, none⟩ = some (.slice nA gA.length oA) := bt_ eC 3
     go_wp2_with fail
     refine (laws_markAsk.calls k dA eA fA (fun k_ => ((w9.alloc (.cells #[.slice uA jA.length vA, .slice wA kA.length xA, .int .i64 lA] 33)).heap.size ≤ k_ ∧ k_ < tB.heap.size) ∧ ∃ q_, q_ ∈ 9 :: (Kd.string).E ∧ ∃ c_, tB.heap[k_]? = some (.cells c_ q_ (0, 0))) _ gA k0 k1 hN w _ xN.out sI.out sP.out).mono ?_
     rintro e sO ⟨rfl, wN, hb, hk⟩
     clear hxYD1_22_0
     clear hxYD1_22_1
     clear hxYD1_22_2
     clear hxYD1_22_3
     have yN := am_ (hb)
     clear xN
     have hM := am_ (blk_kept fM.out hk (fun h2_ => by have h3_ := h2_.1.1; have h4_ := h2_.1.2; clear h2_; have l_ := HL.out; omega))
     clear fM
     have iM := am_ (blk_kept gM.out hk (fun h2_ => by have h3_ := h2_.1.1; have h4_ := h2_.1.2; clear h2_; have l_ := HL.out; omega))
     clear gM
     have lD := am_ (Kd.S_kept qI.out hk (fun k_ h_ h2_ => by have h3_ := h_.1.1; have h4_ := h_.1.2; have h5_ := h2_.1.1; have h6_ := h2_.1.2; clear h_ h2_; have l_ := HL.out; omega))
     clear qI
     have mD := am_ (Kd.S_kept rI.out hk (fun k_ h_ h2_ => by have h3_ := h_.1.1; have h4_ := h_.1.2; have h5_ := h2_.1.1; have h6_ := h2_.1.2; clear h_ h2_; have l_ := HL.out; omega))
     clear rI
     have hG := am_ (blk_kept tK.out hk (fun h2_ => by have h3_ := h2_.1.1; have h4_ := h2_.1.2; clear h2_; have l_ := HL.out; omega))
     clear tK
     have jM := am_ (Kd.S_kept vI.out hk (fun k_ h_ h2_ => by have h3_ := h_.1.1; have h4_ := h_.1.2; have h5_ := h2_.1.1; have h6_ := h2_.1.2; clear h_ h2_; have l_ := HL.out; omega))
     clear vI
     have kM := am_ (Kd.S_kept wI.out hk (fun k_ h_ h2_ => by have h3_ := h_.1.1; have h4_ := h_.1.2; have h5_ := h2_.1.1; have h6_ := h2_.1.2; clear h_ h2_; have l_ := HL.out; omega))
     clear wI
     have aN := am_ (blk_kept uK.out hk (fun h2_ => by have h3_ := h2_.1.1; have h4_ := h2_.1.2; clear h2_; have l_ := HL.out; omega))
     clear uK
     have bN := am_ (blk_kept eC.out hk (fun h2_ => by have h3_ := h2_.1.1; have h4_ := h2_.1.2; clear h2_; have l_ := HL.out; omega))
     clear eC
     have nD := am_ (Kd.S_kept tI.out hk (fun k_ h_ h2_ => by have h3_ := h_.1.1; have h4_ := h_.1.2; have h5_ := h2_.1.1; have h6_ := h2_.1.2; clear h_ h2_; have l_ := HL.out; omega))
     clear tI
     have oD := am_ (Kd.S_kept uI.out hk (fun k_ h_ h2_ => by have h3_ := h_.1.1; have h4_ := h_.1.2; have h5_ := h2_.1.1; have h6_ := h2_.1.2; clear h_ h2_; have l_ := HL.out; omega))
     clear uI
     have pD := am_ (blk_kept vK.out hk (fun h2_ => by have h3_ := h2_.1.1; have h4_ := h2_.1.2; clear h2_; have l_ := HL.out; omega))
     clear vK
     have lM := am_ (wN)
     clear sI
     replace HL := am_ (And.intro (show lO.heap.size ≤ sO.heap.size from hk.1) HL.out)
     clear hb hk wN
     clear jM
     clear kM
     clear aN
     clear lM
     clear bN
     have hxYG0_23_0 : sO.cell? ⟨pB.heap.size, 0, none⟩ = some (.slice pA aA.length qA) := bt_ pD 0
     have hxYG0_23_1 : sO.cell? ⟨pB.heap.size, 1, none⟩ = some (.slice rA cA.length sA) := bt_ pD 1
     have hxYG0_23_2 : sO.cell? ⟨pB.heap.size, 2, none⟩ = some (.int .i64 bA) := bt_ pD 2
     obtain ⟨hxYW0_23_0, hxYW0_23_1, hxYW0_23_2⟩ := cc3_ hG.out
     go_wp2_with fail
     refine (laws_eqPart.calls k _ _ aA _ _ cA bA _ _ tA _ _ yA bB true _ (Kd.S_reads' nD.out).2.2 (Kd.S_reads' nD.out).2.1 (Kd.S_reads' oD.out).2.2 (Kd.S_reads' oD.out).2.1 (Kd.S_reads' lD.out).2.2 (Kd.S_reads' lD.out).2.1 (Kd.S_reads' mD.out).2.2 (Kd.S_reads' mD.out).2.1 dP.out).mono ?_
     rintro e tO ⟨rfl, kE⟩
     try replace kE := kE.below
     clear hxYG0_23_0
     clear hxYG0_23_1
     clear hxYG0_23_2
     clear hxYW0_23_0
     clear hxYW0_23_1
     clear hxYW0_23_2
     have zN := am_ (below_step yN.out kE)
     clear yN
     have mM := am_ (blk_below hM.out kE)
     clear hM
     have nM := am_ (blk_below iM.out kE)
     clear iM
     have xI := am_ (Kd.S_below lD.out kE)
     clear lD
     have yI := am_ (Kd.S_below mD.out kE)
     clear mD
     have wK := am_ (blk_below hG.out kE)
     clear hG
     have zI := am_ (Kd.S_below nD.out kE)
     clear nD
     have aJ := am_ (Kd.S_below oD.out kE)
     clear oD
     have qD := am_ (blk_below pD.out kE)
     clear pD
     replace HL := am_ (And.intro (show sO.heap.size ≤ tO.heap.size from kE.size) HL.out)
     clear kE
     have hxYG0_24_0 : tO.cell? ⟨pB.heap.size, 0, none⟩ = some (.slice pA aA.length qA) := bt_ qD 0
     have hxYG0_24_1 : tO.cell? ⟨pB.heap.size, 1, none⟩ = some (.slice rA cA.length sA) := bt_ qD 1
     have hxYG0_24_2 : tO.cell? ⟨pB.heap.size, 2, none⟩ = some (.int .i64 bA) := bt_ qD 2
     go_wp2_with fail
     refine (laws_markPart.calls k (fun k_ => ((tB.alloc (.cells #[.int .i64 dA, .int .i64 eA, .int .i64 fA, .slice nA gA.length oA] 57)).heap.size ≤ k_ ∧ k_ < pB.heap.size) ∧ ∃ q_, q_ ∈ 81 :: (k81).E ∧ ∃ c_, pB.heap[k_]? = some (.cells c_ q_ (0, 0))) _ aA (fun k_ => ((tB.alloc (.cells #[.int .i64 dA, .int .i64 eA, .int .i64 fA, .slice nA gA.length oA] 57)).heap.size ≤ k_ ∧ k_ < pB.heap.size) ∧ ∃ q_, q_ ∈ 78 :: (k78).E ∧ ∃ c_, pB.heap[k_]? = some (.cells c_ q_ (0, 0))) _ cA bA 1 q0 uE vE w _ zN.out zI.out aJ.out (fun k_ h_ h2_ => by obtain ⟨_, q_, hq_, c_, hc_⟩ := h_; obtain ⟨_, q2_, hq2_, c2_, hc2_⟩ := h2_; rw [hc_] at hc2_; injection hc2_ with e1_; injection e1_ with _ e2_ _; subst e2_; exact (by decide : ∀ x_ ∈ (81 :: (k81).E), x_ ∉ (78 :: (k78).E)) _ hq_ hq2_) tP.out).mono ?_
     rintro e eO ⟨rfl, wN, rO, hb, hk⟩
     clear hxYG0_24_0
     clear hxYG0_24_1
     clear hxYG0_24_2
     have aO := am_ (hb)
     clear zN
     have oM := am_ (blk_kept mM.out hk (fun h2_ => by rcases h2_ with h2_ | h2_; (· have h3_ := h2_.1.1; have h4_ := h2_.1.2; clear h2_; have l_ := HL.out; omega); (· have h3_ := h2_.1.1; have h4_ := h2_.1.2; clear h2_; have l_ := HL.out; omega)))
     clear mM
     have pM := am_ (blk_kept nM.out hk (fun h2_ => by rcases h2_ with h2_ | h2_; (· have h3_ := h2_.1.1; have h4_ := h2_.1.2; clear h2_; have l_ := HL.out; omega); (· have h3_ := h2_.1.1; have h4_ := h2_.1.2; clear h2_; have l_ := HL.out; omega)))
     clear nM
     have bJ := am_ (Kd.S_kept xI.out hk (fun k_ h_ h2_ => by rcases h2_ with h2_ | h2_; (· have h3_ := h_.1.1; have h4_ := h_.1.2; have h5_ := h2_.1.1; have h6_ := h2_.1.2; clear h_ h2_; have l_ := HL.out; omega); (· have h3_ := h_.1.1; have h4_ := h_.1.2; have h5_ := h2_.1.1; have h6_ := h2_.1.2; clear h_ h2_; have l_ := HL.out; omega)))
     clear xI
     have cJ := am_ (Kd.S_kept yI.out hk (fun k_ h_ h2_ => by rcases h2_ with h2_ | h2_; (· have h3_ := h_.1.1; have h4_ := h_.1.2; have h5_ := h2_.1.1; have h6_ := h2_.1.2; clear h_ h2_; have l_ := HL.out; omega); (· have h3_ := h_.1.1; have h4_ := h_.1.2; have h5_ := h2_.1.1; have h6_ := h2_.1.2; clear h_ h2_; have l_ := HL.out; omega)))
     clear yI
     have xK := am_ (blk_kept wK.out hk (fun h2_ => by rcases h2_ with h2_ | h2_; (· have h3_ := h2_.1.1; have h4_ := h2_.1.2; clear h2_; have l_ := HL.out; omega); (· have h3_ := h2_.1.1; have h4_ := h2_.1.2; clear h2_; have l_ := HL.out; omega)))
     clear wK
     have rD := am_ (blk_kept qD.out hk (fun h2_ => by rcases h2_ with h2_ | h2_; (· have h3_ := h2_.1.1; have h4_ := h2_.1.2; clear h2_; have l_ := HL.out; omega); (· have h3_ := h2_.1.1; have h4_ := h2_.1.2; clear h2_; have l_ := HL.out; omega)))
     clear qD
     have oF := am_ (wN)
     clear zI
     have pF := am_ (rO)
     clear aJ
     replace HL := am_ (And.intro (show tO.heap.size ≤ eO.heap.size from hk.1) HL.out)
     clear hb hk wN rO
     have lJ := am_ (Kd.S_reads' oF.out).1
     have fC := am_ (show Kd.S k81 81 eO w.heap.size (fun k_ => ((tB.alloc (.cells #[.int .i64 dA, .int .i64 eA, .int .i64 fA, .slice nA gA.length oA] 57)).heap.size ≤ k_ ∧ k_ < pB.heap.size) ∧ ∃ q_, q_ ∈ 81 :: (k81).E ∧ ∃ c_, pB.heap[k_]? = some (.cells c_ q_ (0, 0))) (.slice pA uE.length qA) uE by rw [← lJ.out]; exact oF.out)
     clear oF
     have mJ := am_ (Kd.S_reads' pF.out).1
     have gC := am_ (show Kd.S k78 78 eO w.heap.size (fun k_ => ((tB.alloc (.cells #[.int .i64 dA, .int .i64 eA, .int .i64 fA, .slice nA gA.length oA] 57)).heap.size ≤ k_ ∧ k_ < pB.heap.size) ∧ ∃ q_, q_ ∈ 78 :: (k78).E ∧ ∃ c_, pB.heap[k_]? = some (.cells c_ q_ (0, 0))) (.slice rA vE.length sA) vE by rw [← mJ.out]; exact pF.out)
     clear pF
     have hxYG0_25_0 : eO.cell? ⟨pB.heap.size, 0, none⟩ = some (.slice pA aA.length qA) := bt_ rD 0
     have hxYG0_25_1 : eO.cell? ⟨pB.heap.size, 1, none⟩ = some (.slice rA cA.length sA) := bt_ rD 1
     have hxYG0_25_2 : eO.cell? ⟨pB.heap.size, 2, none⟩ = some (.int .i64 bA) := bt_ rD 2
     go_wp2_with fail
     rw [lJ.out]
     rw [mJ.out]
     refine (laws_heldPart.calls k _ _ uE _ _ vE bA 1 q0 _ (Kd.S_reads' fC.out).2.2 (Kd.S_reads' fC.out).2.1 (Kd.S_reads' gC.out).2.2 (Kd.S_reads' gC.out).2.1 mP.out).mono ?_
     rintro e aP ⟨rfl, qF⟩
     clear hxYG0_25_0
     clear hxYG0_25_1
     clear hxYG0_25_2
     have bO := am_ (below_step aO.out qF)
     clear aO
     have qM := am_ (blk_below oM.out qF)
     clear oM
     have rM := am_ (blk_below pM.out qF)
     clear pM
     have dJ := am_ (Kd.S_below bJ.out qF)
     clear bJ
     have eJ := am_ (Kd.S_below cJ.out qF)
     clear cJ
     have yK := am_ (blk_below xK.out qF)
     clear xK
     have fJ := am_ (Kd.S_below fC.out qF)
     clear fC
     have gJ := am_ (Kd.S_below gC.out qF)
     clear gC
     have zK := am_ (blk_below rD.out qF)
     clear rD
     replace HL := am_ (And.intro (show eO.heap.size ≤ aP.heap.size from qF.size) HL.out)
     clear qF
     obtain ⟨gW0, hgQ_⟩ : ∃ g_, g_ = gQ := ⟨_, rfl⟩
     subst hgQ_
     try go_wp2
     have nC := qH_ bO
     clear bO
     have lE := qK_ qM
     clear qM
     have pC := qK_ rM
     clear rM
     have rF := am_ (Kd.S_drew dJ.out)
     clear dJ
     have sF := am_ (Kd.S_drew eJ.out)
     clear eJ
     have iG := qK_ yK
     clear yK
     have tF := am_ (Kd.S_drew fJ.out)
     clear fJ
     have uF := am_ (Kd.S_drew gJ.out)
     clear gJ
     have jG := qK_ zK
     clear zK
     replace HL := am_ (And.intro (show aP.heap.size = aP.drew.heap.size from rfl) HL.out)
     refine start_ (n := 15) (S := fun w' => w'.cell? ⟨w.heap.size, 0, none⟩ = some (.slice A0_0 l0_0.length c0_0) ∧ w'.cell? ⟨w.heap.size, 1, none⟩ = some (.slice A0_1 l0_1.length c0_1) ∧ w'.cell? ⟨w.heap.size, 2, none⟩ = some (.int .i64 a0_2) ∧ w'.cell? ⟨w.heap.size + 1, 0, none⟩ = some (.int .i64 a1_0) ∧ w'.cell? ⟨w.heap.size + 1, 1, none⟩ = some (.int .i64 a1_1) ∧ w'.cell? ⟨w.heap.size + 1, 2, none⟩ = some (.int .i64 a1_2) ∧ w'.cell? ⟨w.heap.size + 1, 3, none⟩ = some (.slice A1_3 l1_3.length c1_3)) (ds := [11]) (List.replicate 15 false).toArray (by kernel_rfl) rfl rfl ⟨bt_ lE 0, bt_ lE 1, bt_ lE 2, bt_ pC 0, bt_ pC 1, bt_ pC 2, bt_ pC 3⟩ (fun hHeld => ?_)
     generalize aP.drew = kG at nC lE pC rF sF iG tF uF jG HL hHeld ⊢
     have HBw := am_ (Below.refl kG.heap.size kG)
     have HH := am_ hHeld
     refine tx_ 0 125 ?_
     refine tx_ 2 127 ?_
     refine join_ (σ := Nat × Value × Value × Value × Value) 4 #[true, true, true, true, true, true, true, true, true, true, true, false, false, false, false] (fun s_ => [(126, s_.2.1), (128, s_.2.2.1), (129, .tuple #[.agg #[s_.2.2.2.1, s_.2.2.2.2, .int .i64 bA], .int .i64 gB, .int .i64 hB, .bool iB]), (124, .tuple #[.agg #[s_.2.2.2.1, s_.2.2.2.2, .int .i64 bA], .int .i64 gB, .int .i64 hB, .bool iB]), (130, .agg #[s_.2.2.2.1, s_.2.2.2.2, .int .i64 bA]), (131, .int .i64 gB), (132, .int .i64 hB), (133, .bool iB), (19, .pointer (some ⟨s_.1, 0, none⟩))]) (fun s_ w' => (w'.cell? ⟨w.heap.size, 0, none⟩ = some (.slice A0_0 l0_0.length c0_0) ∧ w'.cell? ⟨w.heap.size, 1, none⟩ = some (.slice A0_1 l0_1.length c0_1) ∧ w'.cell? ⟨w.heap.size, 2, none⟩ = some (.int .i64 a0_2) ∧ w'.cell? ⟨w.heap.size + 1, 0, none⟩ = some (.int .i64 a1_0) ∧ w'.cell? ⟨w.heap.size + 1, 1, none⟩ = some (.int .i64 a1_1) ∧ w'.cell? ⟨w.heap.size + 1, 2, none⟩ = some (.int .i64 a1_2) ∧ w'.cell? ⟨w.heap.size + 1, 3, none⟩ = some (.slice A1_3 l1_3.length c1_3)) ∧ w'.heap[s_.1]? = some (.cells #[.slice none 0 0, .slice none 0 0, .int .i64 0] 33 (0, 0)) ∧ kG.heap.size ≤ s_.1 ∧ Kd.S k81 81 w' kG.heap.size (fun _ => True) (s_.2.2.2.1) aA ∧ Kd.S k78 78 w' kG.heap.size (fun _ => True) (s_.2.2.2.2) cA ∧ Below kG.heap.size kG w') ?_ ?_
     rotate_left
     ·intro hCont
      refine two_ (i := 1) (j := 10) (Ni := some 126) (Nj := some 19) #[true, true, true, false, false, false, false, false, false, false, false, false, false, false, false] #[true, false, true, false, false, false, false, false, false, false, true, false, false, false, false] rfl rfl rfl rfl (by kernel_rfl) (by decide) (by decide) (fun K hK => ?_) (fun K hK => ?_)
      ·skip
       refine gs_ Try.func12 #[.agg #[.slice A0_0 l0_0.length c0_0, .slice A0_1 l0_1.length c0_1, .int .i64 a0_2]] rfl (by (try simp only [List.map_toArray, List.map_cons, List.map_nil]); first | done | rfl) ?_
       refine (laws_toPart.calls k _ _ l0_0 _ _ l0_1 a0_2 jA kA lA _ (Kd.C_below qC.out (below_step nC.out HBw.out)) rC.out (Kd.C_below sC.out (below_step nC.out HBw.out)) tC.out jO.out).mono ?_
       rintro e wq1 ⟨xM, yM, rfl, mB, nB, hb⟩
       refine ⟨_, rfl, ?_⟩
       have hA := am_ mB
       obtain ⟨cB, dB, e9_⟩ := Kd.S_slice mB
       subst e9_
       have iA := am_ nB
       obtain ⟨eB, fB, e9_⟩ := Kd.S_slice nB
       subst e9_
       replace HBw := am_ (below_step HBw.out hb)
       clear mB nB hb
       refine hK.out _ _ (hc_ HH) fun hHeld => ?_
       clear hK K
       refine no_ ?_
       refine two_ (i := 3) (j := 10) (Ni := some 128) (Nj := some 19) #[true, true, true, true, false, false, false, false, false, false, false, false, false, false, false] #[true, true, true, false, false, false, false, false, false, false, true, false, false, false, false] rfl rfl rfl rfl (by kernel_rfl) (by decide) (by decide) (fun K hK => ?_) (fun K hK => ?_)
       ·skip
        refine gs_ Try.func31 #[.agg #[.int .i64 a1_0, .int .i64 a1_1, .int .i64 a1_2, .slice A1_3 l1_3.length c1_3]] rfl (by (try simp only [List.map_toArray, List.map_cons, List.map_nil]); first | done | rfl) ?_
        refine (laws_toAsk.calls k a1_0 a1_1 a1_2 _ _ l1_3 dA eA fA gA _ (Kd.C_below lC.out (below_step nC.out HBw.out)) mC.out iN.out).mono ?_
        rintro e wq2 ⟨bL, rfl, oE, hb⟩
        refine ⟨_, rfl, ?_⟩
        replace hA := am_ (Kd.S_below hA.out hb)
        replace iA := am_ (Kd.S_below iA.out hb)
        have mA := am_ oE
        obtain ⟨zA, aB, e9_⟩ := Kd.R_slice oE
        subst e9_
        replace HBw := am_ (below_step HBw.out hb)
        clear oE hb
        refine hK.out _ _ (hc_ HH) fun hHeld => ?_
        clear hK K
        refine no_ ?_
        refine two_ (i := 4) (j := 10) (Ni := some 129) (Nj := some 19) #[true, true, true, true, true, false, false, false, false, false, false, false, false, false, false] #[true, true, true, true, false, false, false, false, false, false, true, false, false, false, false] rfl rfl rfl rfl (by kernel_rfl) (by decide) (by decide) (fun K hK => ?_) (fun K hK => ?_)
        ·skip
         refine gs_ Try.func32 #[.agg #[.slice cB jA.length dB, .slice eB kA.length fB, .int .i64 lA], .agg #[.int .i64 dA, .int .i64 eA, .int .i64 fA, .slice zA gA.length aB]] rfl (by (try simp only [List.map_toArray, List.map_cons, List.map_nil]); first | done | rfl) ?_
         refine (impl_AskPart.calls k _ _ jA _ _ kA lA dA eA fA _ _ gA aA cA bA gB hB iB _ (Kd.S_reads' hA.out).2.2 (Kd.S_reads' hA.out).2.1 (Kd.S_reads' iA.out).2.2 (Kd.S_reads' iA.out).2.1 (Kd.R_reads' mA.out).2.2 (Kd.R_reads' mA.out).2.1 HGI.out).mono ?_
         rintro e wq3 ⟨ug0, ug1, rfl, mB, nB, hb⟩
         refine ⟨_, rfl, ?_⟩
         have yD := am_ (Kd.S_lower mB HBw.out.size)
         have zD := am_ (Kd.S_lower nB HBw.out.size)
         replace HBw := am_ (below_step HBw.out hb)
         clear mB nB hA iA mA hb
         refine hK.out _ _ (hc_ HH) fun hHeld => ?_
         clear hK K
         refine no_ ?_
         refine px_ 5 124 ?_
         refine px_ 6 130 ?_
         refine px_ 7 131 ?_
         refine px_ 8 132 ?_
         refine px_ 9 133 ?_
         refine ox_ 10 19 fun K hK => ?_
         refine bs_ (N := 19) #[.slice none 0 0, .slice none 0 0, .int .i64 0] 33 ?_
         intro gQ hg_ wq4 hbox_ hb
         have HGE := am_ (show kG.heap.size ≤ gQ from by rw [hg_]; exact HBw.out.size)
         have HBX := am_ hbox_
         replace yD := am_ (Kd.S_below yD.out hb)
         replace zD := am_ (Kd.S_below zD.out hb)
         replace HBw := am_ (below_step HBw.out hb)
         clear hg_ hbox_ hb
         refine hK.out _ _ (hc_ HH) fun hHeld => ?_
         clear hK K
         refine no_ ?_
         exact nq_ (hCont (gQ, .agg #[.slice cB jA.length dB, .slice eB kA.length fB, .int .i64 lA], .agg #[.int .i64 dA, .int .i64 eA, .int .i64 fA, .slice zA gA.length aB], ug0, ug1) _ ⟨hHeld, HBX.out, HGE.out, yD.out, zD.out, HBw.out⟩)
        ·skip
         refine bs_ (N := 19) #[.slice none 0 0, .slice none 0 0, .int .i64 0] 33 ?_
         intro gQ hg_ wq5 hbox_ hb
         have HGE := am_ (show kG.heap.size ≤ gQ from by rw [hg_]; exact HBw.out.size)
         have HBX := am_ hbox_
         replace hA := am_ (Kd.S_below hA.out hb)
         replace iA := am_ (Kd.S_below iA.out hb)
         replace mA := am_ (Kd.R_below mA.out hb)
         replace HBw := am_ (below_step HBw.out hb)
         clear hg_ hbox_ hb
         refine hK.out _ _ (hc_ HH) fun hHeld => ?_
         clear hK K
         refine no_ ?_
         refine ox_ 4 129 fun K hK => ?_
         refine gs_ Try.func32 #[.agg #[.slice cB jA.length dB, .slice eB kA.length fB, .int .i64 lA], .agg #[.int .i64 dA, .int .i64 eA, .int .i64 fA, .slice zA gA.length aB]] rfl (by (try simp only [List.map_toArray, List.map_cons, List.map_nil]); first | done | rfl) ?_
         refine (impl_AskPart.calls k _ _ jA _ _ kA lA dA eA fA _ _ gA aA cA bA gB hB iB _ (Kd.S_reads' hA.out).2.2 (Kd.S_reads' hA.out).2.1 (Kd.S_reads' iA.out).2.2 (Kd.S_reads' iA.out).2.1 (Kd.R_reads' mA.out).2.2 (Kd.R_reads' mA.out).2.1 HGI.out).mono ?_
         rintro e wq6 ⟨ug0, ug1, rfl, mB, nB, hb⟩
         refine ⟨_, rfl, ?_⟩
         replace HBX := am_ (blk_below HBX.out hb)
         have yD := am_ (Kd.S_lower mB HBw.out.size)
         have zD := am_ (Kd.S_lower nB HBw.out.size)
         replace HBw := am_ (below_step HBw.out hb)
         clear mB nB hA iA mA hb
         refine hK.out _ _ (hc_ HH) fun hHeld => ?_
         clear hK K
         refine no_ ?_
         refine px_ 5 124 ?_
         refine px_ 6 130 ?_
         refine px_ 7 131 ?_
         refine px_ 8 132 ?_
         refine px_ 9 133 ?_
         exact nq_ (hCont (gQ, .agg #[.slice cB jA.length dB, .slice eB kA.length fB, .int .i64 lA], .agg #[.int .i64 dA, .int .i64 eA, .int .i64 fA, .slice zA gA.length aB], ug0, ug1) _ ⟨hHeld, HBX.out, HGE.out, yD.out, zD.out, HBw.out⟩)
       ·skip
        refine bs_ (N := 19) #[.slice none 0 0, .slice none 0 0, .int .i64 0] 33 ?_
        intro gQ hg_ wq7 hbox_ hb
        have HGE := am_ (show kG.heap.size ≤ gQ from by rw [hg_]; exact HBw.out.size)
        have HBX := am_ hbox_
        replace hA := am_ (Kd.S_below hA.out hb)
        replace iA := am_ (Kd.S_below iA.out hb)
        replace HBw := am_ (below_step HBw.out hb)
        clear hg_ hbox_ hb
        refine hK.out _ _ (hc_ HH) fun hHeld => ?_
        clear hK K
        refine no_ ?_
        refine ox_ 3 128 fun K hK => ?_
        refine gs_ Try.func31 #[.agg #[.int .i64 a1_0, .int .i64 a1_1, .int .i64 a1_2, .slice A1_3 l1_3.length c1_3]] rfl (by (try simp only [List.map_toArray, List.map_cons, List.map_nil]); first | done | rfl) ?_
        refine (laws_toAsk.calls k a1_0 a1_1 a1_2 _ _ l1_3 dA eA fA gA _ (Kd.C_below lC.out (below_step nC.out HBw.out)) mC.out iN.out).mono ?_
        rintro e wq8 ⟨bL, rfl, oE, hb⟩
        refine ⟨_, rfl, ?_⟩
        replace hA := am_ (Kd.S_below hA.out hb)
        replace iA := am_ (Kd.S_below iA.out hb)
        replace HBX := am_ (blk_below HBX.out hb)
        have mA := am_ oE
        obtain ⟨zA, aB, e9_⟩ := Kd.R_slice oE
        subst e9_
        replace HBw := am_ (below_step HBw.out hb)
        clear oE hb
        refine hK.out _ _ (hc_ HH) fun hHeld => ?_
        clear hK K
        refine no_ ?_
        refine ox_ 4 129 fun K hK => ?_
        refine gs_ Try.func32 #[.agg #[.slice cB jA.length dB, .slice eB kA.length fB, .int .i64 lA], .agg #[.int .i64 dA, .int .i64 eA, .int .i64 fA, .slice zA gA.length aB]] rfl (by (try simp only [List.map_toArray, List.map_cons, List.map_nil]); first | done | rfl) ?_
        refine (impl_AskPart.calls k _ _ jA _ _ kA lA dA eA fA _ _ gA aA cA bA gB hB iB _ (Kd.S_reads' hA.out).2.2 (Kd.S_reads' hA.out).2.1 (Kd.S_reads' iA.out).2.2 (Kd.S_reads' iA.out).2.1 (Kd.R_reads' mA.out).2.2 (Kd.R_reads' mA.out).2.1 HGI.out).mono ?_
        rintro e wq9 ⟨ug0, ug1, rfl, mB, nB, hb⟩
        refine ⟨_, rfl, ?_⟩
        replace HBX := am_ (blk_below HBX.out hb)
        have yD := am_ (Kd.S_lower mB HBw.out.size)
        have zD := am_ (Kd.S_lower nB HBw.out.size)
        replace HBw := am_ (below_step HBw.out hb)
        clear mB nB hA iA mA hb
        refine hK.out _ _ (hc_ HH) fun hHeld => ?_
        clear hK K
        refine no_ ?_
        refine px_ 5 124 ?_
        refine px_ 6 130 ?_
        refine px_ 7 131 ?_
        refine px_ 8 132 ?_
        refine px_ 9 133 ?_
        exact nq_ (hCont (gQ, .agg #[.slice cB jA.length dB, .slice eB kA.length fB, .int .i64 lA], .agg #[.int .i64 dA, .int .i64 eA, .int .i64 fA, .slice zA gA.length aB], ug0, ug1) _ ⟨hHeld, HBX.out, HGE.out, yD.out, zD.out, HBw.out⟩)
      ·skip
       refine bs_ (N := 19) #[.slice none 0 0, .slice none 0 0, .int .i64 0] 33 ?_
       intro gQ hg_ wq10 hbox_ hb
       have HGE := am_ (show kG.heap.size ≤ gQ from by rw [hg_]; exact HBw.out.size)
       have HBX := am_ hbox_
       replace HBw := am_ (below_step HBw.out hb)
       clear hg_ hbox_ hb
       refine hK.out _ _ (hc_ HH) fun hHeld => ?_
       clear hK K
       refine no_ ?_
       refine ox_ 1 126 fun K hK => ?_
       refine gs_ Try.func12 #[.agg #[.slice A0_0 l0_0.length c0_0, .slice A0_1 l0_1.length c0_1, .int .i64 a0_2]] rfl (by (try simp only [List.map_toArray, List.map_cons, List.map_nil]); first | done | rfl) ?_
       refine (laws_toPart.calls k _ _ l0_0 _ _ l0_1 a0_2 jA kA lA _ (Kd.C_below qC.out (below_step nC.out HBw.out)) rC.out (Kd.C_below sC.out (below_step nC.out HBw.out)) tC.out jO.out).mono ?_
       rintro e wq11 ⟨xM, yM, rfl, mB, nB, hb⟩
       refine ⟨_, rfl, ?_⟩
       replace HBX := am_ (blk_below HBX.out hb)
       have hA := am_ mB
       obtain ⟨cB, dB, e9_⟩ := Kd.S_slice mB
       subst e9_
       have iA := am_ nB
       obtain ⟨eB, fB, e9_⟩ := Kd.S_slice nB
       subst e9_
       replace HBw := am_ (below_step HBw.out hb)
       clear mB nB hb
       refine hK.out _ _ (hc_ HH) fun hHeld => ?_
       clear hK K
       refine no_ ?_
       refine ox_ 3 128 fun K hK => ?_
       refine gs_ Try.func31 #[.agg #[.int .i64 a1_0, .int .i64 a1_1, .int .i64 a1_2, .slice A1_3 l1_3.length c1_3]] rfl (by (try simp only [List.map_toArray, List.map_cons, List.map_nil]); first | done | rfl) ?_
       refine (laws_toAsk.calls k a1_0 a1_1 a1_2 _ _ l1_3 dA eA fA gA _ (Kd.C_below lC.out (below_step nC.out HBw.out)) mC.out iN.out).mono ?_
       rintro e wq12 ⟨bL, rfl, oE, hb⟩
       refine ⟨_, rfl, ?_⟩
       replace HBX := am_ (blk_below HBX.out hb)
       replace hA := am_ (Kd.S_below hA.out hb)
       replace iA := am_ (Kd.S_below iA.out hb)
       have mA := am_ oE
       obtain ⟨zA, aB, e9_⟩ := Kd.R_slice oE
       subst e9_
       replace HBw := am_ (below_step HBw.out hb)
       clear oE hb
       refine hK.out _ _ (hc_ HH) fun hHeld => ?_
       clear hK K
       refine no_ ?_
       refine ox_ 4 129 fun K hK => ?_
       refine gs_ Try.func32 #[.agg #[.slice cB jA.length dB, .slice eB kA.length fB, .int .i64 lA], .agg #[.int .i64 dA, .int .i64 eA, .int .i64 fA, .slice zA gA.length aB]] rfl (by (try simp only [List.map_toArray, List.map_cons, List.map_nil]); first | done | rfl) ?_
       refine (impl_AskPart.calls k _ _ jA _ _ kA lA dA eA fA _ _ gA aA cA bA gB hB iB _ (Kd.S_reads' hA.out).2.2 (Kd.S_reads' hA.out).2.1 (Kd.S_reads' iA.out).2.2 (Kd.S_reads' iA.out).2.1 (Kd.R_reads' mA.out).2.2 (Kd.R_reads' mA.out).2.1 HGI.out).mono ?_
       rintro e wq13 ⟨ug0, ug1, rfl, mB, nB, hb⟩
       refine ⟨_, rfl, ?_⟩
       replace HBX := am_ (blk_below HBX.out hb)
       have yD := am_ (Kd.S_lower mB HBw.out.size)
       have zD := am_ (Kd.S_lower nB HBw.out.size)
       replace HBw := am_ (below_step HBw.out hb)
       clear mB nB hA iA mA hb
       refine hK.out _ _ (hc_ HH) fun hHeld => ?_
       clear hK K
       refine no_ ?_
       refine px_ 5 124 ?_
       refine px_ 6 130 ?_
       refine px_ 7 131 ?_
       refine px_ 8 132 ?_
       refine px_ 9 133 ?_
       exact nq_ (hCont (gQ, .agg #[.slice cB jA.length dB, .slice eB kA.length fB, .int .i64 lA], .agg #[.int .i64 dA, .int .i64 eA, .int .i64 fA, .slice zA gA.length aB], ug0, ug1) _ ⟨hHeld, HBX.out, HGE.out, yD.out, zD.out, HBw.out⟩)
     rintro ⟨gQ, d0, d1, u0, u1⟩ kP ⟨hS_, hbx_, hge_, h0_, h1_, hB_⟩
     have HBX := am_ hbx_
     have HGE := am_ hge_
     have yD := am_ h0_
     have zD := am_ h1_
     have HBe := am_ hB_
     clear HBw hS_ hbx_ hge_ h0_ h1_ hB_ hHeld
     refine np_ ?_
     obtain ⟨AH0_0, cH0_0, e9_⟩ := Kd.S_slice yD.out
     subst e9_
     obtain ⟨AH0_1, cH0_1, e9_⟩ := Kd.S_slice zD.out
     subst e9_
     obtain ⟨hq0_, hq1_, hq2_, hqf0_, hqf1_, hqf2_⟩ := cf3_ HBX.out
     refine last_ (i := 11) (N := none) #[true, true, true, true, true, true, true, true, true, true, true, true, false, false, false] rfl rfl (by kernel_rfl) (by decide) (fun K hK => ?_)
     refine skip_ (w1 := (((kP.setCell ⟨gQ, 0, none⟩ (.slice AH0_0 aA.length cH0_0)).setCell ⟨gQ, 1, none⟩ (.slice AH0_1 cA.length cH0_1)).setCell ⟨gQ, 2, none⟩ (.int .i64 bA))) (by rfl) rfl ?_ ?_
     ·first | (go_simp; done) | (go_simp; rfl)
     refine hK.out _ _ ?_
     clear hK K hq0_ hqf0_ hq1_ hqf1_ hq2_ hqf2_
     refine px_ 12 20 ?_
     refine px_ 13 21 ?_
     refine px_ 14 22 ?_
     refine done_ (by kernel_rfl) ?_
     have hu0_ := (Kd.S_set (Kd.S_set (Kd.S_set yD.out HBX.out (by decide) 0 (.slice AH0_0 aA.length cH0_0)) (blk_put (cs := #[.slice none 0 0, .slice none 0 0, .int .i64 0]) HBX.out 0 (.slice AH0_0 aA.length cH0_0) rfl) (by decide) 1 (.slice AH0_1 cA.length cH0_1)) (blk_put (cs := #[.slice AH0_0 aA.length cH0_0, .slice none 0 0, .int .i64 0]) (blk_put (cs := #[.slice none 0 0, .slice none 0 0, .int .i64 0]) HBX.out 0 (.slice AH0_0 aA.length cH0_0) rfl) 1 (.slice AH0_1 cA.length cH0_1) rfl) (by decide) 2 (.int .i64 bA))
     have hu1_ := (Kd.S_set (Kd.S_set (Kd.S_set zD.out HBX.out (by decide) 0 (.slice AH0_0 aA.length cH0_0)) (blk_put (cs := #[.slice none 0 0, .slice none 0 0, .int .i64 0]) HBX.out 0 (.slice AH0_0 aA.length cH0_0) rfl) (by decide) 1 (.slice AH0_1 cA.length cH0_1)) (blk_put (cs := #[.slice AH0_0 aA.length cH0_0, .slice none 0 0, .int .i64 0]) (blk_put (cs := #[.slice none 0 0, .slice none 0 0, .int .i64 0]) HBX.out 0 (.slice AH0_0 aA.length cH0_0) rfl) 1 (.slice AH0_1 cA.length cH0_1) rfl) (by decide) 2 (.int .i64 bA))
     have hbx_ := (blk_put (cs := #[.slice AH0_0 aA.length cH0_0, .slice AH0_1 cA.length cH0_1, .int .i64 0]) (blk_put (cs := #[.slice AH0_0 aA.length cH0_0, .slice none 0 0, .int .i64 0]) (blk_put (cs := #[.slice none 0 0, .slice none 0 0, .int .i64 0]) HBX.out 0 (.slice AH0_0 aA.length cH0_0) rfl) 1 (.slice AH0_1 cA.length cH0_1) rfl) 2 (.int .i64 bA) rfl)
     have pE : Below kG.heap.size kG (((kP.setCell ⟨gQ, 0, none⟩ (.slice AH0_0 aA.length cH0_0)).setCell ⟨gQ, 1, none⟩ (.slice AH0_1 cA.length cH0_1)).setCell ⟨gQ, 2, none⟩ (.int .i64 bA)) := (below_set (below_set (below_set HBe.out HGE.out) HGE.out) HGE.out)
     have hlt_ := blk_lt (blk_put (cs := #[.slice AH0_0 aA.length cH0_0, .slice AH0_1 cA.length cH0_1, .int .i64 0]) (blk_put (cs := #[.slice AH0_0 aA.length cH0_0, .slice none 0 0, .int .i64 0]) (blk_put (cs := #[.slice none 0 0, .slice none 0 0, .int .i64 0]) HBX.out 0 (.slice AH0_0 aA.length cH0_0) rfl) 1 (.slice AH0_1 cA.length cH0_1) rfl) 2 (.int .i64 bA) rfl)
     clear HBX yD zD HBe
     generalize (((kP.setCell ⟨gQ, 0, none⟩ (.slice AH0_0 aA.length cH0_0)).setCell ⟨gQ, 1, none⟩ (.slice AH0_1 cA.length cH0_1)).setCell ⟨gQ, 2, none⟩ (.int .i64 bA)) = fO at hu0_ hu1_ hbx_ pE hlt_ ⊢
     have cO := am_ (below_step nC.out pE)
     clear nC
     have gO := am_ (blk_below lE.out pE)
     clear lE
     have hO := am_ (blk_below pC.out pE)
     clear pC
     have sD := am_ (Kd.S_below rF.out pE)
     clear rF
     have tD := am_ (Kd.S_below sF.out pE)
     clear sF
     have lG := am_ (blk_below iG.out pE)
     clear iG
     have hJ := am_ (Kd.S_below tF.out pE)
     clear tF
     have iJ := am_ (Kd.S_below uF.out pE)
     clear uF
     have aL := am_ (blk_below jG.out pE)
     clear jG
     replace HL := am_ (And.intro (show kG.heap.size ≤ gQ ∧ gQ < fO.heap.size from ⟨HGE.out, hlt_⟩) HL.out)
     clear HGE hlt_
     replace HL := am_ (And.intro (show kG.heap.size ≤ fO.heap.size from pE.size) HL.out)
     have hC := am_ (Kd.S_lower (Kd.S_mono (ok' := fun k_ => (kG.heap.size ≤ k_ ∧ k_ < fO.heap.size) ∧ ∃ q_, q_ ∈ 81 :: (k81).E ∧ ∃ c_, fO.heap[k_]? = some (.cells c_ q_ (0, 0))) (Kd.S_bound hu0_) (fun k_ h_ => ⟨⟨h_.2.1, h_.2.2.1⟩, h_.2.2.2⟩)) (show w.heap.size ≤ kG.heap.size by have l_ := HL.out; omega))
     have iC := am_ (Kd.S_lower (Kd.S_mono (ok' := fun k_ => (kG.heap.size ≤ k_ ∧ k_ < fO.heap.size) ∧ ∃ q_, q_ ∈ 78 :: (k78).E ∧ ∃ c_, fO.heap[k_]? = some (.cells c_ q_ (0, 0))) (Kd.S_bound hu1_) (fun k_ h_ => ⟨⟨h_.2.1, h_.2.2.1⟩, h_.2.2.2⟩)) (show w.heap.size ≤ kG.heap.size by have l_ := HL.out; omega))
     have mG := am_ (hbx_)
     clear hbx_
     clear hu0_ hu1_ pE
     clear gO
     clear hO
     obtain ⟨hxYH0_30_0, hxYH0_30_1, hxYH0_30_2⟩ := cc3_ mG.out
     obtain ⟨hxYW0_30_0, hxYW0_30_1, hxYW0_30_2⟩ := cc3_ lG.out
     go_wp2_with fail
     refine (laws_eqPart.calls k _ _ aA _ _ cA bA _ _ tA _ _ yA bB true _ (Kd.S_reads' hC.out).2.2 (Kd.S_reads' hC.out).2.1 (Kd.S_reads' iC.out).2.2 (Kd.S_reads' iC.out).2.1 (Kd.S_reads' sD.out).2.2 (Kd.S_reads' sD.out).2.1 (Kd.S_reads' tD.out).2.2 (Kd.S_reads' tD.out).2.1 dP.out).mono ?_
     rintro e uO ⟨rfl, uD⟩
     try replace uD := uD.below
     clear hxYH0_30_0
     clear hxYH0_30_1
     clear hxYH0_30_2
     clear hxYW0_30_0
     clear hxYW0_30_1
     clear hxYW0_30_2
     have dO := am_ (below_step cO.out uD)
     clear cO
     have sM := am_ (Kd.S_below sD.out uD)
     clear sD
     have tM := am_ (Kd.S_below tD.out uD)
     clear tD
     have cN := am_ (blk_below lG.out uD)
     clear lG
     have vD := am_ (Kd.S_below hJ.out uD)
     clear hJ
     have wD := am_ (Kd.S_below iJ.out uD)
     clear iJ
     have xD := am_ (blk_below aL.out uD)
     clear aL
     have uM := am_ (Kd.S_below hC.out uD)
     clear hC
     have vM := am_ (Kd.S_below iC.out uD)
     clear iC
     have dN := am_ (blk_below mG.out uD)
     clear mG
     replace HL := am_ (And.intro (show fO.heap.size ≤ uO.heap.size from uD.size) HL.out)
     clear uD
     clear sM
     clear tM
     clear cN
     clear uM
     clear vM
     clear dN
     have hxYG0_31_0 : uO.cell? ⟨pB.heap.size, 0, none⟩ = some (.slice pA aA.length qA) := bt_ xD 0
     have hxYG0_31_1 : uO.cell? ⟨pB.heap.size, 1, none⟩ = some (.slice rA cA.length sA) := bt_ xD 1
     have hxYG0_31_2 : uO.cell? ⟨pB.heap.size, 2, none⟩ = some (.int .i64 bA) := bt_ xD 2
     go_wp2_with fail
     rw [lJ.out]
     rw [mJ.out]
     refine (laws_heldPart.calls k _ _ uE _ _ vE bA 1 q0 _ (Kd.S_reads' vD.out).2.2 (Kd.S_reads' vD.out).2.1 (Kd.S_reads' wD.out).2.2 (Kd.S_reads' wD.out).2.1 mP.out).mono ?_
     rintro e zP ⟨rfl, gL⟩
     clear hxYG0_31_0
     clear hxYG0_31_1
     clear hxYG0_31_2
     have vO := am_ (below_step dO.out gL)
     clear dO
     have wO := am_ (Kd.S_below vD.out gL)
     clear vD
     have xO := am_ (Kd.S_below wD.out gL)
     clear wD
     have bP := am_ (blk_below xD.out gL)
     clear xD
     replace HL := am_ (And.intro (show uO.heap.size ≤ zP.heap.size from gL.size) HL.out)
     clear gL
     go_wp2_with fail
     go_ret
     exact ⟨rfl, vO.out⟩


/-- The one pure statement of laws_FnExactAskPart. -/
def laws_FnExactAskPart.Pure : Prop := ∀ (x0 : S25) (x1 : S53), ok25 x0 → ok53 x1 → ∃ k, laws_FnExactAskPart.f k x0.f0 x0.f1 x0.f2 x1.f0 x1.f1 x1.f2 x1.f3 = some true
end Go.Proofs.Ytojdaolclcmalaa.QFnExactAskPart
