/- Functions that one statement reaches: of each a plain function, and the proof that calls come to it. Conditions: those that each contract names. Written by a program of this repository. -/
import Derived.Test.YtojdaolclcmalaaVAskParta
import Derived.Test.YtojdaolclcmalaaQFnExactAskPartx1
import Derived.Test.YtojdaolclcmalaaQFnExactAskPartx8
import Derived.Test.YtojdaolclcmalaaQFnExactAskPartx9
import Derived.Test.YtojdaolclcmalaaQFnExactAskPartx10
namespace Go.Proofs.Ytojdaolclcmalaa.QFnExactAskPart
open Go.RowKit Go.Proofs.YtojdaolclcmalaaW.PrintWords Go.Proofs.YtojdaolclcmalaaW.PrintLast Go.Proofs.YtojdaolclcmalaaW.PrintMore
attribute [local go_sem] max2_int min2_int max_two min_two max_three min_three max_four min_four Go.Proofs.YtojdaolclcmalaaW.PrintMore2.isSome_setCell   -- for this text's walks alone
set_option linter.unusedVariables false
set_option linter.unusedSimpArgs false

/-! ### spec_l5Ask: function 57 -/
/-- What an ask makes of a part, and what it is told. -/
def spec_l5Ask.f (k : Nat) (l0_0 : List S81) (l0_1 : List S78) (a0_2 : Int) (a1_0 : Int) (a1_1 : Int) (a1_2 : Int) (l1_3 : List ByteArray) : Option (List S81 × List S78 × Int × Int × Int) :=
 (spec_l5Code.f k l0_0 l0_1 a0_2 a1_0 a1_1 a1_2 l1_3).bind fun c => if c.1 = 0 then
  (spec_l5Batch.f a0_2 0 0 0 [] a1_0 a1_1 a1_2 l1_3).bind fun b => if l0_1.length < 1000000 then (if l0_0.length < 1000000 then
   (spec_l5Add.f k l0_0 b.1 b.2.1 b.2.2.1 b.2.2.2.1 b.2.2.2.2).bind fun ps => some (ps, l0_1 ++ [(⟨b.1, b.2.1, b.2.2.1, b.2.2.2.1, b.2.2.2.2⟩ : S78)], wrap64 (a0_2 + (b.2.2.2.2.length : Int)), c.1, c.2) else none) else none
 else some (l0_0, l0_1, a0_2, c.1, c.2)
theorem spec_l5Ask.mono : ∀ a0 a1 a2 a3 a4 a5 a6 k, LeO (spec_l5Ask.f k a0 a1 a2 a3 a4 a5 a6) (spec_l5Ask.f (k + 1) a0 a1 a2 a3 a4 a5 a6) := fun _ _ _ _ _ _ _ _ =>
 LeO.bind (spec_l5Code.mono _ _ _ _ _ _ _ _) (fun _ => LeO.ite (LeO.bind (LeO.refl _) (fun _ => LeO.ite (LeO.ite (LeO.bind (spec_l5Add.mono _ _ _ _ _ _ _) (fun _ => LeO.refl _)) (LeO.refl _)) (LeO.refl _))) (LeO.refl _))

set_option maxHeartbeats 8000000 in
set_option maxRecDepth 100000 in
theorem spec_l5Ask.calls (k : Nat) (P0_0_ : Nat → Prop) (A0_0 : Option Addr) (c0_0 : Nat) (l0_0 : List S81) (P0_1_ : Nat → Prop) (A0_1 : Option Addr) (c0_1 : Nat) (l0_1 : List S78) (a0_2 : Int) (a1_0 : Int) (a1_1 : Int) (a1_2 : Int) (A1_3 : Option Addr) (c1_3 : Nat) (l1_3 : List ByteArray) (r1 : List S81) (r2 : List S78) (r3 : Int) (r4 : Int) (r5 : Int) (w : World)
    (hs0_0 : Kd.V k81 81 w w.heap.size (fun k_ => P0_0_ k_) (.slice A0_0 l0_0.length c0_0) l0_0) (hs0_1 : Kd.V k78 78 w w.heap.size (fun k_ => P0_1_ k_) (.slice A0_1 l0_1.length c0_1) l0_1) (hr1_3 : Kd.C Kd.string w A1_3 l1_3.length l1_3) (hc1_3 : l1_3.length ≤ c1_3) (h : spec_l5Ask.f k l0_0 l0_1 a0_2 a1_0 a1_1 a1_2 l1_3 = some (r1, r2, r3, r4, r5)) :
    Calls Try.prog 57 #[.agg #[.slice A0_0 l0_0.length c0_0, .slice A0_1 l0_1.length c0_1, .int .i64 a0_2], .agg #[.int .i64 a1_0, .int .i64 a1_1, .int .i64 a1_2, .slice A1_3 l1_3.length c1_3]] w fun e w' => ∃ v0_ v1_ : Value, e = .returned (.tuple #[.agg #[v0_, v1_, .int .i64 r3], .int .i64 r4, .int .i64 r5]) ∧ Kd.V k81 81 w' w.heap.size (fun k_ => ((P0_0_ k_ ∨ P0_1_ k_) ∨ w.heap.size ≤ k_)) v0_ r1 ∧ Kd.V k78 78 w' w.heap.size (fun k_ => ((P0_0_ k_ ∨ P0_1_ k_) ∨ w.heap.size ≤ k_)) v1_ r2 ∧ Below w.heap.size w w' := by
  have hu33 := Try.underlying33
  have hu57 := Try.underlying57
  have hu78 := Try.underlying78
  have yA := am_ hs0_0
  have zA := am_ hs0_1
  have hB := am_ hr1_3
  have iB := am_ hc1_3
  have HB := am_ (Below.refl w.heap.size w)
  unfold spec_l5Ask.f at h
  obtain ⟨⟨q1, q2⟩, AC, h1⟩ := bnd_ h
  dsimp only at h1
  clear hs0_0 hs0_1 hr1_3 hc1_3 h
  obtain ⟨hq, h2⟩ | ⟨hq, h2⟩ := ite_ h1
  rotate_left
  · obtain ⟨rfl, rfl, rfl, rfl, rfl⟩ : l0_0 = r1 ∧ l0_1 = r2 ∧ a0_2 = r3 ∧ q1 = r4 ∧ q2 = r5 := by simpa using h2
    have hqb : (q1 != 0) = true := bne_iff_ne.mpr hq
    clear hq h1 h2
    go_enter Try.func57, Try.ntmps57
    go_wp2_with (first | ((with_reducible refine gate_dst (N := 2) rfl ?_); refine be_ (N := 2) #[.slice A0_0 l0_0.length c0_0, .slice A0_1 l0_1.length c0_1, .int .i64 a0_2] 33 ?_; intro aA hg w2 hbox hb; have cA := am_ hbox; have oA := ge_ hg; replace HB := nb_ hb; clear hb hbox hg) | ((with_reducible refine gate_dst (N := 3) rfl ?_); refine be_ (N := 3) #[.int .i64 a1_0, .int .i64 a1_1, .int .i64 a1_2, .slice A1_3 l1_3.length c1_3] 57 ?_; intro qB hg w3 hbox hb; have kA := am_ hbox; have dB := ge1_ hg oA; replace HB := nc_ oA hb; have N23 := nl_ cA hg; replace cA := bK_ cA hb; clear hb hbox hg) | ((with_reducible refine gate_dst (N := 4) rfl ?_); refine be_ (N := 4) #[.slice none 0 0, .slice none 0 0, .int .i64 0] 33 ?_; intro bA hg w4 hbox hb; have dA := am_ hbox; have sA := ge2_ hg oA dB; replace HB := nc2_ oA dB hb; have N24 := nl_ cA hg; have N42 := ng_ cA hg; have N34 := nl_ kA hg; replace cA := bK_ cA hb; replace kA := bK_ kA hb; clear hb hbox hg; obtain ⟨hcp_0, hcp_1, hcp_2, hfp_0, hfp_1, hfp_2⟩ := cf3_ cA.out; obtain ⟨hca_0, hca_1, hca_2, hca_3, hfa_0, hfa_1, hfa_2, hfa_3⟩ := cf4_ kA.out) | ((with_reducible refine gate_callee (f := 83) rfl ?_); refine gl_ 13 Try.func83 #[.agg #[.slice A0_0 l0_0.length c0_0, .slice A0_1 l0_1.length c0_1, .int .i64 a0_2], .agg #[.int .i64 a1_0, .int .i64 a1_1, .int .i64 a1_2, .slice A1_3 l1_3.length c1_3]] rfl ma_ ?_; (with_reducible refine (spec_l5Code.calls k A0_0 c0_0 l0_0 A0_1 c0_1 l0_1 a0_2 a1_0 a1_1 a1_2 A1_3 c1_3 l1_3 q1 q2 _ ?s1 ?s2 ?s3 ?s4 ?s5 ?s6 AC.out).mono ?_); (case s1 => exact Kd.C_below (Kd.V_reads' yA.out).2.2 HB.out); (case s2 => exact (Kd.V_reads' yA.out).2.1); (case s3 => exact Kd.C_below (Kd.V_reads' zA.out).2.2 HB.out); (case s4 => exact (Kd.V_reads' zA.out).2.1); (case s5 => exact Kd.C_below hB.out HB.out); (case s6 => exact iB.out); rintro e_ w6 ⟨rfl, vA⟩; refine ⟨_, rfl, ?_⟩; replace cA := am_ (blk_below cA.out vA); replace kA := am_ (blk_below kA.out vA); replace dA := am_ (blk_below dA.out vA); replace HB := am_ (below_step HB.out vA); clear vA hcp_0 hcp_1 hcp_2 hfp_0 hfp_1 hfp_2 hca_0 hca_1 hca_2 hca_3 hfa_0 hfa_1 hfa_2 hfa_3; obtain ⟨hcp_0, hcp_1, hcp_2, hfp_0, hfp_1, hfp_2⟩ := cf3_ cA.out; obtain ⟨hca_0, hca_1, hca_2, hca_3, hfa_0, hfa_1, hfa_2, hfa_3⟩ := cf4_ kA.out; obtain ⟨hcr_0, hcr_1, hcr_2, hfr_0, hfr_1, hfr_2⟩ := cf3_ dA.out) | ((with_reducible refine gate_store (t := 33) (p := 4) rfl ?_); refine store_event (t := 33) (p := 4) (v := ?vo_4) (w1 := (((w6.setCell ⟨bA, 0, none⟩ (.slice A0_0 l0_0.length c0_0)).setCell ⟨bA, 1, none⟩ (.slice A0_1 l0_1.length c0_1)).setCell ⟨bA, 2, none⟩ (.int .i64 a0_2))) ?hg ?ho ?hn ?hr ?_; (case ho => rfl); (case hg => rfl); (case hn => rfl); (case hr => first | (go_simp; done) | (go_simp; rfl)); intro w7 hw_; have BKn := am_ (show w7.heap[bA]? = some (.cells #[.slice A0_0 l0_0.length c0_0, .slice A0_1 l0_1.length c0_1, .int .i64 a0_2] 33 (0, 0)) from by rw [hw_]; exact blk_put (cs := #[.slice A0_0 l0_0.length c0_0, .slice A0_1 l0_1.length c0_1, .int .i64 0]) (blk_put (cs := #[.slice A0_0 l0_0.length c0_0, .slice none 0 0, .int .i64 0]) (blk_put (cs := #[.slice none 0 0, .slice none 0 0, .int .i64 0]) dA.out 0 _ rfl) 1 _ rfl) 2 _ rfl); have HBn := am_ (show Below w.heap.size w w7 from by rw [hw_]; exact below_set (below_set (below_set HB.out sA.out) sA.out) sA.out); clear hw_))
    refine bodyPost_ret (results_ctt rfl _ _ bA 33 #[.slice A0_0 l0_0.length c0_0, .slice A0_1 l0_1.length c0_1, .int .i64 a0_2] (0, 0) _ rfl BKn.out Try.underlying33 rfl (by kernel_rfl)) rfl ?_
    exact ⟨_, _, er_, Kd.V_mono (Kd.V_below yA.out HBn.out) (fun _ hk => .inl (.inl hk)), Kd.V_mono (Kd.V_below zA.out HBn.out) (fun _ hk => .inl (.inr hk)), HBn.out⟩
  · obtain ⟨⟨b0, b1, b2, b3, b4⟩, AB, h3⟩ := bnd_ h2
    obtain ⟨lB, h4⟩ := ifs_ h3
    obtain ⟨mB, h5⟩ := ifs_ h4
    obtain ⟨ps, AP, h6⟩ := bnd_ h5
    dsimp only at AP h6
    obtain ⟨rfl, nB, oB, rfl, rfl⟩ : ps = r1 ∧ l0_1 ++ [(⟨b0, b1, b2, b3, b4⟩ : S78)] = r2 ∧ wrap64 (a0_2 + (b4.length : Int)) = r3 ∧ q1 = r4 ∧ q2 = r5 := by simpa using h6
    have hqb : (q1 != 0) = false := bne_eq_false_iff_eq.mpr hq
    have rB := am_ nB
    have HR3E := am_ oB
    have gB := am_ lB
    have sB := am_ mB
    clear hq h1 h2 h3 h4 h5 h6 nB oB lB mB
    go_enter Try.func57, Try.ntmps57
    go_upto_region 5 with (first | ((with_reducible refine gate_dst (N := 2) rfl ?_); refine be_ (N := 2) #[.slice A0_0 l0_0.length c0_0, .slice A0_1 l0_1.length c0_1, .int .i64 a0_2] 33 ?_; intro aA hg w2 hbox hb; have cA := am_ hbox; have oA := ge_ hg; replace HB := nb_ hb; clear hb hbox hg) | ((with_reducible refine gate_dst (N := 3) rfl ?_); refine be_ (N := 3) #[.int .i64 a1_0, .int .i64 a1_1, .int .i64 a1_2, .slice A1_3 l1_3.length c1_3] 57 ?_; intro qB hg w3 hbox hb; have kA := am_ hbox; have dB := ge1_ hg oA; replace HB := nc_ oA hb; have N23 := nl_ cA hg; replace cA := bK_ cA hb; clear hb hbox hg) | ((with_reducible refine gate_dst (N := 4) rfl ?_); refine be_ (N := 4) #[.slice none 0 0, .slice none 0 0, .int .i64 0] 33 ?_; intro bA hg w4 hbox hb; have dA := am_ hbox; have sA := ge2_ hg oA dB; replace HB := nc2_ oA dB hb; have N24 := nl_ cA hg; have N42 := ng_ cA hg; have N34 := nl_ kA hg; replace cA := bK_ cA hb; replace kA := bK_ kA hb; clear hb hbox hg; obtain ⟨hcp_0, hcp_1, hcp_2, hfp_0, hfp_1, hfp_2⟩ := cf3_ cA.out; obtain ⟨hca_0, hca_1, hca_2, hca_3, hfa_0, hfa_1, hfa_2, hfa_3⟩ := cf4_ kA.out) | ((with_reducible refine gate_callee (f := 83) rfl ?_); refine gl_ 13 Try.func83 #[.agg #[.slice A0_0 l0_0.length c0_0, .slice A0_1 l0_1.length c0_1, .int .i64 a0_2], .agg #[.int .i64 a1_0, .int .i64 a1_1, .int .i64 a1_2, .slice A1_3 l1_3.length c1_3]] rfl ma_ ?_; (with_reducible refine (spec_l5Code.calls k A0_0 c0_0 l0_0 A0_1 c0_1 l0_1 a0_2 a1_0 a1_1 a1_2 A1_3 c1_3 l1_3 q1 q2 _ ?s1 ?s2 ?s3 ?s4 ?s5 ?s6 AC.out).mono ?_); (case s1 => exact Kd.C_below (Kd.V_reads' yA.out).2.2 HB.out); (case s2 => exact (Kd.V_reads' yA.out).2.1); (case s3 => exact Kd.C_below (Kd.V_reads' zA.out).2.2 HB.out); (case s4 => exact (Kd.V_reads' zA.out).2.1); (case s5 => exact Kd.C_below hB.out HB.out); (case s6 => exact iB.out); rintro e_ w6 ⟨rfl, vA⟩; refine ⟨_, rfl, ?_⟩; replace cA := am_ (blk_below cA.out vA); replace kA := am_ (blk_below kA.out vA); replace dA := am_ (blk_below dA.out vA); replace HB := am_ (below_step HB.out vA); clear vA hcp_0 hcp_1 hcp_2 hfp_0 hfp_1 hfp_2 hca_0 hca_1 hca_2 hca_3 hfa_0 hfa_1 hfa_2 hfa_3; obtain ⟨hcp_0, hcp_1, hcp_2, hfp_0, hfp_1, hfp_2⟩ := cf3_ cA.out; obtain ⟨hca_0, hca_1, hca_2, hca_3, hfa_0, hfa_1, hfa_2, hfa_3⟩ := cf4_ kA.out; obtain ⟨hcr_0, hcr_1, hcr_2, hfr_0, hfr_1, hfr_2⟩ := cf3_ dA.out) | ((with_reducible refine gate_callee (f := 56) rfl ?_); refine gl_ 25 Try.func56 #[.agg #[.int .i64 a0_2, .int .i64 0, .int .i64 0, .int .i64 0, .slice none 0 0], .agg #[.int .i64 a1_0, .int .i64 a1_1, .int .i64 a1_2, .slice A1_3 l1_3.length c1_3]] rfl ma_ ?_; refine (spec_l5Batch.calls a0_2 0 0 0 none 0 [] a1_0 a1_1 a1_2 A1_3 c1_3 l1_3 b0 b1 b2 b3 b4 _ (Kd.C_nil _ _) (Nat.le_refl _) ?s5 ?s6 AB.out).mono ?_; (case s5 => exact Kd.C_below hB.out HB.out); (case s6 => exact iB.out); rintro e_ w8 ⟨aC, rfl, ho_, eB⟩; refine ⟨_, rfl, ?_⟩; obtain ⟨tA, uA, rfl⟩ := Kd.R_slice ho_; have HLR := am_ (Kd.R_reads' ho_).2.1; have HFR := am_ (Kd.R_F (Kd.R_mono (ok' := fun k => w.heap.size ≤ k ∧ k ≠ aA ∧ k ≠ bA) (Kd.R_bound ho_) (fun k hk => ⟨Nat.le_trans HB.out.size hk.2.1, fun he => by have := blk_lt cA.out; have := hk.2.1; omega, fun he => by have := blk_lt dA.out; have := hk.2.1; omega⟩))); clear ho_; replace cA := am_ (blk_below cA.out eB); replace kA := am_ (blk_below kA.out eB); replace dA := am_ (blk_below dA.out eB); replace HB := am_ (below_step HB.out eB); clear eB hcp_0 hcp_1 hcp_2 hfp_0 hfp_1 hfp_2 hca_0 hca_1 hca_2 hca_3 hfa_0 hfa_1 hfa_2 hfa_3 hcr_0 hcr_1 hcr_2 hfr_0 hfr_1 hfr_2) | ((with_reducible refine gate_dst (N := 9) rfl ?_); refine be_ (N := 9) #[.int .i64 0, .int .i64 0, .int .i64 0, .int .i64 0, .slice none 0 0] 78 ?_; intro eA hg w9 hbox hb; have tB := am_ hg; have fA := am_ hbox; have fB := am_ (show w.heap.size ≤ eA from by rw [hg]; exact HB.out.size); have N29 := am_ (show aA ≠ eA from by rw [hg]; exact Nat.ne_of_lt (blk_lt cA.out)); have N49 := am_ (show bA ≠ eA from by rw [hg]; exact Nat.ne_of_lt (blk_lt dA.out)); replace HFR := am_ (Kd.F_below (Kd.F_elderB HFR.out eA (by rw [hg]; exact Nat.le_refl _)) hb); replace cA := am_ (blk_below cA.out hb); replace dA := am_ (blk_below dA.out hb); replace HB := am_ (below_step HB.out hb); clear hb hbox hg; obtain ⟨hcb_0, hcb_1, hcb_2, hcb_3, hcb_4, hfb_0, hfb_1, hfb_2, hfb_3, hfb_4⟩ := cf5_ fA.out) | ((with_reducible refine gate_store (t := 78) (p := 9) rfl ?_); refine store_event (t := 78) (p := 9) (v := ?vo_9) (w1 := (((((w9.setCell ⟨eA, 0, none⟩ (.int .i64 b0)).setCell ⟨eA, 1, none⟩ (.int .i64 b1)).setCell ⟨eA, 2, none⟩ (.int .i64 b2)).setCell ⟨eA, 3, none⟩ (.int .i64 b3)).setCell ⟨eA, 4, none⟩ (.slice tA b4.length uA))) ?hg ?ho ?hn ?hr ?_; (case ho => rfl); (case hg => rfl); (case hn => rfl); (case hr => first | (go_simp; done) | (go_simp; rfl)); intro bB hw_; have BKn := am_ (show bB.heap[eA]? = some (.cells #[.int .i64 b0, .int .i64 b1, .int .i64 b2, .int .i64 b3, .slice tA b4.length uA] 78 (0, 0)) from by rw [hw_]; exact blk_put (cs := #[.int .i64 b0, .int .i64 b1, .int .i64 b2, .int .i64 b3, .slice none 0 0]) (blk_put (cs := #[.int .i64 b0, .int .i64 b1, .int .i64 b2, .int .i64 0, .slice none 0 0]) (blk_put (cs := #[.int .i64 b0, .int .i64 b1, .int .i64 0, .int .i64 0, .slice none 0 0]) (blk_put (cs := #[.int .i64 b0, .int .i64 0, .int .i64 0, .int .i64 0, .slice none 0 0]) (blk_put (cs := #[.int .i64 0, .int .i64 0, .int .i64 0, .int .i64 0, .slice none 0 0]) fA.out 0 _ rfl) 1 _ rfl) 2 _ rfl) 3 _ rfl) 4 _ rfl); have gA := am_ (show bB.heap[aA]? = some (.cells #[.slice A0_0 l0_0.length c0_0, .slice A0_1 l0_1.length c0_1, .int .i64 a0_2] 33 (0, 0)) from by rw [hw_]; exact blk_far (blk_far (blk_far (blk_far (blk_far cA.out N29.out _) N29.out _) N29.out _) N29.out _) N29.out _); have hA := am_ (show bB.heap[bA]? = some (.cells #[.slice none 0 0, .slice none 0 0, .int .i64 0] 33 (0, 0)) from by rw [hw_]; exact blk_far (blk_far (blk_far (blk_far (blk_far dA.out N49.out _) N49.out _) N49.out _) N49.out _) N49.out _); have HBn := am_ (show Below w.heap.size w bB from by rw [hw_]; exact below_set (below_set (below_set (below_set (below_set HB.out fB.out) fB.out) fB.out) fB.out) fB.out); have HFn := am_ (show Kd.F Kd.string bB (fun k => (w.heap.size ≤ k ∧ k ≠ aA ∧ k ≠ bA) ∧ k ≠ eA) tA b4.length b4 from by rw [hw_]; exact Kd.F_far (p := ⟨eA, _, none⟩) (Kd.F_far (p := ⟨eA, _, none⟩) (Kd.F_far (p := ⟨eA, _, none⟩) (Kd.F_far (p := ⟨eA, _, none⟩) (Kd.F_far (p := ⟨eA, _, none⟩) HFR.out (fun _ hk => hk.2) _) (fun _ hk => hk.2) _) (fun _ hk => hk.2) _) (fun _ hk => hk.2) _) (fun _ hk => hk.2) _); clear hw_ cA kA dA fA HB HFR tB hcb_0 hcb_1 hcb_2 hcb_3 hcb_4 hfb_0 hfb_1 hfb_2 hfb_3 hfb_4; have cA := gA; have dA := hA; have fA := BKn; have HB := HBn; have HFR := HFn; clear gA hA BKn HBn HFn))
    clear hqb
    obtain ⟨hcp_0, hcp_1, hcp_2, hfp_0, hfp_1, hfp_2⟩ := cf3_ cA.out
    obtain ⟨hcb_0, hcb_1, hcb_2, hcb_3, hcb_4, hfb_0, hfb_1, hfb_2, hfb_3, hfb_4⟩ := cf5_ fA.out
    refine start_ (n := 9) (S := fun w' => w'.cell? ⟨aA, 1, none⟩ = some (.slice A0_1 l0_1.length c0_1) ∧ w'.cell? ⟨eA, 0, none⟩ = some (.int .i64 b0) ∧ w'.cell? ⟨eA, 1, none⟩ = some (.int .i64 b1) ∧ w'.cell? ⟨eA, 2, none⟩ = some (.int .i64 b2) ∧ w'.cell? ⟨eA, 3, none⟩ = some (.int .i64 b3) ∧ w'.cell? ⟨eA, 4, none⟩ = some (.slice tA b4.length uA)) (ds := [8]) #[false, false, false, false, false, false, false, false, false] (by kernel_rfl) rfl rfl ⟨hcp_1, hcb_0, hcb_1, hcb_2, hcb_3, hcb_4⟩ (fun hHeld => ?_)
    replace cA := am_ (blk_drew cA.out)
    replace dA := am_ (blk_drew dA.out)
    replace fA := am_ (blk_drew fA.out)
    replace HFR := am_ (Kd.F_drew HFR.out)
    replace HB := am_ (below_drew1 HB.out)
    clear hcp_0 hcp_1 hcp_2 hfp_0 hfp_1 hfp_2 hcb_0 hcb_1 hcb_2 hcb_3 hcb_4 hfb_0 hfb_1 hfb_2 hfb_3 hfb_4
    generalize bB.drew = wr at cA dA fA HFR HB hHeld ⊢
    have HBw := am_ (Below.refl wr.heap.size wr)
    have HH := am_ hHeld
    have HSr := am_ HB.out.size
    have HOK := am_ (show ∀ k_, wr.heap.size ≤ k_ → (fun k_ => (P0_1_ k_ ∧ k_ < w.heap.size) ∨ w.heap.size ≤ k_ ∧ k_ ≠ aA ∧ k_ ≠ bA) k_ from fun k_ hk => .inr ⟨Nat.le_trans HB.out.size hk, fun he => by have := blk_lt cA.out; omega, fun he => by have := blk_lt dA.out; omega⟩)
    have HVL := am_ (Kd.F_below (Kd.F_bound (Kd.V_F zA.out)) HB.out)
    have HEL := am_ (k78_mkF wr (fun k_ => (w.heap.size ≤ k_ ∧ k_ ≠ aA ∧ k_ ≠ bA) ∧ k_ < wr.heap.size) ⟨b0, b1, b2, b3, b4⟩ HLR.out (Kd.F_mono (Kd.F_bound HFR.out) (fun k_ hk => ⟨hk.1.1, hk.2⟩)))
    refine px_ 1 27 ?_
    refine tx_ 2 28 ?_
    refine tx_ 4 30 ?_
    refine join_ (σ := Value × Value × Value) 3 #[true, true, true, true, true, true, false, false, false] (fun s_ => [(26, s_.1), (29, s_.2.1), (31, s_.2.2)]) (fun s_ w' => (w'.cell? ⟨aA, 1, none⟩ = some (.slice A0_1 l0_1.length c0_1) ∧ w'.cell? ⟨eA, 0, none⟩ = some (.int .i64 b0) ∧ w'.cell? ⟨eA, 1, none⟩ = some (.int .i64 b1) ∧ w'.cell? ⟨eA, 2, none⟩ = some (.int .i64 b2) ∧ w'.cell? ⟨eA, 3, none⟩ = some (.int .i64 b3) ∧ w'.cell? ⟨eA, 4, none⟩ = some (.slice tA b4.length uA)) ∧ Kd.N k78 78 w' wr.heap.size (fun k_ => (P0_1_ k_ ∧ k_ < w.heap.size) ∨ w.heap.size ≤ k_ ∧ k_ ≠ aA ∧ k_ ≠ bA) s_.2.1 l0_1 ∧ Kd.N k78 78 w' wr.heap.size (fun k_ => (fun k_ => (P0_1_ k_ ∧ k_ < w.heap.size) ∨ w.heap.size ≤ k_ ∧ k_ ≠ aA ∧ k_ ≠ bA) k_ ∧ some k_ ≠ s_.2.1.ownBlock) s_.2.2 [⟨b0, b1, b2, b3, b4⟩] ∧ Below wr.heap.size wr w') ?_ ?_
    rotate_left
    · intro hCont
      refine two_ (i := 0) (j := 5) (Ni := some 26) (Nj := some 31) #[true, true, true, false, true, false, false, false, false] #[false, true, true, false, true, true, false, false, false] rfl rfl rfl rfl (by kernel_rfl) (by decide) (by decide) (fun K hK => ?_) (fun K hK => ?_)
      · skip
        refine Kd.N_lit_step k78 (w0 := wr) wr.heap.size 78 ?hg (N' := 26) ?hd (xs := ([] : List S78)) (inner := []) (ok := (fun k_ => (P0_1_ k_ ∧ k_ < w.heap.size) ∨ w.heap.size ≤ k_ ∧ k_ ≠ aA ∧ k_ ≠ bA)) (okp := fun _ => False) ?hr ?hp (fun _ hk => hk.elim) (HOK.out _ HBw.out.size) (Below.refl _ _) (Nat.le_refl _) (by simp) ?_
        (case hd => rfl)
        (case hg => rfl)
        (case hr => first | (go_simp; done) | (go_simp; rfl))
        (case hp => exact (Reps.none _ _))
        intro wA wa ho hb _ hnew_
        have lA := am_ (Kd.N_lower ho HBw.out.size)
        replace HBw := am_ (below_step HBw.out hb)
        clear ho hb hnew_
        refine hK.out _ _ (hc_ HH) fun hHeld => ?_
        clear hK K
        refine norm_ (a' := ?_) ?_ ?_
        rotate_left
        · show Act.put _ (some 26) _ = _
          simp only [Act.put, List.setIfInBounds_toArray, List.set_cons_zero, List.set_cons_succ, i64_w, i32_w]
          rfl
        refine two_ (i := 3) (j := 5) (Ni := some 29) (Nj := some 31) #[true, true, true, true, true, false, false, false, false] #[true, true, true, false, true, true, false, false, false] rfl rfl rfl rfl (by kernel_rfl) (by decide) (by decide) (fun K hK => ?_) (fun K hK => ?_)
        · skip
          refine Kd.N_append_rows_step k78 (w0 := wr) wr.heap.size (by rfl) (.tmp 26) (.tmp 28) 31 78 (.agg #[(.int .i64 0), (.int .i64 0), (.int .i64 0), (.int .i64 0), (.slice none 0 0)]) 56 rfl Try.underlying31 info78 rfl (by decide) (by omega) wA [] l0_1 A0_1 l0_1.length c0_1 (fun k_ => (P0_1_ k_ ∧ k_ < w.heap.size) ∨ w.heap.size ≤ k_ ∧ k_ ≠ aA ∧ k_ ≠ bA) (fun k_ => P0_1_ k_ ∧ k_ < w.heap.size) rfl rfl ?aO ?aR (fun k_ hk => ⟨.inl hk, fun he => by have := Kd.N_base lA.out k_ he.symm; have := hk.2; have := HSr.out; omega⟩) ?aF ?aB ?aS ?aL ?_
          (case aO => exact lA.out)
          (case aR => exact Kd.F_below HVL.out HBw.out)
          (case aF => exact fun k_ hk => HOK.out k_ (Nat.le_trans HBw.out.size hk))
          (case aB => exact HBw.out)
          (case aS => exact HBw.out.size)
          (case aL => have := gB.out; simp only [List.length_nil]; omega)
          intro xA wb ho hb hg_ hat_
          rw [List.nil_append] at ho
          have pA := am_ ho
          replace HBw := am_ hb
          clear ho hb hg_ hat_ lA
          refine hK.out _ _ (hc_ HH) fun hHeld => ?_
          clear hK K
          refine norm_ (a' := ?_) ?_ ?_
          rotate_left
          · show Act.put _ (some 29) _ = _
            simp only [Act.put, List.setIfInBounds_toArray, List.set_cons_zero, List.set_cons_succ, i64_w, i32_w]
            rfl
          refine ox_ 5 31 fun K hK => ?_
          refine Kd.N_lit_step k78 (w0 := wb) wb.heap.size 78 ?hg (N' := 31) ?hd (xs := ([⟨b0, b1, b2, b3, b4⟩] : List S78)) (inner := [.int .i64 b0, .int .i64 b1, .int .i64 b2, .int .i64 b3, .slice tA b4.length uA]) (ok := (fun k_ => (fun k_ => (P0_1_ k_ ∧ k_ < w.heap.size) ∨ w.heap.size ≤ k_ ∧ k_ ≠ aA ∧ k_ ≠ bA) k_ ∧ some k_ ≠ (xA : Value).ownBlock)) (okp := (fun k_ => (w.heap.size ≤ k_ ∧ k_ ≠ aA ∧ k_ ≠ bA) ∧ k_ < wr.heap.size)) ?hr ?hp (fun k_ hk => ⟨.inr hk.1, fun he => by have := Kd.N_base pA.out k_ he.symm; have := hk.2; omega⟩) ⟨HOK.out _ HBw.out.size, fun he => by have := Kd.N_lt pA.out _ he.symm; omega⟩ (Below.refl _ _) (Nat.le_refl _) (by simp) ?_
          (case hd => rfl)
          (case hg => rfl)
          (case hr => first | (go_simp; done) | (go_simp; rfl))
          (case hp => exact (Reps.none _ _).snoc (Kd.FK_below HEL.out HBw.out) rfl)
          intro cB we ho hb _ hnew_
          replace pA := am_ (Kd.N_below pA.out hb)
          have qA := am_ (Kd.N_lower ho HBw.out.size)
          replace HBw := am_ (below_step HBw.out hb)
          clear ho hb hnew_
          refine hK.out _ _ (hc_ HH) fun hHeld => ?_
          clear hK K
          refine norm_ (a' := ?_) ?_ ?_
          rotate_left
          · show Act.put _ (some 31) _ = _
            simp only [Act.put, List.setIfInBounds_toArray, List.set_cons_zero, List.set_cons_succ, i64_w, i32_w]
            rfl
          exact norm_ (by simp only [putAll, Act.put, List.setIfInBounds_toArray, List.set_cons_zero, List.set_cons_succ]) (hCont (wA, xA, cB) _ ⟨hHeld, pA.out, qA.out, HBw.out⟩)
        · skip
          refine Kd.N_lit_step k78 (w0 := wa) wa.heap.size 78 ?hg (N' := 31) ?hd (xs := ([⟨b0, b1, b2, b3, b4⟩] : List S78)) (inner := [.int .i64 b0, .int .i64 b1, .int .i64 b2, .int .i64 b3, .slice tA b4.length uA]) (ok := (fun k_ => (fun k_ => (P0_1_ k_ ∧ k_ < w.heap.size) ∨ w.heap.size ≤ k_ ∧ k_ ≠ aA ∧ k_ ≠ bA) k_ ∧ some k_ ≠ (wA : Value).ownBlock)) (okp := (fun k_ => (w.heap.size ≤ k_ ∧ k_ ≠ aA ∧ k_ ≠ bA) ∧ k_ < wr.heap.size)) ?hr ?hp (fun k_ hk => ⟨.inr hk.1, fun he => by have := Kd.N_base lA.out k_ he.symm; have := hk.2; omega⟩) ⟨HOK.out _ HBw.out.size, fun he => by have := Kd.N_lt lA.out _ he.symm; omega⟩ (Below.refl _ _) (Nat.le_refl _) (by simp) ?_
          (case hd => rfl)
          (case hg => rfl)
          (case hr => first | (go_simp; done) | (go_simp; rfl))
          (case hp => exact (Reps.none _ _).snoc (Kd.FK_below HEL.out HBw.out) rfl)
          intro cB wb ho hb _ hnew_
          replace lA := am_ (Kd.N_below lA.out hb)
          have qA := am_ (Kd.N_lower ho HBw.out.size)
          replace HBw := am_ (below_step HBw.out hb)
          clear ho hb hnew_
          refine hK.out _ _ (hc_ HH) fun hHeld => ?_
          clear hK K
          refine norm_ (a' := ?_) ?_ ?_
          rotate_left
          · show Act.put _ (some 31) _ = _
            simp only [Act.put, List.setIfInBounds_toArray, List.set_cons_zero, List.set_cons_succ, i64_w, i32_w]
            rfl
          refine ox_ 3 29 fun K hK => ?_
          refine Kd.N_append_rows_step k78 (w0 := wr) wr.heap.size (by rfl) (.tmp 26) (.tmp 28) 31 78 (.agg #[(.int .i64 0), (.int .i64 0), (.int .i64 0), (.int .i64 0), (.slice none 0 0)]) 56 rfl Try.underlying31 info78 rfl (by decide) (by omega) wA [] l0_1 A0_1 l0_1.length c0_1 (fun k_ => (P0_1_ k_ ∧ k_ < w.heap.size) ∨ w.heap.size ≤ k_ ∧ k_ ≠ aA ∧ k_ ≠ bA) (fun k_ => P0_1_ k_ ∧ k_ < w.heap.size) rfl rfl ?aO ?aR (fun k_ hk => ⟨.inl hk, fun he => by have := Kd.N_base lA.out k_ he.symm; have := hk.2; have := HSr.out; omega⟩) ?aF ?aB ?aS ?aL ?_
          (case aO => exact lA.out)
          (case aR => exact Kd.F_below HVL.out HBw.out)
          (case aF => exact fun k_ hk => HOK.out k_ (Nat.le_trans HBw.out.size hk))
          (case aB => exact HBw.out)
          (case aS => exact HBw.out.size)
          (case aL => have := gB.out; simp only [List.length_nil]; omega)
          intro xA we ho hb hg_ hat_
          rw [List.nil_append] at ho
          have pA := am_ ho
          replace qA := am_ (Kd.N_afterv qA.out hg_ hat_)
          replace HBw := am_ hb
          clear ho hb hg_ hat_ lA
          refine hK.out _ _ (hc_ HH) fun hHeld => ?_
          clear hK K
          refine norm_ (a' := ?_) ?_ ?_
          rotate_left
          · show Act.put _ (some 29) _ = _
            simp only [Act.put, List.setIfInBounds_toArray, List.set_cons_zero, List.set_cons_succ, i64_w, i32_w]
            rfl
          exact norm_ (by simp only [putAll, Act.put, List.setIfInBounds_toArray, List.set_cons_zero, List.set_cons_succ]) (hCont (wA, xA, cB) _ ⟨hHeld, pA.out, qA.out, HBw.out⟩)
      · skip
        refine Kd.N_lit_step k78 (w0 := wr) wr.heap.size 78 ?hg (N' := 31) ?hd (xs := ([⟨b0, b1, b2, b3, b4⟩] : List S78)) (inner := [.int .i64 b0, .int .i64 b1, .int .i64 b2, .int .i64 b3, .slice tA b4.length uA]) (ok := (fun k_ => (P0_1_ k_ ∧ k_ < w.heap.size) ∨ w.heap.size ≤ k_ ∧ k_ ≠ aA ∧ k_ ≠ bA)) (okp := (fun k_ => (w.heap.size ≤ k_ ∧ k_ ≠ aA ∧ k_ ≠ bA) ∧ k_ < wr.heap.size)) ?hr ?hp (fun k_ hk => .inr hk.1) (HOK.out _ HBw.out.size) (Below.refl _ _) (Nat.le_refl _) (by simp) ?_
        (case hd => rfl)
        (case hg => rfl)
        (case hr => first | (go_simp; done) | (go_simp; rfl))
        (case hp => exact (Reps.none _ _).snoc (Kd.FK_below HEL.out HBw.out) rfl)
        intro cB wa ho hb _ hnew_
        have qA := am_ (Kd.N_lower ho HBw.out.size)
        replace HBw := am_ (below_step HBw.out hb)
        clear ho hb hnew_
        refine hK.out _ _ (hc_ HH) fun hHeld => ?_
        clear hK K
        refine norm_ (a' := ?_) ?_ ?_
        rotate_left
        · show Act.put _ (some 31) _ = _
          simp only [Act.put, List.setIfInBounds_toArray, List.set_cons_zero, List.set_cons_succ, i64_w, i32_w]
          rfl
        refine ox_ 0 26 fun K hK => ?_
        refine Kd.N_lit_step k78 (w0 := wa) wa.heap.size 78 ?hg (N' := 26) ?hd (xs := ([] : List S78)) (inner := []) (ok := (fun k_ => (P0_1_ k_ ∧ k_ < w.heap.size) ∨ w.heap.size ≤ k_ ∧ k_ ≠ aA ∧ k_ ≠ bA)) (okp := fun _ => False) ?hr ?hp (fun _ hk => hk.elim) (HOK.out _ HBw.out.size) (Below.refl _ _) (Nat.le_refl _) (by simp) ?_
        (case hd => rfl)
        (case hg => rfl)
        (case hr => first | (go_simp; done) | (go_simp; rfl))
        (case hp => exact (Reps.none _ _))
        intro wA wb ho hb _ hnew_
        replace qA := am_ (Kd.N_elder' qA.out (Kd.N_base ho) hb)
        have lA := am_ (Kd.N_lower ho HBw.out.size)
        replace HBw := am_ (below_step HBw.out hb)
        clear ho hb hnew_
        refine hK.out _ _ (hc_ HH) fun hHeld => ?_
        clear hK K
        refine norm_ (a' := ?_) ?_ ?_
        rotate_left
        · show Act.put _ (some 26) _ = _
          simp only [Act.put, List.setIfInBounds_toArray, List.set_cons_zero, List.set_cons_succ, i64_w, i32_w]
          rfl
        refine ox_ 3 29 fun K hK => ?_
        refine Kd.N_append_rows_step k78 (w0 := wr) wr.heap.size (by rfl) (.tmp 26) (.tmp 28) 31 78 (.agg #[(.int .i64 0), (.int .i64 0), (.int .i64 0), (.int .i64 0), (.slice none 0 0)]) 56 rfl Try.underlying31 info78 rfl (by decide) (by omega) wA [] l0_1 A0_1 l0_1.length c0_1 (fun k_ => (P0_1_ k_ ∧ k_ < w.heap.size) ∨ w.heap.size ≤ k_ ∧ k_ ≠ aA ∧ k_ ≠ bA) (fun k_ => P0_1_ k_ ∧ k_ < w.heap.size) rfl rfl ?aO ?aR (fun k_ hk => ⟨.inl hk, fun he => by have := Kd.N_base lA.out k_ he.symm; have := hk.2; have := HSr.out; omega⟩) ?aF ?aB ?aS ?aL ?_
        (case aO => exact lA.out)
        (case aR => exact Kd.F_below HVL.out HBw.out)
        (case aF => exact fun k_ hk => HOK.out k_ (Nat.le_trans HBw.out.size hk))
        (case aB => exact HBw.out)
        (case aS => exact HBw.out.size)
        (case aL => have := gB.out; simp only [List.length_nil]; omega)
        intro xA we ho hb hg_ hat_
        rw [List.nil_append] at ho
        have pA := am_ ho
        replace qA := am_ (Kd.N_afterv qA.out hg_ hat_)
        replace HBw := am_ hb
        clear ho hb hg_ hat_ lA
        refine hK.out _ _ (hc_ HH) fun hHeld => ?_
        clear hK K
        refine norm_ (a' := ?_) ?_ ?_
        rotate_left
        · show Act.put _ (some 29) _ = _
          simp only [Act.put, List.setIfInBounds_toArray, List.set_cons_zero, List.set_cons_succ, i64_w, i32_w]
          rfl
        exact norm_ (by simp only [putAll, Act.put, List.setIfInBounds_toArray, List.set_cons_zero, List.set_cons_succ]) (hCont (wA, xA, cB) _ ⟨hHeld, pA.out, qA.out, HBw.out⟩)
    rintro ⟨wA, xA, cB⟩ we ⟨hS_, h0_, h1_, h2_⟩
    have pA := am_ h0_
    have qA := am_ h1_
    have HBe := am_ h2_
    have hHeld := hS_
    clear h0_ h1_ h2_ hS_ HBw
    refine norm_ (a' := ?_) ?_ ?_
    rotate_left
    · simp only [putAll, Act.put, List.setIfInBounds_toArray, List.set_cons_zero, List.set_cons_succ]
      rfl
    obtain ⟨uB, vB, wB⟩ := Kd.N_slice qA.out
    subst wB
    refine ox_ 6 32 fun K hK => ?_
    refine Kd.N_append_rows_step k78 (w0 := wr) wr.heap.size (by rfl) (.tmp 29) (.tmp 31) 31 78 (.agg #[(.int .i64 0), (.int .i64 0), (.int .i64 0), (.int .i64 0), (.slice none 0 0)]) 56 rfl Try.underlying31 info78 rfl (by decide) (by omega) xA l0_1 [⟨b0, b1, b2, b3, b4⟩] uB _ vB (fun k_ => (P0_1_ k_ ∧ k_ < w.heap.size) ∨ w.heap.size ≤ k_ ∧ k_ ≠ aA ∧ k_ ≠ bA) (fun k_ => (fun k_ => (P0_1_ k_ ∧ k_ < w.heap.size) ∨ w.heap.size ≤ k_ ∧ k_ ≠ aA ∧ k_ ≠ bA) k_ ∧ some k_ ≠ xA.ownBlock) rfl rfl ?aO ?aR (fun _ hk => hk) ?aF ?aB ?aS ?aL ?_
    (case aO => exact pA.out)
    (case aR => exact Kd.N_F qA.out)
    (case aF => exact fun k_ hk => HOK.out k_ (Nat.le_trans HBe.out.size hk))
    (case aB => exact HBe.out)
    (case aS => exact HBe.out.size)
    (case aL => have := gB.out; simp only [List.length_singleton]; omega)
    intro bC wf ho hb hg_ _
    rw [rB.out] at ho
    have jB := am_ (Kd.N_lower ho HB.out.size)
    have HBf := am_ hb
    clear ho hb hg_ pA qA HBe
    obtain ⟨iA, jA, xB⟩ := Kd.N_slice jB.out
    subst xB
    refine hK.out _ _ ⟨pw_cell_below HBf.out (blk_cell cA.out 1), pw_cell_below HBf.out (blk_cell fA.out 0), pw_cell_below HBf.out (blk_cell fA.out 1), pw_cell_below HBf.out (blk_cell fA.out 2), pw_cell_below HBf.out (blk_cell fA.out 3), pw_cell_below HBf.out (blk_cell fA.out 4)⟩ (fun hHeld => ?_)
    clear hK K
    refine norm_ (a' := ?_) ?_ ?_
    rotate_left
    · show Act.put _ (some 32) _ = _
      simp only [Act.put, List.setIfInBounds_toArray, List.set_cons_zero, List.set_cons_succ, i64_w, i32_w]
      rfl
    refine px_ 7 33 ?_
    refine last_ (i := 8) (N := none) #[true, true, true, true, true, true, true, true, true] rfl rfl (by kernel_rfl) (by decide) (fun K hK => ?_)
    have hs_ := hHeld.1
    have hfs_ : wf.frozen? ⟨aA, 1, none⟩ = false := blk_frozen (blk_below cA.out HBf.out) 1
    refine skip_ (w1 := ?_) (by rfl) rfl ?_ ?_
    rotate_left
    · go_simp
      rfl
    refine hK.out _ _ ?_
    clear hK K
    refine done_ (by kernel_rfl) ?_
    have HLOG := am_ (show Kd.N k78 78 (wf.setCell ⟨aA, 1, none⟩ (.slice iA r2.length jA)) w.heap.size (fun k_ => (P0_1_ k_ ∧ k_ < w.heap.size) ∨ w.heap.size ≤ k_ ∧ k_ ≠ aA ∧ k_ ≠ bA) (.slice iA r2.length jA) r2 from Kd.N_far (p := ⟨aA, 1, none⟩) jB.out (fun k_ hk => hk.elim (fun h_ he => by have := h_.2; have := oA.out; have : k_ = aA := he; omega) (fun h_ => h_.2.1)) _)
    have gA := am_ (show (wf.setCell ⟨aA, 1, none⟩ (.slice iA r2.length jA)).heap[aA]? = some (.cells #[.slice A0_0 l0_0.length c0_0, .slice iA r2.length jA, .int .i64 a0_2] 33 (0, 0)) from blk_put (cs := #[.slice A0_0 l0_0.length c0_0, .slice A0_1 l0_1.length c0_1, .int .i64 a0_2]) (blk_below cA.out HBf.out) 1 _ rfl)
    have hA := am_ (show (wf.setCell ⟨aA, 1, none⟩ (.slice iA r2.length jA)).heap[bA]? = some (.cells #[.slice none 0 0, .slice none 0 0, .int .i64 0] 33 (0, 0)) from blk_far (blk_below dA.out HBf.out) N42.out _)
    have rA := am_ (show (wf.setCell ⟨aA, 1, none⟩ (.slice iA r2.length jA)).heap[eA]? = some (.cells #[.int .i64 b0, .int .i64 b1, .int .i64 b2, .int .i64 b3, .slice tA b4.length uA] 78 (0, 0)) from blk_far (blk_below fA.out HBf.out) (Ne.symm N29.out) _)
    have HBn := am_ (show Below w.heap.size w (wf.setCell ⟨aA, 1, none⟩ (.slice iA r2.length jA)) from below_set (below_step HB.out HBf.out) oA.out)
    clear hHeld cA dA fA HB HBf jB HVL HEL HFR HOK HSr
    generalize wf.setCell ⟨aA, 1, none⟩ (.slice iA r2.length jA) = wz at HLOG gA hA rA HBn ⊢
    have cA := gA
    have dA := hA
    have fA := rA
    have HB := HBn
    clear gA hA rA HBn
    obtain ⟨hcp_0, hcp_1, hcp_2, hfp_0, hfp_1, hfp_2⟩ := cf3_ cA.out
    obtain ⟨hcb_0, hcb_1, hcb_2, hcb_3, hcb_4, hfb_0, hfb_1, hfb_2, hfb_3, hfb_4⟩ := cf5_ fA.out
    go_wp2_with fail
    refine start_ (n := 8) (S := fun w' => w'.cell? ⟨aA, 0, none⟩ = some (.slice A0_0 l0_0.length c0_0) ∧ w'.cell? ⟨eA, 0, none⟩ = some (.int .i64 b0) ∧ w'.cell? ⟨eA, 1, none⟩ = some (.int .i64 b1) ∧ w'.cell? ⟨eA, 2, none⟩ = some (.int .i64 b2) ∧ w'.cell? ⟨eA, 3, none⟩ = some (.int .i64 b3) ∧ w'.cell? ⟨eA, 4, none⟩ = some (.slice tA b4.length uA)) (ds := [7]) #[false, false, false, false, false, false, false, false] (by kernel_rfl) rfl rfl ⟨hcp_0, hcb_0, hcb_1, hcb_2, hcb_3, hcb_4⟩ (fun hHeld => ?_)
    replace cA := am_ (blk_drew cA.out)
    replace dA := am_ (blk_drew dA.out)
    replace fA := am_ (blk_drew fA.out)
    replace HLOG := am_ (Kd.N_drew HLOG.out)
    replace HB := am_ (below_drew1 HB.out)
    clear hcp_0 hcp_1 hcp_2 hfp_0 hfp_1 hfp_2 hcb_0 hcb_1 hcb_2 hcb_3 hcb_4 hfb_0 hfb_1 hfb_2 hfb_3 hfb_4
    generalize wz.drew = wr at cA dA fA HLOG HB hHeld ⊢
    have HBw := am_ (Below.refl wr.heap.size wr)
    have HH := am_ hHeld
    have HSr := am_ HB.out.size
    have HOK := am_ (show ∀ k_, wr.heap.size ≤ k_ → (fun k_ => (P0_0_ k_ ∧ k_ < w.heap.size) ∨ w.heap.size ≤ k_ ∧ k_ ≠ aA ∧ k_ ≠ bA) k_ from fun k_ hk => .inr ⟨Nat.le_trans HB.out.size hk, fun he => by have := blk_lt cA.out; omega, fun he => by have := blk_lt dA.out; omega⟩)
    have HVP := am_ (Kd.F_below (Kd.F_bound (Kd.V_F yA.out)) HB.out)
    refine px_ 1 35 ?_
    refine tx_ 2 36 ?_
    refine tx_ 4 38 ?_
    refine ox_ 0 34 fun K hK => ?_
    refine Kd.N_lit_step k81 (w0 := wr) wr.heap.size 81 ?hg (N' := 34) ?hd (xs := ([] : List S81)) (inner := []) (ok := (fun k_ => (P0_0_ k_ ∧ k_ < w.heap.size) ∨ w.heap.size ≤ k_ ∧ k_ ≠ aA ∧ k_ ≠ bA)) (okp := fun _ => False) ?hr ?hp (fun _ hk => hk.elim) (HOK.out _ (Nat.le_refl _)) (Below.refl _ _) (Nat.le_refl _) (by simp) ?_
    (case hd => rfl)
    (case hg => rfl)
    (case hr => first | (go_simp; done) | (go_simp; rfl))
    (case hp => exact (Reps.none _ _))
    intro yB wa ho hb _ hnew_
    have lA := am_ ho
    replace HBw := am_ hb
    clear ho hb hnew_
    refine hK.out _ _ (hc_ HH) fun hHeld => ?_
    clear hK K
    refine norm_ (a' := ?_) ?_ ?_
    rotate_left
    · show Act.put _ (some 34) _ = _
      simp only [Act.put, List.setIfInBounds_toArray, List.set_cons_zero, List.set_cons_succ, i64_w, i32_w]
      rfl
    refine ox_ 3 37 fun K hK => ?_
    refine Kd.N_append_rows_step k81 (w0 := wr) wr.heap.size (by rfl) (.tmp 34) (.tmp 36) 30 81 (.agg #[(.int .i64 0), (.int .i64 0), (.int .i64 0), (.slice none 0 0)]) 48 rfl Try.underlying30 info81 rfl (by decide) (by omega) yB [] l0_0 A0_0 l0_0.length c0_0 (fun k_ => (P0_0_ k_ ∧ k_ < w.heap.size) ∨ w.heap.size ≤ k_ ∧ k_ ≠ aA ∧ k_ ≠ bA) (fun k_ => P0_0_ k_ ∧ k_ < w.heap.size) rfl rfl ?aO ?aR (fun k_ hk => ⟨.inl hk, fun he => by have := Kd.N_base lA.out k_ he.symm; have := hk.2; have := HSr.out; omega⟩) ?aF ?aB ?aS ?aL ?_
    (case aO => exact lA.out)
    (case aR => exact Kd.F_below HVP.out HBw.out)
    (case aF => exact fun k_ hk => HOK.out k_ (Nat.le_trans HBw.out.size hk))
    (case aB => exact HBw.out)
    (case aS => exact HBw.out.size)
    (case aL => have := sB.out; simp only [List.length_nil]; omega)
    intro pB wb ho hb hg_ hat_
    rw [List.nil_append] at ho
    have pA := am_ ho
    replace HBw := am_ hb
    clear ho hb hg_ hat_ lA
    refine hK.out _ _ (hc_ HH) fun hHeld => ?_
    clear hK K
    refine norm_ (a' := ?_) ?_ ?_
    rotate_left
    · show Act.put _ (some 37) _ = _
      simp only [Act.put, List.setIfInBounds_toArray, List.set_cons_zero, List.set_cons_succ, i64_w, i32_w]
      rfl
    refine ox_ 5 39 fun K hK => ?_
    refine gs_ Try.func84 #[pB, .agg #[.int .i64 b0, .int .i64 b1, .int .i64 b2, .int .i64 b3, .slice tA b4.length uA]] rfl ma_ ?_
    refine (spec_l5Add.calls k wr.heap.size (fun k_ => (P0_0_ k_ ∧ k_ < w.heap.size) ∨ w.heap.size ≤ k_ ∧ k_ ≠ aA ∧ k_ ≠ bA) pB l0_0 b0 b1 b2 b3 tA uA b4 ps _ pA.out (fun k_ hk => HOK.out k_ (Nat.le_trans HBw.out.size hk)) HBw.out.size AP.out).mono ?_
    rintro e_ wd ⟨cC, rfl, ho, hg_, hat_⟩
    refine ⟨_, rfl, ?_⟩
    have HBd := am_ (Below.grown HBw.out hg_ HBw.out.size (Kd.N_base pA.out))
    have kB := am_ (Kd.N_lower ho HSr.out)
    clear ho hg_ hat_ pA HBw
    obtain ⟨mA, nA, zB⟩ := Kd.N_slice kB.out
    subst zB
    refine hK.out _ _ ⟨pw_cell_below HBd.out (blk_cell cA.out 0), pw_cell_below HBd.out (blk_cell fA.out 0), pw_cell_below HBd.out (blk_cell fA.out 1), pw_cell_below HBd.out (blk_cell fA.out 2), pw_cell_below HBd.out (blk_cell fA.out 3), pw_cell_below HBd.out (blk_cell fA.out 4)⟩ (fun hHeld => ?_)
    clear hK K
    refine norm_ (a' := ?_) ?_ ?_
    rotate_left
    · show Act.put _ (some 39) _ = _
      simp only [Act.put, List.setIfInBounds_toArray, List.set_cons_zero, List.set_cons_succ, i64_w, i32_w]
      rfl
    refine px_ 6 40 ?_
    refine last_ (i := 7) (N := none) #[true, true, true, true, true, true, true, true] rfl rfl (by kernel_rfl) (by decide) (fun K hK => ?_)
    have hs_ := hHeld.1
    have hfs_ : wd.frozen? ⟨aA, 0, none⟩ = false := blk_frozen (blk_below cA.out HBd.out) 0
    refine skip_ (w1 := ?_) (by rfl) rfl ?_ ?_
    rotate_left
    · go_simp
      rfl
    refine hK.out _ _ ?_
    clear hK K
    refine done_ (by kernel_rfl) ?_
    have HLOGn := am_ (show Kd.N k78 78 (wd.setCell ⟨aA, 0, none⟩ (.slice mA ps.length nA)) w.heap.size (fun k_ => (P0_1_ k_ ∧ k_ < w.heap.size) ∨ w.heap.size ≤ k_ ∧ k_ ≠ aA ∧ k_ ≠ bA) (.slice iA r2.length jA) r2 from Kd.N_far (p := ⟨aA, 0, none⟩) (Kd.N_below HLOG.out HBd.out) (fun k_ hk => hk.elim (fun h_ he => by have := h_.2; have := oA.out; have : k_ = aA := he; omega) (fun h_ => h_.2.1)) _)
    have HPROD := am_ (show Kd.N k81 81 (wd.setCell ⟨aA, 0, none⟩ (.slice mA ps.length nA)) w.heap.size (fun k_ => (P0_0_ k_ ∧ k_ < w.heap.size) ∨ w.heap.size ≤ k_ ∧ k_ ≠ aA ∧ k_ ≠ bA) (.slice mA ps.length nA) ps from Kd.N_far (p := ⟨aA, 0, none⟩) kB.out (fun k_ hk => hk.elim (fun h_ he => by have := h_.2; have := oA.out; have : k_ = aA := he; omega) (fun h_ => h_.2.1)) _)
    have gA := am_ (show (wd.setCell ⟨aA, 0, none⟩ (.slice mA ps.length nA)).heap[aA]? = some (.cells #[.slice mA ps.length nA, .slice iA r2.length jA, .int .i64 a0_2] 33 (0, 0)) from blk_put (cs := #[.slice A0_0 l0_0.length c0_0, .slice iA r2.length jA, .int .i64 a0_2]) (blk_below cA.out HBd.out) 0 _ rfl)
    have hA := am_ (show (wd.setCell ⟨aA, 0, none⟩ (.slice mA ps.length nA)).heap[bA]? = some (.cells #[.slice none 0 0, .slice none 0 0, .int .i64 0] 33 (0, 0)) from blk_far (blk_below dA.out HBd.out) N42.out _)
    have rA := am_ (show (wd.setCell ⟨aA, 0, none⟩ (.slice mA ps.length nA)).heap[eA]? = some (.cells #[.int .i64 b0, .int .i64 b1, .int .i64 b2, .int .i64 b3, .slice tA b4.length uA] 78 (0, 0)) from blk_far (blk_below fA.out HBd.out) (Ne.symm N29.out) _)
    have HBn := am_ (show Below w.heap.size w (wd.setCell ⟨aA, 0, none⟩ (.slice mA ps.length nA)) from below_set (below_step HB.out HBd.out) oA.out)
    clear hHeld cA dA fA HB HBd kB HVP HOK HSr HLOG
    generalize wd.setCell ⟨aA, 0, none⟩ (.slice mA ps.length nA) = wy at HLOGn HPROD gA hA rA HBn ⊢
    have cA := gA
    have dA := hA
    have fA := rA
    have HB := HBn
    have HLOG := HLOGn
    clear gA hA rA HBn HLOGn
    obtain ⟨hcp_0, hcp_1, hcp_2, hfp_0, hfp_1, hfp_2⟩ := cf3_ cA.out
    obtain ⟨hcb_0, hcb_1, hcb_2, hcb_3, hcb_4, hfb_0, hfb_1, hfb_2, hfb_3, hfb_4⟩ := cf5_ fA.out
    have hnx' := HR3E.out
    go_upto_region 8 with fail
    rw [hnx']
    have HLOGn := am_ (show Kd.N k78 78 (wy.setCell ⟨aA, 2, none⟩ (.int .i64 r3)) w.heap.size (fun k_ => (P0_1_ k_ ∧ k_ < w.heap.size) ∨ w.heap.size ≤ k_ ∧ k_ ≠ aA ∧ k_ ≠ bA) (.slice iA r2.length jA) r2 from Kd.N_far (p := ⟨aA, 2, none⟩) HLOG.out (fun k_ hk => hk.elim (fun h_ he => by have := h_.2; have := oA.out; have : k_ = aA := he; omega) (fun h_ => h_.2.1)) _)
    have HPRODn := am_ (show Kd.N k81 81 (wy.setCell ⟨aA, 2, none⟩ (.int .i64 r3)) w.heap.size (fun k_ => (P0_0_ k_ ∧ k_ < w.heap.size) ∨ w.heap.size ≤ k_ ∧ k_ ≠ aA ∧ k_ ≠ bA) (.slice mA ps.length nA) ps from Kd.N_far (p := ⟨aA, 2, none⟩) HPROD.out (fun k_ hk => hk.elim (fun h_ he => by have := h_.2; have := oA.out; have : k_ = aA := he; omega) (fun h_ => h_.2.1)) _)
    have gA := am_ (show (wy.setCell ⟨aA, 2, none⟩ (.int .i64 r3)).heap[aA]? = some (.cells #[.slice mA ps.length nA, .slice iA r2.length jA, .int .i64 r3] 33 (0, 0)) from blk_put (cs := #[.slice mA ps.length nA, .slice iA r2.length jA, .int .i64 a0_2]) cA.out 2 _ rfl)
    have hA := am_ (show (wy.setCell ⟨aA, 2, none⟩ (.int .i64 r3)).heap[bA]? = some (.cells #[.slice none 0 0, .slice none 0 0, .int .i64 0] 33 (0, 0)) from blk_far dA.out N42.out _)
    have HBn := am_ (show Below w.heap.size w (wy.setCell ⟨aA, 2, none⟩ (.int .i64 r3)) from below_set HB.out oA.out)
    clear hnx' cA dA fA HB HLOG HPROD hcp_0 hcp_1 hcp_2 hfp_0 hfp_1 hfp_2 hcb_0 hcb_1 hcb_2 hcb_3 hcb_4 hfb_0 hfb_1 hfb_2 hfb_3 hfb_4
    generalize wy.setCell ⟨aA, 2, none⟩ (.int .i64 r3) = wx at HLOGn HPRODn gA hA HBn ⊢
    have cA := gA
    have dA := hA
    have HB := HBn
    have HLOG := HLOGn
    have HPROD := HPRODn
    clear gA hA HBn HLOGn HPRODn
    obtain ⟨hcp_0, hcp_1, hcp_2, hfp_0, hfp_1, hfp_2⟩ := cf3_ cA.out
    obtain ⟨hcr_0, hcr_1, hcr_2, hfr_0, hfr_1, hfr_2⟩ := cf3_ dA.out
    go_wp2_with (first | ((with_reducible refine gate_store (t := 33) (p := 4) rfl ?_); refine store_event (t := 33) (p := 4) (v := ?vo_44) (w1 := (((wx.setCell ⟨bA, 0, none⟩ (.slice mA ps.length nA)).setCell ⟨bA, 1, none⟩ (.slice iA r2.length jA)).setCell ⟨bA, 2, none⟩ (.int .i64 r3))) ?hg ?ho ?hn ?hr ?_; (case ho => rfl); (case hg => rfl); (case hn => rfl); (case hr => first | (go_simp; done) | (go_simp; rfl)); intro wv hw_; have BKn := am_ (show wv.heap[bA]? = some (.cells #[.slice mA ps.length nA, .slice iA r2.length jA, .int .i64 r3] 33 (0, 0)) from by rw [hw_]; exact blk_put (cs := #[.slice mA ps.length nA, .slice iA r2.length jA, .int .i64 0]) (blk_put (cs := #[.slice mA ps.length nA, .slice none 0 0, .int .i64 0]) (blk_put (cs := #[.slice none 0 0, .slice none 0 0, .int .i64 0]) dA.out 0 _ rfl) 1 _ rfl) 2 _ rfl); have HBn := am_ (show Below w.heap.size w wv from by rw [hw_]; exact below_set (below_set (below_set HB.out sA.out) sA.out) sA.out); have HLn := am_ (show Kd.N k78 78 wv w.heap.size (fun k_ => (P0_1_ k_ ∧ k_ < w.heap.size) ∨ w.heap.size ≤ k_ ∧ k_ ≠ aA ∧ k_ ≠ bA) (.slice iA r2.length jA) r2 from by rw [hw_]; exact Kd.N_far (p := ⟨bA, 2, none⟩) (Kd.N_far (p := ⟨bA, 1, none⟩) (Kd.N_far (p := ⟨bA, 0, none⟩) HLOG.out (fun k_ hk => hk.elim (fun h_ he => by have := h_.2; have := sA.out; have : k_ = bA := he; omega) (fun h_ => h_.2.2)) _) (fun k_ hk => hk.elim (fun h_ he => by have := h_.2; have := sA.out; have : k_ = bA := he; omega) (fun h_ => h_.2.2)) _) (fun k_ hk => hk.elim (fun h_ he => by have := h_.2; have := sA.out; have : k_ = bA := he; omega) (fun h_ => h_.2.2)) _); have HPn := am_ (show Kd.N k81 81 wv w.heap.size (fun k_ => (P0_0_ k_ ∧ k_ < w.heap.size) ∨ w.heap.size ≤ k_ ∧ k_ ≠ aA ∧ k_ ≠ bA) (.slice mA ps.length nA) ps from by rw [hw_]; exact Kd.N_far (p := ⟨bA, 2, none⟩) (Kd.N_far (p := ⟨bA, 1, none⟩) (Kd.N_far (p := ⟨bA, 0, none⟩) HPROD.out (fun k_ hk => hk.elim (fun h_ he => by have := h_.2; have := sA.out; have : k_ = bA := he; omega) (fun h_ => h_.2.2)) _) (fun k_ hk => hk.elim (fun h_ he => by have := h_.2; have := sA.out; have : k_ = bA := he; omega) (fun h_ => h_.2.2)) _) (fun k_ hk => hk.elim (fun h_ he => by have := h_.2; have := sA.out; have : k_ = bA := he; omega) (fun h_ => h_.2.2)) _); clear hw_))
    refine bodyPost_ret (results_ctt rfl _ _ bA 33 #[.slice mA ps.length nA, .slice iA r2.length jA, .int .i64 r3] (0, 0) _ rfl BKn.out Try.underlying33 rfl (by kernel_rfl)) rfl ?_
    exact ⟨_, _, er_, Kd.V_mono (Kd.N_V HPn.out) (fun _ hk => hk.elim (fun h_ => .inl (.inl h_.1)) (fun h_ => .inr h_.1)), Kd.V_mono (Kd.N_V HLn.out) (fun _ hk => hk.elim (fun h_ => .inl (.inr h_.1)) (fun h_ => .inr h_.1)), HBn.out⟩



/-! ### spec_l5Rebuild: function 67 -/
def spec_l5Rebuild.l0 : Nat → List (S78) → Int → Int → List (S81) → List (S78) → Int → Option ((List (S81)) × (List (S78)) × Int × Bool)
 | 0, _, _, _, _, _, _ => none
 | k + 1, x11, x12, x13, x254000, x254001, x254002 => if x13 < x12 then (if 0 ≤ x13 then (if x13 < (x11.length : Int) then ((spec_l5Ask.f k x254000 x254001 x254002 ((rd_T78 x11 x13).f2) ((rd_T78 x11 x13).f1) ((rd_T78 x11 x13).f3) ((rd_T78 x11 x13).f4)).bind fun bt256 => ((spec_GoodBatch.f k ((rd_T78 x11 x13).f0) ((rd_T78 x11 x13).f1) ((rd_T78 x11 x13).f2) ((rd_T78 x11 x13).f3) ((rd_T78 x11 x13).f4)).bind fun t266 => (if t266 = true then (if bt256.2.2.2.1 = 0 then (if ((rd_T78 x11 x13).f0) = x254002 then (spec_l5Rebuild.l0 k x11 x12 (wrap64 (x13 + 1)) bt256.1 bt256.2.1 bt256.2.2.1) else (some (([] : List (S81)), ([] : List (S78)), 0, false))) else (some (([] : List (S81)), ([] : List (S78)), 0, false))) else (some (([] : List (S81)), ([] : List (S78)), 0, false))))) else (none)) else (none)) else (some (x254000, x254001, x254002, true))
def spec_l5Rebuild.f (k : Nat) (l0 : List (S78)) : Option ((List (S81)) × (List (S78)) × Int × Bool) := spec_l5Rebuild.l0 k l0 (l0.length : Int) 0 ([] : List (S81)) ([] : List (S78)) 0
theorem spec_l5Rebuild.mono_l : ∀ k, (∀ y0 y1 y2 y3 y4 y5, LeO (spec_l5Rebuild.l0 k y0 y1 y2 y3 y4 y5) (spec_l5Rebuild.l0 (k + 1) y0 y1 y2 y3 y4 y5))
 | 0 => fun _ _ _ _ _ _ r h => by simp [spec_l5Rebuild.l0] at h
 | k + 1 => by
  have ih0 := spec_l5Rebuild.mono_l k
  ·intro y0 y1 y2 y3 y4 y5
   unfold spec_l5Rebuild.l0
   repeat' first
   | (with_reducible first | apply ih0 | apply spec_GoodBatch.mono | apply spec_l5Ask.mono | exact LeO.refl _ | exact LeO.none _ | refine LeO.ite ?_ ?_ | refine LeO.bind ?_ (fun _ => ?_))
theorem spec_l5Rebuild.mono : ∀ a0 k, LeO (spec_l5Rebuild.f k a0) (spec_l5Rebuild.f (k + 1) a0) := by
 intro a0 k
 have ih0 := spec_l5Rebuild.mono_l k
 unfold spec_l5Rebuild.f
 repeat' first
   | (with_reducible first | apply ih0 | apply spec_GoodBatch.mono | apply spec_l5Ask.mono | exact LeO.refl _ | exact LeO.none _ | refine LeO.ite ?_ ?_ | refine LeO.bind ?_ (fun _ => ?_))
set_option maxHeartbeats 8000000 in
set_option maxRecDepth 100000 in
theorem spec_l5Rebuild.calls (k : Nat) (A0 : Option Addr) (c0 : Nat) (l0 : List (S78)) (r1 : List (S81)) (r2 : List (S78)) (r3 : Int) (r4 : Bool) (w : World) (hr0 : Kd.C k78 w A0 l0.length l0) (hc0 : l0.length ≤ c0) (h : spec_l5Rebuild.f k l0 = some (r1, r2, r3, r4)) :
  Calls Try.prog 67 #[.slice A0 l0.length c0] w fun e w' => ∃ v0_ v1_ : Value, e = .returned (.tuple #[.agg #[v0_, v1_, .int .i64 r3], .bool r4]) ∧ Kd.V k81 81 w' w.heap.size (fun k_ => (w.heap.size ≤ k_)) v0_ r1 ∧ Kd.V k78 78 w' w.heap.size (fun k_ => (w.heap.size ≤ k_)) v1_ r2 ∧ Below w.heap.size w w' := by
 have hu33 := Try.underlying33
 have hu78 := Try.underlying78
 have hu57 := Try.underlying57
 have qE := am_ hr0
 have tQ := am_ hc0
 clear hr0 hc0
 have HB := am_ (Below.refl w.heap.size w)
 have H : (spec_l5Rebuild.l0 k l0 (l0.length : Int) 0 ([] : List (S81)) ([] : List (S78)) 0) = some (r1, r2, r3, r4) := h
 clear h
 have H' := am_ H
 clear H
 go_enter Try.func67, Try.ntmps67
 go_wp2_with (first | ((with_reducible refine gate_dst (N := 2) rfl ?_); refine bq_ (N := 2) #[.slice none 0 0, .slice none 0 0, .int .i64 0] 33 ?_; intro mA hg w2 dA hb; have kA := ge_ hg; replace HB := nb_ hb; clear hb hg) | ((with_reducible refine gate_dst (N := 4) rfl ?_); refine bq_ (N := 4) #[.slice none 0 0, .slice none 0 0, .int .i64 0] 33 ?_; intro pA hg w3 eA hb; have lA := ge1_ hg kA; replace HB := nc_ kA hb; have bB := nl_ dA hg; have tB := ng_ dA hg; replace dA := bK_ dA hb; clear hb hg; have iQ := tB.out; have jQ := bB.out; obtain ⟨wC, xC, yC, zC, aD, bD⟩ := cf3_ eA.out))
 go_loopg [13] k (fun kq kQ w' => ∃ (aA : Int) (oA : Int) (iA : List (S81)) (jA : List (S78)) (gA : Int) (cB : Value) (dB : Value), kQ = .int .i64 aA ∧ Aside0 (spec_l5Rebuild.l0 kq l0 (l0.length : Int) aA iA jA gA = some (r1, r2, r3, r4)) ∧ Aside0 (kq ≤ k) ∧ Aside0 (Kd.V k81 81 w' w.heap.size (fun k_ => (w.heap.size ≤ k_) ∧ k_ ≠ mA ∧ k_ ≠ pA) cB iA) ∧ Aside0 (Kd.V k78 78 w' w.heap.size (fun k_ => (w.heap.size ≤ k_) ∧ k_ ≠ mA ∧ k_ ≠ pA) dB jA) ∧ Aside0 (w'.heap[mA]? = some (.cells #[(.slice none 0 0), (.slice none 0 0), .int .i64 oA] 33 (0, 0))) ∧ Aside0 (w'.heap[pA]? = some (.cells #[cB, dB, .int .i64 gA] 33 (0, 0))) ∧ Aside0 (Below w.heap.size w w'))
 case atStart => exact ⟨(0), (0), (([] : List (S81))), (([] : List (S78))), (0), (.slice none 0 0), (.slice none 0 0), sr_, H', ⟨Nat.le_refl _⟩, ⟨Kd.V_nil _ _ _ _ _⟩, ⟨Kd.V_nil _ _ _ _ _⟩, ⟨uf_ dA bB.out⟩, ⟨up_ eA⟩, ⟨hs2_ kA.out lA.out⟩⟩
 case round =>
  clear H'
  try clear wC
  try clear xC
  try clear yC
  try clear zC
  try clear aD
  try clear bD
  obtain ⟨aA, oA, iA, jA, gA, cB, dB, rfl, HA, lO, bA, cA, dA, eA, HB⟩ := hrel
  cases gk with
  | zero => exact absurd HA.out (by simp [spec_l5Rebuild.l0])
  | succ k1 =>
   have H := HA.out
   clear HA
   simp only [spec_l5Rebuild.l0] at H
   replace H := ite_ H
   obtain ⟨c6, H⟩ | ⟨c6, H⟩ := H
   rotate_left
   ·have fN := decide_eq_false c6
    clear c6
    simp only [Option.some.injEq, Prod.mk.injEq] at H
    obtain ⟨rfl, rfl, rfl, rfl⟩ := H
    have gN := tB.out
    have hN := bB.out
    obtain ⟨kD, lD, mD, nD, oD, pD⟩ := cf3_ eA.out
    obtain ⟨qD, rD, sD⟩ := Kd.V_slice bA.out
    subst sD
    obtain ⟨tD, uD, vD, wD, xD, yD⟩ := cf3_ dA.out
    obtain ⟨zD, aE, bE⟩ := Kd.V_slice cA.out
    subst bE
    go_wp2
    refine bodyPost_ret (results_ct rfl _ _ mA 33 #[.slice qD iA.length rD, .slice zD jA.length aE, .int .i64 gA] (0, 0) _ rfl (up_ dA) Try.underlying33 rfl (by kernel_rfl)) rfl ?_
    exact ⟨_, _, er_, Kd.V_mono (vF_ (Kd.V_mono bA.out (fun k_ hk => (⟨hk, hk.2.1⟩ : _ ∧ k_ ≠ mA)))) (fun _ hk => hk.1.1), Kd.V_mono (vF_ (Kd.V_mono cA.out (fun k_ hk => (⟨hk, hk.2.1⟩ : _ ∧ k_ ≠ mA)))) (fun _ hk => hk.1.1), hs2_ kA.out lA.out⟩
   have fN := decide_eq_true c6
   clear c6
   replace H := ifs_ H
   obtain ⟨c7, H⟩ := H
   have lQ := decide_eq_true c7
   clear c7
   replace H := ifs_ H
   obtain ⟨c8, H⟩ := H
   have mQ := decide_eq_true c8
   clear c8
   replace H := bnd_ H
   obtain ⟨⟨xB, yB, zB, aC, fC⟩, A9, H⟩ := H
   replace H := red_ H
   replace H := bnd_ H
   obtain ⟨nQ, rE, H⟩ := H
   replace H := ifb_ H
   obtain ⟨rfl, H⟩ | ⟨rfl, H⟩ := H
   rotate_left
   ·simp only [Option.some.injEq, Prod.mk.injEq] at H
    obtain ⟨rfl, rfl, rfl, rfl⟩ := H
    have vB : 0 ≤ (aA : Int) := oa_
    have wB : aA < (l0.length : Int) := oa_
    obtain ⟨cC, qA, rA, bC, eB, fB, gB, hB, iB, jB, kB⟩ := at_T78 qE.out aA vB wB
    cases bC
    replace eB := pc_ HB.out eB
    replace fB := pc_ HB.out fB
    replace gB := pc_ HB.out gB
    replace hB := pc_ HB.out hB
    replace iB := pc_ HB.out iB
    have lB := am_ kB
    have mB := am_ jB
    clear kB jB
    replace vB := eq_true vB
    replace wB := eq_true wB
    go_wp2_with (first | ((with_reducible refine gate_dst (N := 6) rfl ?_); refine bq_ (N := 6) #[.int .i64 0, .int .i64 0, .int .i64 0, .int .i64 0, .slice none 0 0] 78 ?_; intro fA hg oQ hA hb; replace bA := am_ (Kd.V_below (Kd.V_elderB (vF_ bA.out) fA (Nat.le_of_eq hg.symm)) hb); replace cA := am_ (Kd.V_below (Kd.V_elderB (vF_ cA.out) fA (Nat.le_of_eq hg.symm)) hb); have nA := ge2_ hg kA lA; replace HB := nc2_ kA lA hb; have tA := nl_ dA hg; have nB := ng_ dA hg; replace dA := bK_ dA hb; have uA := nl_ eA hg; have oB := ng_ eA hg; replace eA := bK_ eA hb; clear hb hg; have mO := nB.out; have nO := tA.out; have oO := oB.out; have pO := uA.out; obtain ⟨sE, tE, uE, vE, wE, xE, yE, zE, bF, cF⟩ := cf5_ hA.out) | ((with_reducible refine gate_store (t := 78) (p := 6) rfl ?_); refine store_event (t := 78) (p := 6) (v := ?vo_w85) (w1 := (((((oQ.setCell ⟨fA, 0, none⟩ (.int .i64 ((rd_T78 l0 aA).f0))).setCell ⟨fA, 1, none⟩ (.int .i64 ((rd_T78 l0 aA).f1))).setCell ⟨fA, 2, none⟩ (.int .i64 ((rd_T78 l0 aA).f2))).setCell ⟨fA, 3, none⟩ (.int .i64 ((rd_T78 l0 aA).f3))).setCell ⟨fA, 4, none⟩ (.slice qA ((rd_T78 l0 aA).f4).length rA))) ?hg ?ho ?hn ?hr ?_; (case ho => rfl); (case hg => rfl); (case hn => rfl); (case hr => first | (go_simp; done) | (go_simp; rfl)); intro eD hw; have n0_ : Aside0 (Kd.V k81 81 eD w.heap.size (fun k_ => (w.heap.size ≤ k_) ∧ k_ ≠ mA ∧ k_ ≠ pA ∧ k_ ≠ fA) cB iA) := ⟨(by rw [hw]; exact (Kd.V_mono (vF_ (Kd.V_mono bA.out (fun k_ hk => (⟨hk, hk.2⟩ : _ ∧ k_ ≠ fA)))) (fun _ hk => ⟨hk.1.1.1, ⟨hk.1.1.2.1, ⟨hk.1.1.2.2, hk.1.2⟩⟩⟩)))⟩; have n1_ : Aside0 (Kd.V k78 78 eD w.heap.size (fun k_ => (w.heap.size ≤ k_) ∧ k_ ≠ mA ∧ k_ ≠ pA ∧ k_ ≠ fA) dB jA) := ⟨(by rw [hw]; exact (Kd.V_mono (vF_ (Kd.V_mono cA.out (fun k_ hk => (⟨hk, hk.2⟩ : _ ∧ k_ ≠ fA)))) (fun _ hk => ⟨hk.1.1.1, ⟨hk.1.1.2.1, ⟨hk.1.1.2.2, hk.1.2⟩⟩⟩)))⟩; have n2_ : Aside0 (eD.heap[mA]? = some (.cells #[.slice none 0 0, .slice none 0 0, .int .i64 oA] 33 (0, 0))) := ⟨(by rw [hw]; exact (uf_ dA tA.out))⟩; have n3_ : Aside0 (eD.heap[pA]? = some (.cells #[cB, dB, .int .i64 gA] 33 (0, 0))) := ⟨(by rw [hw]; exact (uf_ eA uA.out))⟩; have n4_ : Aside0 (eD.heap[fA]? = some (.cells #[.int .i64 ((rd_T78 l0 aA).f0), .int .i64 ((rd_T78 l0 aA).f1), .int .i64 ((rd_T78 l0 aA).f2), .int .i64 ((rd_T78 l0 aA).f3), .slice qA ((rd_T78 l0 aA).f4).length rA] 78 (0, 0))) := ⟨(by rw [hw]; exact (up_ hA))⟩; have n5_ : Aside0 (Below w.heap.size w eD) := ⟨(by rw [hw]; exact (hs3_ kA.out lA.out nA.out))⟩; clear hw; clear bA; clear cA; clear dA; clear eA; clear hA; clear HB; have bA := n0_; have cA := n1_; have dA := n2_; have eA := n3_; have hA := n4_; have HB := n5_; clear n0_ n1_ n2_ n3_ n4_ n5_; have qO := tB.out; have rO := bB.out; obtain ⟨dF, eF, fF, gF, hF, iF⟩ := cf3_ eA.out; obtain ⟨jF, kF, lF, mF, nF, oF, pF, qF, rF, sF⟩ := cf5_ hA.out; obtain ⟨gC, hC, iN⟩ := Kd.V_slice bA.out; subst iN; obtain ⟨iC, jC, jN⟩ := Kd.V_slice cA.out; subst jN) | ((with_reducible refine gate_callee (f := 57) rfl ?_); refine gl_ 28 Try.func57 #[.agg #[.slice gC iA.length hC, .slice iC jA.length jC, .int .i64 gA], .agg #[.int .i64 ((rd_T78 l0 aA).f2), .int .i64 ((rd_T78 l0 aA).f1), .int .i64 ((rd_T78 l0 aA).f3), .slice qA ((rd_T78 l0 aA).f4).length rA]] rfl ma_ ?_; (with_reducible refine (spec_l5Ask.calls k1 (fun k_ => ((w.heap.size ≤ k_) ∧ (k_ ≠ mA ∧ (k_ ≠ pA ∧ k_ ≠ fA)))) _ _ iA (fun k_ => ((w.heap.size ≤ k_) ∧ (k_ ≠ mA ∧ (k_ ≠ pA ∧ k_ ≠ fA)))) _ _ jA gA ((rd_T78 l0 aA).f2) ((rd_T78 l0 aA).f1) ((rd_T78 l0 aA).f3) _ _ ((rd_T78 l0 aA).f4) xB yB zB aC fC _ ?side1 ?side2 ?side3 ?side4 A9.out).mono ?_); (case side1 => exact bA.out); (case side2 => exact cA.out); (case side3 => exact cs_ ((Kd.C_below lB.out HB.out))); (case side4 => exact mB.out); rintro e uQ ⟨cD, dD, rfl, dC, eC, hb⟩; refine ⟨_, rfl, ?_⟩; replace bA := am_ (Kd.V_below (vF_ bA.out) hb); replace cA := am_ (Kd.V_below (vF_ cA.out) hb); have yA := am_ (Kd.V_lower (Kd.V_mono (ok' := fun k_ => (w.heap.size ≤ k_) ∧ k_ ≠ mA ∧ k_ ≠ pA ∧ k_ ≠ fA) dC (fun k_ hk_ => ⟨Or.elim hk_ (fun hs_ => Or.elim hs_ (fun hs_ => hs_.1) (fun hs_ => hs_.1)) (fun hn_ => (Nat.le_trans (below_size (hs3_ kA.out lA.out nA.out)) hn_)), Or.elim hk_ (fun hs_ => Or.elim hs_ (fun hs_ => hs_.2.1) (fun hs_ => hs_.2.1)) (fun hn_ => (Kd.freshB (g := mA) (o := .cells #[.slice none 0 0, .slice none 0 0, .int .i64 oA] 33 (0, 0)) (kb_ dA.out) k_ hn_)), Or.elim hk_ (fun hs_ => Or.elim hs_ (fun hs_ => hs_.2.2.1) (fun hs_ => hs_.2.2.1)) (fun hn_ => (Kd.freshB (g := pA) (o := .cells #[.slice gC iA.length hC, .slice iC jA.length jC, .int .i64 gA] 33 (0, 0)) (kb_ eA.out) k_ hn_)), Or.elim hk_ (fun hs_ => Or.elim hs_ (fun hs_ => hs_.2.2.2) (fun hs_ => hs_.2.2.2)) (fun hn_ => (Kd.freshB (g := fA) (o := .cells #[.int .i64 ((rd_T78 l0 aA).f0), .int .i64 ((rd_T78 l0 aA).f1), .int .i64 ((rd_T78 l0 aA).f2), .int .i64 ((rd_T78 l0 aA).f3), .slice qA ((rd_T78 l0 aA).f4).length rA] 78 (0, 0)) (kb_ hA.out) k_ hn_))⟩)) (below_size (hs3_ kA.out lA.out nA.out))); have zA := am_ (Kd.V_lower (Kd.V_mono (ok' := fun k_ => (w.heap.size ≤ k_) ∧ k_ ≠ mA ∧ k_ ≠ pA ∧ k_ ≠ fA) eC (fun k_ hk_ => ⟨Or.elim hk_ (fun hs_ => Or.elim hs_ (fun hs_ => hs_.1) (fun hs_ => hs_.1)) (fun hn_ => (Nat.le_trans (below_size (hs3_ kA.out lA.out nA.out)) hn_)), Or.elim hk_ (fun hs_ => Or.elim hs_ (fun hs_ => hs_.2.1) (fun hs_ => hs_.2.1)) (fun hn_ => (Kd.freshB (g := mA) (o := .cells #[.slice none 0 0, .slice none 0 0, .int .i64 oA] 33 (0, 0)) (kb_ dA.out) k_ hn_)), Or.elim hk_ (fun hs_ => Or.elim hs_ (fun hs_ => hs_.2.2.1) (fun hs_ => hs_.2.2.1)) (fun hn_ => (Kd.freshB (g := pA) (o := .cells #[.slice gC iA.length hC, .slice iC jA.length jC, .int .i64 gA] 33 (0, 0)) (kb_ eA.out) k_ hn_)), Or.elim hk_ (fun hs_ => Or.elim hs_ (fun hs_ => hs_.2.2.2) (fun hs_ => hs_.2.2.2)) (fun hn_ => (Kd.freshB (g := fA) (o := .cells #[.int .i64 ((rd_T78 l0 aA).f0), .int .i64 ((rd_T78 l0 aA).f1), .int .i64 ((rd_T78 l0 aA).f2), .int .i64 ((rd_T78 l0 aA).f3), .slice qA ((rd_T78 l0 aA).f4).length rA] 78 (0, 0)) (kb_ hA.out) k_ hn_))⟩)) (below_size (hs3_ kA.out lA.out nA.out))); replace dA := bK_ dA hb; replace eA := bK_ eA hb; replace hA := bK_ hA hb; replace HB := nc3_ kA lA nA hb; (try clear hb); (try clear hb2); (try clear hk); (try clear hi); (try clear dC); (try clear eC)) | ((with_reducible refine gate_dst (N := 7) rfl ?_); refine bq_ (N := 7) #[.slice none 0 0, .slice none 0 0, .int .i64 0] 33 ?_; intro sA hg vQ sB hb; replace bA := am_ (Kd.V_below (Kd.V_elderB (vF_ bA.out) sA (Nat.le_of_eq hg.symm)) hb); replace cA := am_ (Kd.V_below (Kd.V_elderB (vF_ cA.out) sA (Nat.le_of_eq hg.symm)) hb); replace yA := am_ (Kd.V_below (Kd.V_elderB (vF_ yA.out) sA (Nat.le_of_eq hg.symm)) hb); replace zA := am_ (Kd.V_below (Kd.V_elderB (vF_ zA.out) sA (Nat.le_of_eq hg.symm)) hb); have uB := ge3_ hg kA lA nA; replace HB := nc3_ kA lA nA hb; have vA := nl_ dA hg; have pB := ng_ dA hg; replace dA := bK_ dA hb; have wA := nl_ eA hg; have qB := ng_ eA hg; replace eA := bK_ eA hb; have xA := nl_ hA hg; have rB := ng_ hA hg; replace hA := bK_ hA hb; clear hb hg; obtain ⟨kN, lN, mN⟩ := Kd.V_slice yA.out; subst mN; have sO := pB.out; have tO := vA.out; have uO := qB.out; have vO := wA.out; have wO := rB.out; have xO := xA.out; obtain ⟨tF, uF, vF, wF, xF, yF⟩ := cf3_ sB.out; obtain ⟨nN, oN, pN⟩ := Kd.V_slice zA.out; subst pN; obtain ⟨zF, aG, bG, cG, dG, eG, fG, gG, hG, iG⟩ := cf5_ hA.out) | ((with_reducible refine gate_callee (f := 55) rfl ?_); refine gl_ 33 Try.func55 #[.agg #[.int .i64 ((rd_T78 l0 aA).f0), .int .i64 ((rd_T78 l0 aA).f1), .int .i64 ((rd_T78 l0 aA).f2), .int .i64 ((rd_T78 l0 aA).f3), .slice qA ((rd_T78 l0 aA).f4).length rA]] rfl ma_ ?_; (with_reducible refine (spec_GoodBatch.calls k1 ((rd_T78 l0 aA).f0) ((rd_T78 l0 aA).f1) ((rd_T78 l0 aA).f2) ((rd_T78 l0 aA).f3) _ _ ((rd_T78 l0 aA).f4) false _ ?side1 ?side2 rE.out).mono ?_); (case side1 => exact Kd.C_below lB.out (hs4_ kA.out lA.out nA.out uB.out)); (case side2 => exact mB.out); rintro e pQ ⟨rfl, hb⟩; refine ⟨_, rfl, ?_⟩; replace bA := am_ (Kd.V_below ((Kd.V_mono (vF_ (Kd.V_mono bA.out (fun k_ hk => (⟨hk, hk.2⟩ : _ ∧ k_ ≠ sA)))) (fun _ h_ => h_.1))) hb); replace cA := am_ (Kd.V_below ((Kd.V_mono (vF_ (Kd.V_mono cA.out (fun k_ hk => (⟨hk, hk.2⟩ : _ ∧ k_ ≠ sA)))) (fun _ h_ => h_.1))) hb); replace yA := am_ (Kd.V_below ((Kd.V_mono (vF_ (Kd.V_mono yA.out (fun k_ hk => (⟨hk, hk.2⟩ : _ ∧ k_ ≠ sA)))) (fun _ h_ => h_.1))) hb); replace zA := am_ (Kd.V_below ((Kd.V_mono (vF_ (Kd.V_mono zA.out (fun k_ hk => (⟨hk, hk.2⟩ : _ ∧ k_ ≠ sA)))) (fun _ h_ => h_.1))) hb); replace dA := am_ (blk_below (g := mA) (o := .cells #[.slice none 0 0, .slice none 0 0, .int .i64 oA] 33 (0, 0)) (uf_ dA vA.out) hb); replace eA := am_ (blk_below (g := pA) (o := .cells #[.slice gC iA.length hC, .slice iC jA.length jC, .int .i64 gA] 33 (0, 0)) (uf_ eA wA.out) hb); replace hA := am_ (blk_below (g := fA) (o := .cells #[.int .i64 ((rd_T78 l0 aA).f0), .int .i64 ((rd_T78 l0 aA).f1), .int .i64 ((rd_T78 l0 aA).f2), .int .i64 ((rd_T78 l0 aA).f3), .slice qA ((rd_T78 l0 aA).f4).length rA] 78 (0, 0)) (uf_ hA xA.out) hb); replace sB := am_ (blk_below (g := sA) (o := .cells #[.slice kN xB.length lN, .slice nN yB.length oN, .int .i64 zB] 33 (0, 0)) (up_ sB) hb); replace HB := nc4_ kA lA nA uB hb; (try clear hb); (try clear hb2); (try clear hk); (try clear hi); obtain ⟨cE, dE, eE, fE, gE, hE⟩ := cf3_ dA.out))
    refine bodyPost_ret (results_ct rfl _ _ mA 33 #[.slice none 0 0, .slice none 0 0, .int .i64 0] (0, 0) _ rfl (up_ dA) Try.underlying33 rfl (by kernel_rfl)) rfl ?_
    exact ⟨_, _, er_, Kd.V_nil _ _ _ _ _, Kd.V_nil _ _ _ _ _, hs4_ kA.out lA.out nA.out uB.out⟩
   replace H := ite_ H
   obtain ⟨fD, H⟩ | ⟨fD, H⟩ := H
   rotate_left
   ·have iE : (aC == 0) = false := beq_eq_false_iff_ne.mpr fD
    have jE : (aC != 0) = true := bne_iff_ne.mpr fD
    simp only [Option.some.injEq, Prod.mk.injEq] at H
    obtain ⟨rfl, rfl, rfl, rfl⟩ := H
    have vB : 0 ≤ (aA : Int) := oa_
    have wB : aA < (l0.length : Int) := oa_
    obtain ⟨cC, qA, rA, bC, eB, fB, gB, hB, iB, jB, kB⟩ := at_T78 qE.out aA vB wB
    cases bC
    replace eB := pc_ HB.out eB
    replace fB := pc_ HB.out fB
    replace gB := pc_ HB.out gB
    replace hB := pc_ HB.out hB
    replace iB := pc_ HB.out iB
    have lB := am_ kB
    have mB := am_ jB
    clear kB jB
    replace vB := eq_true vB
    replace wB := eq_true wB
    go_wp2_with (first | ((with_reducible refine gate_dst (N := 6) rfl ?_); refine bq_ (N := 6) #[.int .i64 0, .int .i64 0, .int .i64 0, .int .i64 0, .slice none 0 0] 78 ?_; intro fA hg qQ hA hb; replace bA := am_ (Kd.V_below (Kd.V_elderB (vF_ bA.out) fA (Nat.le_of_eq hg.symm)) hb); replace cA := am_ (Kd.V_below (Kd.V_elderB (vF_ cA.out) fA (Nat.le_of_eq hg.symm)) hb); have nA := ge2_ hg kA lA; replace HB := nc2_ kA lA hb; have tA := nl_ dA hg; have nB := ng_ dA hg; replace dA := bK_ dA hb; have uA := nl_ eA hg; have oB := ng_ eA hg; replace eA := bK_ eA hb; clear hb hg; have yO := nB.out; have zO := tA.out; have aP := oB.out; have bP := uA.out; obtain ⟨jG, kG, lG, mG, nG, oG, pG, qG, rG, sG⟩ := cf5_ hA.out) | ((with_reducible refine gate_store (t := 78) (p := 6) rfl ?_); refine store_event (t := 78) (p := 6) (v := ?vo_w64) (w1 := (((((qQ.setCell ⟨fA, 0, none⟩ (.int .i64 ((rd_T78 l0 aA).f0))).setCell ⟨fA, 1, none⟩ (.int .i64 ((rd_T78 l0 aA).f1))).setCell ⟨fA, 2, none⟩ (.int .i64 ((rd_T78 l0 aA).f2))).setCell ⟨fA, 3, none⟩ (.int .i64 ((rd_T78 l0 aA).f3))).setCell ⟨fA, 4, none⟩ (.slice qA ((rd_T78 l0 aA).f4).length rA))) ?hg ?ho ?hn ?hr ?_; (case ho => rfl); (case hg => rfl); (case hn => rfl); (case hr => first | (go_simp; done) | (go_simp; rfl)); intro gD hw; have n0_ : Aside0 (Kd.V k81 81 gD w.heap.size (fun k_ => (w.heap.size ≤ k_) ∧ k_ ≠ mA ∧ k_ ≠ pA ∧ k_ ≠ fA) cB iA) := ⟨(by rw [hw]; exact (Kd.V_mono (vF_ (Kd.V_mono bA.out (fun k_ hk => (⟨hk, hk.2⟩ : _ ∧ k_ ≠ fA)))) (fun _ hk => ⟨hk.1.1.1, ⟨hk.1.1.2.1, ⟨hk.1.1.2.2, hk.1.2⟩⟩⟩)))⟩; have n1_ : Aside0 (Kd.V k78 78 gD w.heap.size (fun k_ => (w.heap.size ≤ k_) ∧ k_ ≠ mA ∧ k_ ≠ pA ∧ k_ ≠ fA) dB jA) := ⟨(by rw [hw]; exact (Kd.V_mono (vF_ (Kd.V_mono cA.out (fun k_ hk => (⟨hk, hk.2⟩ : _ ∧ k_ ≠ fA)))) (fun _ hk => ⟨hk.1.1.1, ⟨hk.1.1.2.1, ⟨hk.1.1.2.2, hk.1.2⟩⟩⟩)))⟩; have n2_ : Aside0 (gD.heap[mA]? = some (.cells #[.slice none 0 0, .slice none 0 0, .int .i64 oA] 33 (0, 0))) := ⟨(by rw [hw]; exact (uf_ dA tA.out))⟩; have n3_ : Aside0 (gD.heap[pA]? = some (.cells #[cB, dB, .int .i64 gA] 33 (0, 0))) := ⟨(by rw [hw]; exact (uf_ eA uA.out))⟩; have n4_ : Aside0 (gD.heap[fA]? = some (.cells #[.int .i64 ((rd_T78 l0 aA).f0), .int .i64 ((rd_T78 l0 aA).f1), .int .i64 ((rd_T78 l0 aA).f2), .int .i64 ((rd_T78 l0 aA).f3), .slice qA ((rd_T78 l0 aA).f4).length rA] 78 (0, 0))) := ⟨(by rw [hw]; exact (up_ hA))⟩; have n5_ : Aside0 (Below w.heap.size w gD) := ⟨(by rw [hw]; exact (hs3_ kA.out lA.out nA.out))⟩; clear hw; clear bA; clear cA; clear dA; clear eA; clear hA; clear HB; have bA := n0_; have cA := n1_; have dA := n2_; have eA := n3_; have hA := n4_; have HB := n5_; clear n0_ n1_ n2_ n3_ n4_ n5_; have cP := tB.out; have dP := bB.out; obtain ⟨tG, uG, vG, wG, xG, yG⟩ := cf3_ eA.out; obtain ⟨zG, aH, bH, cH, dH, eH, fH, gH, hH, iH⟩ := cf5_ hA.out; obtain ⟨kC, lC, qN⟩ := Kd.V_slice bA.out; subst qN; obtain ⟨mC, nC, rN⟩ := Kd.V_slice cA.out; subst rN) | ((with_reducible refine gate_callee (f := 57) rfl ?_); refine gl_ 28 Try.func57 #[.agg #[.slice kC iA.length lC, .slice mC jA.length nC, .int .i64 gA], .agg #[.int .i64 ((rd_T78 l0 aA).f2), .int .i64 ((rd_T78 l0 aA).f1), .int .i64 ((rd_T78 l0 aA).f3), .slice qA ((rd_T78 l0 aA).f4).length rA]] rfl ma_ ?_; (with_reducible refine (spec_l5Ask.calls k1 (fun k_ => ((w.heap.size ≤ k_) ∧ (k_ ≠ mA ∧ (k_ ≠ pA ∧ k_ ≠ fA)))) _ _ iA (fun k_ => ((w.heap.size ≤ k_) ∧ (k_ ≠ mA ∧ (k_ ≠ pA ∧ k_ ≠ fA)))) _ _ jA gA ((rd_T78 l0 aA).f2) ((rd_T78 l0 aA).f1) ((rd_T78 l0 aA).f3) _ _ ((rd_T78 l0 aA).f4) xB yB zB aC fC _ ?side1 ?side2 ?side3 ?side4 A9.out).mono ?_); (case side1 => exact bA.out); (case side2 => exact cA.out); (case side3 => exact cs_ ((Kd.C_below lB.out HB.out))); (case side4 => exact mB.out); rintro e wQ ⟨cD, dD, rfl, dC, eC, hb⟩; refine ⟨_, rfl, ?_⟩; replace bA := am_ (Kd.V_below (vF_ bA.out) hb); replace cA := am_ (Kd.V_below (vF_ cA.out) hb); have yA := am_ (Kd.V_lower (Kd.V_mono (ok' := fun k_ => (w.heap.size ≤ k_) ∧ k_ ≠ mA ∧ k_ ≠ pA ∧ k_ ≠ fA) dC (fun k_ hk_ => ⟨Or.elim hk_ (fun hs_ => Or.elim hs_ (fun hs_ => hs_.1) (fun hs_ => hs_.1)) (fun hn_ => (Nat.le_trans (below_size (hs3_ kA.out lA.out nA.out)) hn_)), Or.elim hk_ (fun hs_ => Or.elim hs_ (fun hs_ => hs_.2.1) (fun hs_ => hs_.2.1)) (fun hn_ => (Kd.freshB (g := mA) (o := .cells #[.slice none 0 0, .slice none 0 0, .int .i64 oA] 33 (0, 0)) (kb_ dA.out) k_ hn_)), Or.elim hk_ (fun hs_ => Or.elim hs_ (fun hs_ => hs_.2.2.1) (fun hs_ => hs_.2.2.1)) (fun hn_ => (Kd.freshB (g := pA) (o := .cells #[.slice kC iA.length lC, .slice mC jA.length nC, .int .i64 gA] 33 (0, 0)) (kb_ eA.out) k_ hn_)), Or.elim hk_ (fun hs_ => Or.elim hs_ (fun hs_ => hs_.2.2.2) (fun hs_ => hs_.2.2.2)) (fun hn_ => (Kd.freshB (g := fA) (o := .cells #[.int .i64 ((rd_T78 l0 aA).f0), .int .i64 ((rd_T78 l0 aA).f1), .int .i64 ((rd_T78 l0 aA).f2), .int .i64 ((rd_T78 l0 aA).f3), .slice qA ((rd_T78 l0 aA).f4).length rA] 78 (0, 0)) (kb_ hA.out) k_ hn_))⟩)) (below_size (hs3_ kA.out lA.out nA.out))); have zA := am_ (Kd.V_lower (Kd.V_mono (ok' := fun k_ => (w.heap.size ≤ k_) ∧ k_ ≠ mA ∧ k_ ≠ pA ∧ k_ ≠ fA) eC (fun k_ hk_ => ⟨Or.elim hk_ (fun hs_ => Or.elim hs_ (fun hs_ => hs_.1) (fun hs_ => hs_.1)) (fun hn_ => (Nat.le_trans (below_size (hs3_ kA.out lA.out nA.out)) hn_)), Or.elim hk_ (fun hs_ => Or.elim hs_ (fun hs_ => hs_.2.1) (fun hs_ => hs_.2.1)) (fun hn_ => (Kd.freshB (g := mA) (o := .cells #[.slice none 0 0, .slice none 0 0, .int .i64 oA] 33 (0, 0)) (kb_ dA.out) k_ hn_)), Or.elim hk_ (fun hs_ => Or.elim hs_ (fun hs_ => hs_.2.2.1) (fun hs_ => hs_.2.2.1)) (fun hn_ => (Kd.freshB (g := pA) (o := .cells #[.slice kC iA.length lC, .slice mC jA.length nC, .int .i64 gA] 33 (0, 0)) (kb_ eA.out) k_ hn_)), Or.elim hk_ (fun hs_ => Or.elim hs_ (fun hs_ => hs_.2.2.2) (fun hs_ => hs_.2.2.2)) (fun hn_ => (Kd.freshB (g := fA) (o := .cells #[.int .i64 ((rd_T78 l0 aA).f0), .int .i64 ((rd_T78 l0 aA).f1), .int .i64 ((rd_T78 l0 aA).f2), .int .i64 ((rd_T78 l0 aA).f3), .slice qA ((rd_T78 l0 aA).f4).length rA] 78 (0, 0)) (kb_ hA.out) k_ hn_))⟩)) (below_size (hs3_ kA.out lA.out nA.out))); replace dA := bK_ dA hb; replace eA := bK_ eA hb; replace hA := bK_ hA hb; replace HB := nc3_ kA lA nA hb; (try clear hb); (try clear hb2); (try clear hk); (try clear hi); (try clear dC); (try clear eC)) | ((with_reducible refine gate_dst (N := 7) rfl ?_); refine bq_ (N := 7) #[.slice none 0 0, .slice none 0 0, .int .i64 0] 33 ?_; intro sA hg xQ sB hb; replace bA := am_ (Kd.V_below (Kd.V_elderB (vF_ bA.out) sA (Nat.le_of_eq hg.symm)) hb); replace cA := am_ (Kd.V_below (Kd.V_elderB (vF_ cA.out) sA (Nat.le_of_eq hg.symm)) hb); replace yA := am_ (Kd.V_below (Kd.V_elderB (vF_ yA.out) sA (Nat.le_of_eq hg.symm)) hb); replace zA := am_ (Kd.V_below (Kd.V_elderB (vF_ zA.out) sA (Nat.le_of_eq hg.symm)) hb); have uB := ge3_ hg kA lA nA; replace HB := nc3_ kA lA nA hb; have vA := nl_ dA hg; have pB := ng_ dA hg; replace dA := bK_ dA hb; have wA := nl_ eA hg; have qB := ng_ eA hg; replace eA := bK_ eA hb; have xA := nl_ hA hg; have rB := ng_ hA hg; replace hA := bK_ hA hb; clear hb hg; obtain ⟨sN, tN, uN⟩ := Kd.V_slice yA.out; subst uN; have eP := pB.out; have fP := vA.out; have gP := qB.out; have hP := wA.out; have iP := rB.out; have jP := xA.out; obtain ⟨jH, kH, lH, mH, nH, oH⟩ := cf3_ sB.out; obtain ⟨vN, wN, xN⟩ := Kd.V_slice zA.out; subst xN; obtain ⟨pH, qH, rH, sH, tH, uH, vH, wH, xH, yH⟩ := cf5_ hA.out) | ((with_reducible refine gate_callee (f := 55) rfl ?_); refine gl_ 33 Try.func55 #[.agg #[.int .i64 ((rd_T78 l0 aA).f0), .int .i64 ((rd_T78 l0 aA).f1), .int .i64 ((rd_T78 l0 aA).f2), .int .i64 ((rd_T78 l0 aA).f3), .slice qA ((rd_T78 l0 aA).f4).length rA]] rfl ma_ ?_; (with_reducible refine (spec_GoodBatch.calls k1 ((rd_T78 l0 aA).f0) ((rd_T78 l0 aA).f1) ((rd_T78 l0 aA).f2) ((rd_T78 l0 aA).f3) _ _ ((rd_T78 l0 aA).f4) true _ ?side1 ?side2 rE.out).mono ?_); (case side1 => exact Kd.C_below lB.out (hs4_ kA.out lA.out nA.out uB.out)); (case side2 => exact mB.out); rintro e yQ ⟨rfl, hb⟩; refine ⟨_, rfl, ?_⟩; replace bA := am_ (Kd.V_below ((Kd.V_mono (vF_ (Kd.V_mono bA.out (fun k_ hk => (⟨hk, hk.2⟩ : _ ∧ k_ ≠ sA)))) (fun _ h_ => h_.1))) hb); replace cA := am_ (Kd.V_below ((Kd.V_mono (vF_ (Kd.V_mono cA.out (fun k_ hk => (⟨hk, hk.2⟩ : _ ∧ k_ ≠ sA)))) (fun _ h_ => h_.1))) hb); replace yA := am_ (Kd.V_below ((Kd.V_mono (vF_ (Kd.V_mono yA.out (fun k_ hk => (⟨hk, hk.2⟩ : _ ∧ k_ ≠ sA)))) (fun _ h_ => h_.1))) hb); replace zA := am_ (Kd.V_below ((Kd.V_mono (vF_ (Kd.V_mono zA.out (fun k_ hk => (⟨hk, hk.2⟩ : _ ∧ k_ ≠ sA)))) (fun _ h_ => h_.1))) hb); replace dA := am_ (blk_below (g := mA) (o := .cells #[.slice none 0 0, .slice none 0 0, .int .i64 oA] 33 (0, 0)) (uf_ dA vA.out) hb); replace eA := am_ (blk_below (g := pA) (o := .cells #[.slice kC iA.length lC, .slice mC jA.length nC, .int .i64 gA] 33 (0, 0)) (uf_ eA wA.out) hb); replace hA := am_ (blk_below (g := fA) (o := .cells #[.int .i64 ((rd_T78 l0 aA).f0), .int .i64 ((rd_T78 l0 aA).f1), .int .i64 ((rd_T78 l0 aA).f2), .int .i64 ((rd_T78 l0 aA).f3), .slice qA ((rd_T78 l0 aA).f4).length rA] 78 (0, 0)) (uf_ hA xA.out) hb); replace sB := am_ (blk_below (g := sA) (o := .cells #[.slice sN xB.length tN, .slice vN yB.length wN, .int .i64 zB] 33 (0, 0)) (up_ sB) hb); replace HB := nc4_ kA lA nA uB hb; (try clear hb); (try clear hb2); (try clear hk); (try clear hi); obtain ⟨zH, aI, bI, cI, dI, eI⟩ := cf3_ dA.out))
    refine bodyPost_ret (results_ct rfl _ _ mA 33 #[.slice none 0 0, .slice none 0 0, .int .i64 0] (0, 0) _ rfl (up_ dA) Try.underlying33 rfl (by kernel_rfl)) rfl ?_
    exact ⟨_, _, er_, Kd.V_nil _ _ _ _ _, Kd.V_nil _ _ _ _ _, hs4_ kA.out lA.out nA.out uB.out⟩
   have iE : (aC == 0) = true := beq_iff_eq.mpr fD
   have jE : (aC != 0) = false := bne_eq_false_iff_eq.mpr fD
   clear fD
   replace H := ite_ H
   obtain ⟨hD, H⟩ | ⟨hD, H⟩ := H
   rotate_left
   ·have kE : (((rd_T78 l0 aA).f0) == gA) = false := beq_eq_false_iff_ne.mpr hD
    have lE : (((rd_T78 l0 aA).f0) != gA) = true := bne_iff_ne.mpr hD
    simp only [Option.some.injEq, Prod.mk.injEq] at H
    obtain ⟨rfl, rfl, rfl, rfl⟩ := H
    have vB : 0 ≤ (aA : Int) := oa_
    have wB : aA < (l0.length : Int) := oa_
    obtain ⟨cC, qA, rA, bC, eB, fB, gB, hB, iB, jB, kB⟩ := at_T78 qE.out aA vB wB
    cases bC
    replace eB := pc_ HB.out eB
    replace fB := pc_ HB.out fB
    replace gB := pc_ HB.out gB
    replace hB := pc_ HB.out hB
    replace iB := pc_ HB.out iB
    have lB := am_ kB
    have mB := am_ jB
    clear kB jB
    replace vB := eq_true vB
    replace wB := eq_true wB
    go_wp2_with (first | ((with_reducible refine gate_dst (N := 6) rfl ?_); refine bq_ (N := 6) #[.int .i64 0, .int .i64 0, .int .i64 0, .int .i64 0, .slice none 0 0] 78 ?_; intro fA hg rQ hA hb; replace bA := am_ (Kd.V_below (Kd.V_elderB (vF_ bA.out) fA (Nat.le_of_eq hg.symm)) hb); replace cA := am_ (Kd.V_below (Kd.V_elderB (vF_ cA.out) fA (Nat.le_of_eq hg.symm)) hb); have nA := ge2_ hg kA lA; replace HB := nc2_ kA lA hb; have tA := nl_ dA hg; have nB := ng_ dA hg; replace dA := bK_ dA hb; have uA := nl_ eA hg; have oB := ng_ eA hg; replace eA := bK_ eA hb; clear hb hg; have kP := nB.out; have lP := tA.out; have mP := oB.out; have nP := uA.out; obtain ⟨fI, gI, hI, iI, jI, kI, lI, mI, nI, oI⟩ := cf5_ hA.out) | ((with_reducible refine gate_store (t := 78) (p := 6) rfl ?_); refine store_event (t := 78) (p := 6) (v := ?vo_w41) (w1 := (((((rQ.setCell ⟨fA, 0, none⟩ (.int .i64 ((rd_T78 l0 aA).f0))).setCell ⟨fA, 1, none⟩ (.int .i64 ((rd_T78 l0 aA).f1))).setCell ⟨fA, 2, none⟩ (.int .i64 ((rd_T78 l0 aA).f2))).setCell ⟨fA, 3, none⟩ (.int .i64 ((rd_T78 l0 aA).f3))).setCell ⟨fA, 4, none⟩ (.slice qA ((rd_T78 l0 aA).f4).length rA))) ?hg ?ho ?hn ?hr ?_; (case ho => rfl); (case hg => rfl); (case hn => rfl); (case hr => first | (go_simp; done) | (go_simp; rfl)); intro iD hw; have n0_ : Aside0 (Kd.V k81 81 iD w.heap.size (fun k_ => (w.heap.size ≤ k_) ∧ k_ ≠ mA ∧ k_ ≠ pA ∧ k_ ≠ fA) cB iA) := ⟨(by rw [hw]; exact (Kd.V_mono (vF_ (Kd.V_mono bA.out (fun k_ hk => (⟨hk, hk.2⟩ : _ ∧ k_ ≠ fA)))) (fun _ hk => ⟨hk.1.1.1, ⟨hk.1.1.2.1, ⟨hk.1.1.2.2, hk.1.2⟩⟩⟩)))⟩; have n1_ : Aside0 (Kd.V k78 78 iD w.heap.size (fun k_ => (w.heap.size ≤ k_) ∧ k_ ≠ mA ∧ k_ ≠ pA ∧ k_ ≠ fA) dB jA) := ⟨(by rw [hw]; exact (Kd.V_mono (vF_ (Kd.V_mono cA.out (fun k_ hk => (⟨hk, hk.2⟩ : _ ∧ k_ ≠ fA)))) (fun _ hk => ⟨hk.1.1.1, ⟨hk.1.1.2.1, ⟨hk.1.1.2.2, hk.1.2⟩⟩⟩)))⟩; have n2_ : Aside0 (iD.heap[mA]? = some (.cells #[.slice none 0 0, .slice none 0 0, .int .i64 oA] 33 (0, 0))) := ⟨(by rw [hw]; exact (uf_ dA tA.out))⟩; have n3_ : Aside0 (iD.heap[pA]? = some (.cells #[cB, dB, .int .i64 gA] 33 (0, 0))) := ⟨(by rw [hw]; exact (uf_ eA uA.out))⟩; have n4_ : Aside0 (iD.heap[fA]? = some (.cells #[.int .i64 ((rd_T78 l0 aA).f0), .int .i64 ((rd_T78 l0 aA).f1), .int .i64 ((rd_T78 l0 aA).f2), .int .i64 ((rd_T78 l0 aA).f3), .slice qA ((rd_T78 l0 aA).f4).length rA] 78 (0, 0))) := ⟨(by rw [hw]; exact (up_ hA))⟩; have n5_ : Aside0 (Below w.heap.size w iD) := ⟨(by rw [hw]; exact (hs3_ kA.out lA.out nA.out))⟩; clear hw; clear bA; clear cA; clear dA; clear eA; clear hA; clear HB; have bA := n0_; have cA := n1_; have dA := n2_; have eA := n3_; have hA := n4_; have HB := n5_; clear n0_ n1_ n2_ n3_ n4_ n5_; have oP := tB.out; have pP := bB.out; obtain ⟨pI, qI, rI, sI, tI, uI⟩ := cf3_ eA.out; obtain ⟨vI, wI, xI, yI, zI, aJ, bJ, cJ, dJ, eJ⟩ := cf5_ hA.out; obtain ⟨oC, pC, yN⟩ := Kd.V_slice bA.out; subst yN; obtain ⟨qC, rC, zN⟩ := Kd.V_slice cA.out; subst zN) | ((with_reducible refine gate_callee (f := 57) rfl ?_); refine gl_ 28 Try.func57 #[.agg #[.slice oC iA.length pC, .slice qC jA.length rC, .int .i64 gA], .agg #[.int .i64 ((rd_T78 l0 aA).f2), .int .i64 ((rd_T78 l0 aA).f1), .int .i64 ((rd_T78 l0 aA).f3), .slice qA ((rd_T78 l0 aA).f4).length rA]] rfl ma_ ?_; (with_reducible refine (spec_l5Ask.calls k1 (fun k_ => ((w.heap.size ≤ k_) ∧ (k_ ≠ mA ∧ (k_ ≠ pA ∧ k_ ≠ fA)))) _ _ iA (fun k_ => ((w.heap.size ≤ k_) ∧ (k_ ≠ mA ∧ (k_ ≠ pA ∧ k_ ≠ fA)))) _ _ jA gA ((rd_T78 l0 aA).f2) ((rd_T78 l0 aA).f1) ((rd_T78 l0 aA).f3) _ _ ((rd_T78 l0 aA).f4) xB yB zB aC fC _ ?side1 ?side2 ?side3 ?side4 A9.out).mono ?_); (case side1 => exact bA.out); (case side2 => exact cA.out); (case side3 => exact cs_ ((Kd.C_below lB.out HB.out))); (case side4 => exact mB.out); rintro e zQ ⟨cD, dD, rfl, dC, eC, hb⟩; refine ⟨_, rfl, ?_⟩; replace bA := am_ (Kd.V_below (vF_ bA.out) hb); replace cA := am_ (Kd.V_below (vF_ cA.out) hb); have yA := am_ (Kd.V_lower (Kd.V_mono (ok' := fun k_ => (w.heap.size ≤ k_) ∧ k_ ≠ mA ∧ k_ ≠ pA ∧ k_ ≠ fA) dC (fun k_ hk_ => ⟨Or.elim hk_ (fun hs_ => Or.elim hs_ (fun hs_ => hs_.1) (fun hs_ => hs_.1)) (fun hn_ => (Nat.le_trans (below_size (hs3_ kA.out lA.out nA.out)) hn_)), Or.elim hk_ (fun hs_ => Or.elim hs_ (fun hs_ => hs_.2.1) (fun hs_ => hs_.2.1)) (fun hn_ => (Kd.freshB (g := mA) (o := .cells #[.slice none 0 0, .slice none 0 0, .int .i64 oA] 33 (0, 0)) (kb_ dA.out) k_ hn_)), Or.elim hk_ (fun hs_ => Or.elim hs_ (fun hs_ => hs_.2.2.1) (fun hs_ => hs_.2.2.1)) (fun hn_ => (Kd.freshB (g := pA) (o := .cells #[.slice oC iA.length pC, .slice qC jA.length rC, .int .i64 gA] 33 (0, 0)) (kb_ eA.out) k_ hn_)), Or.elim hk_ (fun hs_ => Or.elim hs_ (fun hs_ => hs_.2.2.2) (fun hs_ => hs_.2.2.2)) (fun hn_ => (Kd.freshB (g := fA) (o := .cells #[.int .i64 ((rd_T78 l0 aA).f0), .int .i64 ((rd_T78 l0 aA).f1), .int .i64 ((rd_T78 l0 aA).f2), .int .i64 ((rd_T78 l0 aA).f3), .slice qA ((rd_T78 l0 aA).f4).length rA] 78 (0, 0)) (kb_ hA.out) k_ hn_))⟩)) (below_size (hs3_ kA.out lA.out nA.out))); have zA := am_ (Kd.V_lower (Kd.V_mono (ok' := fun k_ => (w.heap.size ≤ k_) ∧ k_ ≠ mA ∧ k_ ≠ pA ∧ k_ ≠ fA) eC (fun k_ hk_ => ⟨Or.elim hk_ (fun hs_ => Or.elim hs_ (fun hs_ => hs_.1) (fun hs_ => hs_.1)) (fun hn_ => (Nat.le_trans (below_size (hs3_ kA.out lA.out nA.out)) hn_)), Or.elim hk_ (fun hs_ => Or.elim hs_ (fun hs_ => hs_.2.1) (fun hs_ => hs_.2.1)) (fun hn_ => (Kd.freshB (g := mA) (o := .cells #[.slice none 0 0, .slice none 0 0, .int .i64 oA] 33 (0, 0)) (kb_ dA.out) k_ hn_)), Or.elim hk_ (fun hs_ => Or.elim hs_ (fun hs_ => hs_.2.2.1) (fun hs_ => hs_.2.2.1)) (fun hn_ => (Kd.freshB (g := pA) (o := .cells #[.slice oC iA.length pC, .slice qC jA.length rC, .int .i64 gA] 33 (0, 0)) (kb_ eA.out) k_ hn_)), Or.elim hk_ (fun hs_ => Or.elim hs_ (fun hs_ => hs_.2.2.2) (fun hs_ => hs_.2.2.2)) (fun hn_ => (Kd.freshB (g := fA) (o := .cells #[.int .i64 ((rd_T78 l0 aA).f0), .int .i64 ((rd_T78 l0 aA).f1), .int .i64 ((rd_T78 l0 aA).f2), .int .i64 ((rd_T78 l0 aA).f3), .slice qA ((rd_T78 l0 aA).f4).length rA] 78 (0, 0)) (kb_ hA.out) k_ hn_))⟩)) (below_size (hs3_ kA.out lA.out nA.out))); replace dA := bK_ dA hb; replace eA := bK_ eA hb; replace hA := bK_ hA hb; replace HB := nc3_ kA lA nA hb; (try clear hb); (try clear hb2); (try clear hk); (try clear hi); (try clear dC); (try clear eC)) | ((with_reducible refine gate_dst (N := 7) rfl ?_); refine bq_ (N := 7) #[.slice none 0 0, .slice none 0 0, .int .i64 0] 33 ?_; intro sA hg bR sB hb; replace bA := am_ (Kd.V_below (Kd.V_elderB (vF_ bA.out) sA (Nat.le_of_eq hg.symm)) hb); replace cA := am_ (Kd.V_below (Kd.V_elderB (vF_ cA.out) sA (Nat.le_of_eq hg.symm)) hb); replace yA := am_ (Kd.V_below (Kd.V_elderB (vF_ yA.out) sA (Nat.le_of_eq hg.symm)) hb); replace zA := am_ (Kd.V_below (Kd.V_elderB (vF_ zA.out) sA (Nat.le_of_eq hg.symm)) hb); have uB := ge3_ hg kA lA nA; replace HB := nc3_ kA lA nA hb; have vA := nl_ dA hg; have pB := ng_ dA hg; replace dA := bK_ dA hb; have wA := nl_ eA hg; have qB := ng_ eA hg; replace eA := bK_ eA hb; have xA := nl_ hA hg; have rB := ng_ hA hg; replace hA := bK_ hA hb; clear hb hg; obtain ⟨bO, cO, dO⟩ := Kd.V_slice yA.out; subst dO; have qP := pB.out; have rP := vA.out; have sP := qB.out; have tP := wA.out; have uP := rB.out; have vP := xA.out; obtain ⟨fJ, gJ, hJ, iJ, jJ, kJ⟩ := cf3_ sB.out; obtain ⟨eO, fO, gO⟩ := Kd.V_slice zA.out; subst gO; obtain ⟨lJ, mJ, nJ, oJ, pJ, qJ, rJ, sJ, tJ, uJ⟩ := cf5_ hA.out) | ((with_reducible refine gate_callee (f := 55) rfl ?_); refine gl_ 33 Try.func55 #[.agg #[.int .i64 ((rd_T78 l0 aA).f0), .int .i64 ((rd_T78 l0 aA).f1), .int .i64 ((rd_T78 l0 aA).f2), .int .i64 ((rd_T78 l0 aA).f3), .slice qA ((rd_T78 l0 aA).f4).length rA]] rfl ma_ ?_; (with_reducible refine (spec_GoodBatch.calls k1 ((rd_T78 l0 aA).f0) ((rd_T78 l0 aA).f1) ((rd_T78 l0 aA).f2) ((rd_T78 l0 aA).f3) _ _ ((rd_T78 l0 aA).f4) true _ ?side1 ?side2 rE.out).mono ?_); (case side1 => exact Kd.C_below lB.out (hs4_ kA.out lA.out nA.out uB.out)); (case side2 => exact mB.out); rintro e cR ⟨rfl, hb⟩; refine ⟨_, rfl, ?_⟩; replace bA := am_ (Kd.V_below ((Kd.V_mono (vF_ (Kd.V_mono bA.out (fun k_ hk => (⟨hk, hk.2⟩ : _ ∧ k_ ≠ sA)))) (fun _ h_ => h_.1))) hb); replace cA := am_ (Kd.V_below ((Kd.V_mono (vF_ (Kd.V_mono cA.out (fun k_ hk => (⟨hk, hk.2⟩ : _ ∧ k_ ≠ sA)))) (fun _ h_ => h_.1))) hb); replace yA := am_ (Kd.V_below ((Kd.V_mono (vF_ (Kd.V_mono yA.out (fun k_ hk => (⟨hk, hk.2⟩ : _ ∧ k_ ≠ sA)))) (fun _ h_ => h_.1))) hb); replace zA := am_ (Kd.V_below ((Kd.V_mono (vF_ (Kd.V_mono zA.out (fun k_ hk => (⟨hk, hk.2⟩ : _ ∧ k_ ≠ sA)))) (fun _ h_ => h_.1))) hb); replace dA := am_ (blk_below (g := mA) (o := .cells #[.slice none 0 0, .slice none 0 0, .int .i64 oA] 33 (0, 0)) (uf_ dA vA.out) hb); replace eA := am_ (blk_below (g := pA) (o := .cells #[.slice oC iA.length pC, .slice qC jA.length rC, .int .i64 gA] 33 (0, 0)) (uf_ eA wA.out) hb); replace hA := am_ (blk_below (g := fA) (o := .cells #[.int .i64 ((rd_T78 l0 aA).f0), .int .i64 ((rd_T78 l0 aA).f1), .int .i64 ((rd_T78 l0 aA).f2), .int .i64 ((rd_T78 l0 aA).f3), .slice qA ((rd_T78 l0 aA).f4).length rA] 78 (0, 0)) (uf_ hA xA.out) hb); replace sB := am_ (blk_below (g := sA) (o := .cells #[.slice bO xB.length cO, .slice eO yB.length fO, .int .i64 zB] 33 (0, 0)) (up_ sB) hb); replace HB := nc4_ kA lA nA uB hb; (try clear hb); (try clear hb2); (try clear hk); (try clear hi); obtain ⟨vJ, wJ, xJ, yJ, zJ, aK, bK, cK, dK, eK⟩ := cf5_ hA.out; obtain ⟨fK, gK, iK, jK, kK, lK⟩ := cf3_ eA.out; obtain ⟨mK, nK, oK, pK, qK, rK⟩ := cf3_ dA.out))
    refine bodyPost_ret (results_ct rfl _ _ mA 33 #[.slice none 0 0, .slice none 0 0, .int .i64 0] (0, 0) _ rfl (up_ dA) Try.underlying33 rfl (by kernel_rfl)) rfl ?_
    exact ⟨_, _, er_, Kd.V_nil _ _ _ _ _, Kd.V_nil _ _ _ _ _, hs4_ kA.out lA.out nA.out uB.out⟩
   have kE : (((rd_T78 l0 aA).f0) == gA) = true := beq_iff_eq.mpr hD
   have lE : (((rd_T78 l0 aA).f0) != gA) = false := bne_eq_false_iff_eq.mpr hD
   clear hD
   have H' := am_ H
   clear H
   have vB : 0 ≤ (aA : Int) := oa_
   have wB : aA < (l0.length : Int) := oa_
   obtain ⟨cC, qA, rA, bC, eB, fB, gB, hB, iB, jB, kB⟩ := at_T78 qE.out aA vB wB
   cases bC
   replace eB := pc_ HB.out eB
   replace fB := pc_ HB.out fB
   replace gB := pc_ HB.out gB
   replace hB := pc_ HB.out hB
   replace iB := pc_ HB.out iB
   have lB := am_ kB
   have mB := am_ jB
   clear kB jB
   replace vB := eq_true vB
   replace wB := eq_true wB
   go_wp2_with (first | ((with_reducible refine gate_dst (N := 6) rfl ?_); refine bq_ (N := 6) #[.int .i64 0, .int .i64 0, .int .i64 0, .int .i64 0, .slice none 0 0] 78 ?_; intro fA hg sQ hA hb; replace bA := am_ (Kd.V_below (Kd.V_elderB (vF_ bA.out) fA (Nat.le_of_eq hg.symm)) hb); replace cA := am_ (Kd.V_below (Kd.V_elderB (vF_ cA.out) fA (Nat.le_of_eq hg.symm)) hb); have nA := ge2_ hg kA lA; replace HB := nc2_ kA lA hb; have tA := nl_ dA hg; have nB := ng_ dA hg; replace dA := bK_ dA hb; have uA := nl_ eA hg; have oB := ng_ eA hg; replace eA := bK_ eA hb; clear hb hg; have wP := nB.out; have xP := tA.out; have yP := oB.out; have zP := uA.out; obtain ⟨sK, tK, uK, vK, wK, xK, yK, zK, bL, cL⟩ := cf5_ hA.out) | ((with_reducible refine gate_store (t := 78) (p := 6) rfl ?_); refine store_event (t := 78) (p := 6) (v := ?vo_w18) (w1 := (((((sQ.setCell ⟨fA, 0, none⟩ (.int .i64 ((rd_T78 l0 aA).f0))).setCell ⟨fA, 1, none⟩ (.int .i64 ((rd_T78 l0 aA).f1))).setCell ⟨fA, 2, none⟩ (.int .i64 ((rd_T78 l0 aA).f2))).setCell ⟨fA, 3, none⟩ (.int .i64 ((rd_T78 l0 aA).f3))).setCell ⟨fA, 4, none⟩ (.slice qA ((rd_T78 l0 aA).f4).length rA))) ?hg ?ho ?hn ?hr ?_; (case ho => rfl); (case hg => rfl); (case hn => rfl); (case hr => first | (go_simp; done) | (go_simp; rfl)); intro jD hw; have n0_ : Aside0 (Kd.V k81 81 jD w.heap.size (fun k_ => (w.heap.size ≤ k_) ∧ k_ ≠ mA ∧ k_ ≠ pA ∧ k_ ≠ fA) cB iA) := ⟨(by rw [hw]; exact (Kd.V_mono (vF_ (Kd.V_mono bA.out (fun k_ hk => (⟨hk, hk.2⟩ : _ ∧ k_ ≠ fA)))) (fun _ hk => ⟨hk.1.1.1, ⟨hk.1.1.2.1, ⟨hk.1.1.2.2, hk.1.2⟩⟩⟩)))⟩; have n1_ : Aside0 (Kd.V k78 78 jD w.heap.size (fun k_ => (w.heap.size ≤ k_) ∧ k_ ≠ mA ∧ k_ ≠ pA ∧ k_ ≠ fA) dB jA) := ⟨(by rw [hw]; exact (Kd.V_mono (vF_ (Kd.V_mono cA.out (fun k_ hk => (⟨hk, hk.2⟩ : _ ∧ k_ ≠ fA)))) (fun _ hk => ⟨hk.1.1.1, ⟨hk.1.1.2.1, ⟨hk.1.1.2.2, hk.1.2⟩⟩⟩)))⟩; have n2_ : Aside0 (jD.heap[mA]? = some (.cells #[.slice none 0 0, .slice none 0 0, .int .i64 oA] 33 (0, 0))) := ⟨(by rw [hw]; exact (uf_ dA tA.out))⟩; have n3_ : Aside0 (jD.heap[pA]? = some (.cells #[cB, dB, .int .i64 gA] 33 (0, 0))) := ⟨(by rw [hw]; exact (uf_ eA uA.out))⟩; have n4_ : Aside0 (jD.heap[fA]? = some (.cells #[.int .i64 ((rd_T78 l0 aA).f0), .int .i64 ((rd_T78 l0 aA).f1), .int .i64 ((rd_T78 l0 aA).f2), .int .i64 ((rd_T78 l0 aA).f3), .slice qA ((rd_T78 l0 aA).f4).length rA] 78 (0, 0))) := ⟨(by rw [hw]; exact (up_ hA))⟩; have n5_ : Aside0 (Below w.heap.size w jD) := ⟨(by rw [hw]; exact (hs3_ kA.out lA.out nA.out))⟩; clear hw; clear bA; clear cA; clear dA; clear eA; clear hA; clear HB; have bA := n0_; have cA := n1_; have dA := n2_; have eA := n3_; have hA := n4_; have HB := n5_; clear n0_ n1_ n2_ n3_ n4_ n5_; have aQ := tB.out; have bQ := bB.out; obtain ⟨dL, eL, fL, gL, hL, iL⟩ := cf3_ eA.out; obtain ⟨jL, kL, lL, mL, nL, oL, pL, qL, rL, sL⟩ := cf5_ hA.out; obtain ⟨sC, tC, hO⟩ := Kd.V_slice bA.out; subst hO; obtain ⟨uC, vC, iO⟩ := Kd.V_slice cA.out; subst iO) | ((with_reducible refine gate_callee (f := 57) rfl ?_); refine gl_ 28 Try.func57 #[.agg #[.slice sC iA.length tC, .slice uC jA.length vC, .int .i64 gA], .agg #[.int .i64 ((rd_T78 l0 aA).f2), .int .i64 ((rd_T78 l0 aA).f1), .int .i64 ((rd_T78 l0 aA).f3), .slice qA ((rd_T78 l0 aA).f4).length rA]] rfl ma_ ?_; (with_reducible refine (spec_l5Ask.calls k1 (fun k_ => ((w.heap.size ≤ k_) ∧ (k_ ≠ mA ∧ (k_ ≠ pA ∧ k_ ≠ fA)))) _ _ iA (fun k_ => ((w.heap.size ≤ k_) ∧ (k_ ≠ mA ∧ (k_ ≠ pA ∧ k_ ≠ fA)))) _ _ jA gA ((rd_T78 l0 aA).f2) ((rd_T78 l0 aA).f1) ((rd_T78 l0 aA).f3) _ _ ((rd_T78 l0 aA).f4) xB yB zB aC fC _ ?side1 ?side2 ?side3 ?side4 A9.out).mono ?_); (case side1 => exact bA.out); (case side2 => exact cA.out); (case side3 => exact cs_ ((Kd.C_below lB.out HB.out))); (case side4 => exact mB.out); rintro e dR ⟨cD, dD, rfl, dC, eC, hb⟩; refine ⟨_, rfl, ?_⟩; replace bA := am_ (Kd.V_below (vF_ bA.out) hb); replace cA := am_ (Kd.V_below (vF_ cA.out) hb); have yA := am_ (Kd.V_lower (Kd.V_mono (ok' := fun k_ => (w.heap.size ≤ k_) ∧ k_ ≠ mA ∧ k_ ≠ pA ∧ k_ ≠ fA) dC (fun k_ hk_ => ⟨Or.elim hk_ (fun hs_ => Or.elim hs_ (fun hs_ => hs_.1) (fun hs_ => hs_.1)) (fun hn_ => (Nat.le_trans (below_size (hs3_ kA.out lA.out nA.out)) hn_)), Or.elim hk_ (fun hs_ => Or.elim hs_ (fun hs_ => hs_.2.1) (fun hs_ => hs_.2.1)) (fun hn_ => (Kd.freshB (g := mA) (o := .cells #[.slice none 0 0, .slice none 0 0, .int .i64 oA] 33 (0, 0)) (kb_ dA.out) k_ hn_)), Or.elim hk_ (fun hs_ => Or.elim hs_ (fun hs_ => hs_.2.2.1) (fun hs_ => hs_.2.2.1)) (fun hn_ => (Kd.freshB (g := pA) (o := .cells #[.slice sC iA.length tC, .slice uC jA.length vC, .int .i64 gA] 33 (0, 0)) (kb_ eA.out) k_ hn_)), Or.elim hk_ (fun hs_ => Or.elim hs_ (fun hs_ => hs_.2.2.2) (fun hs_ => hs_.2.2.2)) (fun hn_ => (Kd.freshB (g := fA) (o := .cells #[.int .i64 ((rd_T78 l0 aA).f0), .int .i64 ((rd_T78 l0 aA).f1), .int .i64 ((rd_T78 l0 aA).f2), .int .i64 ((rd_T78 l0 aA).f3), .slice qA ((rd_T78 l0 aA).f4).length rA] 78 (0, 0)) (kb_ hA.out) k_ hn_))⟩)) (below_size (hs3_ kA.out lA.out nA.out))); have zA := am_ (Kd.V_lower (Kd.V_mono (ok' := fun k_ => (w.heap.size ≤ k_) ∧ k_ ≠ mA ∧ k_ ≠ pA ∧ k_ ≠ fA) eC (fun k_ hk_ => ⟨Or.elim hk_ (fun hs_ => Or.elim hs_ (fun hs_ => hs_.1) (fun hs_ => hs_.1)) (fun hn_ => (Nat.le_trans (below_size (hs3_ kA.out lA.out nA.out)) hn_)), Or.elim hk_ (fun hs_ => Or.elim hs_ (fun hs_ => hs_.2.1) (fun hs_ => hs_.2.1)) (fun hn_ => (Kd.freshB (g := mA) (o := .cells #[.slice none 0 0, .slice none 0 0, .int .i64 oA] 33 (0, 0)) (kb_ dA.out) k_ hn_)), Or.elim hk_ (fun hs_ => Or.elim hs_ (fun hs_ => hs_.2.2.1) (fun hs_ => hs_.2.2.1)) (fun hn_ => (Kd.freshB (g := pA) (o := .cells #[.slice sC iA.length tC, .slice uC jA.length vC, .int .i64 gA] 33 (0, 0)) (kb_ eA.out) k_ hn_)), Or.elim hk_ (fun hs_ => Or.elim hs_ (fun hs_ => hs_.2.2.2) (fun hs_ => hs_.2.2.2)) (fun hn_ => (Kd.freshB (g := fA) (o := .cells #[.int .i64 ((rd_T78 l0 aA).f0), .int .i64 ((rd_T78 l0 aA).f1), .int .i64 ((rd_T78 l0 aA).f2), .int .i64 ((rd_T78 l0 aA).f3), .slice qA ((rd_T78 l0 aA).f4).length rA] 78 (0, 0)) (kb_ hA.out) k_ hn_))⟩)) (below_size (hs3_ kA.out lA.out nA.out))); replace dA := bK_ dA hb; replace eA := bK_ eA hb; replace hA := bK_ hA hb; replace HB := nc3_ kA lA nA hb; (try clear hb); (try clear hb2); (try clear hk); (try clear hi); (try clear dC); (try clear eC)) | ((with_reducible refine gate_dst (N := 7) rfl ?_); refine bq_ (N := 7) #[.slice none 0 0, .slice none 0 0, .int .i64 0] 33 ?_; intro sA hg eR sB hb; replace bA := am_ (Kd.V_below (Kd.V_elderB (vF_ bA.out) sA (Nat.le_of_eq hg.symm)) hb); replace cA := am_ (Kd.V_below (Kd.V_elderB (vF_ cA.out) sA (Nat.le_of_eq hg.symm)) hb); replace yA := am_ (Kd.V_below (Kd.V_elderB (vF_ yA.out) sA (Nat.le_of_eq hg.symm)) hb); replace zA := am_ (Kd.V_below (Kd.V_elderB (vF_ zA.out) sA (Nat.le_of_eq hg.symm)) hb); have uB := ge3_ hg kA lA nA; replace HB := nc3_ kA lA nA hb; have vA := nl_ dA hg; have pB := ng_ dA hg; replace dA := bK_ dA hb; have wA := nl_ eA hg; have qB := ng_ eA hg; replace eA := bK_ eA hb; have xA := nl_ hA hg; have rB := ng_ hA hg; replace hA := bK_ hA hb; clear hb hg; obtain ⟨mE, nE, jO⟩ := Kd.V_slice yA.out; subst jO; have cQ := pB.out; have dQ := vA.out; have eQ := qB.out; have fQ := wA.out; have gQ := rB.out; have hQ := xA.out; obtain ⟨tL, uL, vL, wL, xL, yL⟩ := cf3_ sB.out; obtain ⟨oE, pE, kO⟩ := Kd.V_slice zA.out; subst kO; obtain ⟨zL, aM, bM, cM, dM, eM, fM, gM, hM, iM⟩ := cf5_ hA.out) | ((with_reducible refine gate_callee (f := 55) rfl ?_); refine gl_ 33 Try.func55 #[.agg #[.int .i64 ((rd_T78 l0 aA).f0), .int .i64 ((rd_T78 l0 aA).f1), .int .i64 ((rd_T78 l0 aA).f2), .int .i64 ((rd_T78 l0 aA).f3), .slice qA ((rd_T78 l0 aA).f4).length rA]] rfl ma_ ?_; (with_reducible refine (spec_GoodBatch.calls k1 ((rd_T78 l0 aA).f0) ((rd_T78 l0 aA).f1) ((rd_T78 l0 aA).f2) ((rd_T78 l0 aA).f3) _ _ ((rd_T78 l0 aA).f4) true _ ?side1 ?side2 rE.out).mono ?_); (case side1 => exact Kd.C_below lB.out (hs4_ kA.out lA.out nA.out uB.out)); (case side2 => exact mB.out); rintro e fR ⟨rfl, hb⟩; refine ⟨_, rfl, ?_⟩; replace bA := am_ (Kd.V_below ((Kd.V_mono (vF_ (Kd.V_mono bA.out (fun k_ hk => (⟨hk, hk.2⟩ : _ ∧ k_ ≠ sA)))) (fun _ h_ => h_.1))) hb); replace cA := am_ (Kd.V_below ((Kd.V_mono (vF_ (Kd.V_mono cA.out (fun k_ hk => (⟨hk, hk.2⟩ : _ ∧ k_ ≠ sA)))) (fun _ h_ => h_.1))) hb); replace yA := am_ (Kd.V_below ((Kd.V_mono (vF_ (Kd.V_mono yA.out (fun k_ hk => (⟨hk, hk.2⟩ : _ ∧ k_ ≠ sA)))) (fun _ h_ => h_.1))) hb); replace zA := am_ (Kd.V_below ((Kd.V_mono (vF_ (Kd.V_mono zA.out (fun k_ hk => (⟨hk, hk.2⟩ : _ ∧ k_ ≠ sA)))) (fun _ h_ => h_.1))) hb); replace dA := am_ (blk_below (g := mA) (o := .cells #[.slice none 0 0, .slice none 0 0, .int .i64 oA] 33 (0, 0)) (uf_ dA vA.out) hb); replace eA := am_ (blk_below (g := pA) (o := .cells #[.slice sC iA.length tC, .slice uC jA.length vC, .int .i64 gA] 33 (0, 0)) (uf_ eA wA.out) hb); replace hA := am_ (blk_below (g := fA) (o := .cells #[.int .i64 ((rd_T78 l0 aA).f0), .int .i64 ((rd_T78 l0 aA).f1), .int .i64 ((rd_T78 l0 aA).f2), .int .i64 ((rd_T78 l0 aA).f3), .slice qA ((rd_T78 l0 aA).f4).length rA] 78 (0, 0)) (uf_ hA xA.out) hb); replace sB := am_ (blk_below (g := sA) (o := .cells #[.slice mE xB.length nE, .slice oE yB.length pE, .int .i64 zB] 33 (0, 0)) (up_ sB) hb); replace HB := nc4_ kA lA nA uB hb; (try clear hb); (try clear hb2); (try clear hk); (try clear hi); obtain ⟨jM, kM, lM, mM, nM, oM, pM, qM, rM, sM⟩ := cf5_ hA.out; obtain ⟨tM, uM, vM, wM, xM, yM⟩ := cf3_ eA.out; obtain ⟨zM, aN, bN, cN, dN, eN⟩ := cf3_ sB.out))
   go_roundg k1
   case measure => have := lO.out; omega
   case rel => exact ⟨(wrap64 (aA + 1)), (oA), (xB), (yB), (zB), (.slice mE xB.length nE), (.slice oE yB.length pE), sr_, H', ⟨by have := lO.out; omega⟩, ⟨Kd.V_mono (vF_ (Kd.V_mono yA.out (fun k_ hk => (⟨hk, hk.1.2.2.1⟩ : _ ∧ k_ ≠ pA)))) (fun _ hk => ⟨hk.1.1.1, ⟨hk.1.1.2.1, hk.1.1.2.2.1⟩⟩)⟩, ⟨Kd.V_mono (vF_ (Kd.V_mono zA.out (fun k_ hk => (⟨hk, hk.1.2.2.1⟩ : _ ∧ k_ ≠ pA)))) (fun _ hk => ⟨hk.1.1.1, ⟨hk.1.1.2.1, hk.1.1.2.2.1⟩⟩)⟩, ⟨uf_ dA bB.out⟩, ⟨up_ eA⟩, ⟨hs4_ kA.out lA.out nA.out uB.out⟩⟩
end Go.Proofs.Ytojdaolclcmalaa.QFnExactAskPart
